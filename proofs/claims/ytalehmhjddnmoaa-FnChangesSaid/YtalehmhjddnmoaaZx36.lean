import Derived.Test.YtalehmhjddnmoaaZx0
import Derived.Test.YtalehmhjddnmoaaZx1
import Derived.Test.YtalehmhjddnmoaaZx4
import Derived.Test.YtalehmhjddnmoaaZx6
import Derived.Test.YtalehmhjddnmoaaZx9
import Derived.Test.YtalehmhjddnmoaaZx16
import Derived.Test.YtalehmhjddnmoaaZx25
import Derived.Test.YtalehmhjddnmoaaZx27
import Derived.Test.YtalehmhjddnmoaaZx30
namespace Go.Proofs.Ytalehmhjddnmoaa.Z
open Go.RowKit Go.Proofs.YtalehmhjddnmoaaW.PrintWords Go.Proofs.YtalehmhjddnmoaaW.PrintLast Go.Proofs.YtalehmhjddnmoaaW.PrintMore
attribute [local go_sem] max2_int min2_int max_two min_two max_three min_three max_four min_four   -- for this text's walks alone
set_option linter.unusedVariables false
set_option linter.unusedSimpArgs false
attribute [local go_sem high] eqA27
mutual
def laws_FnChanges.j0 : Nat → Bool → Bool → Int → Int → ByteArray → Int → Int → Int → ByteArray → Option (Bool)
 | 0, _, _, _, _, _, _, _, _, _ => none
 | k + 1, x6, x53, x475000, x475001, x475002, x476000, x476001, x476002, x476003 => if x53 = true then (some false) else ((spec_MsgOk.f k x475000 x475001 x475002).bind fun t487 => (if t487 = true then ((spec_MsgOk.f k x476001 x476002 x476003).bind fun t488 => (laws_FnChanges.j1 k x6 (!t488) x475000 x475001 x475002 x476000 x476001 x476002 x476003)) else (laws_FnChanges.j1 k x6 true x475000 x475001 x475002 x476000 x476001 x476002 x476003)))
def laws_FnChanges.j1 : Nat → Bool → Bool → Int → Int → ByteArray → Int → Int → Int → ByteArray → Option (Bool)
 | 0, _, _, _, _, _, _, _, _, _ => none
 | k + 1, x6, x62, x475000, x475001, x475002, x476000, x476001, x476002, x476003 => if x62 = true then (some (!x6)) else ((impl_Changed.f k x475000 x475001 x475002 4 x476001 x476002 x476003).bind fun bt489 => ((impl_Changed.f k x476001 x476002 x476003 4 x475000 x475001 x475002).bind fun bt494 => ((impl_Changed.f k x475000 x475001 x475002 2 x476001 x476002 x476003).bind fun bt499 => ((impl_Changed.f k x476001 x476002 x476003 2 x475000 x475001 x475002).bind fun bt504 => ((impl_Changed.f k x475000 x475001 x475002 1 x476001 x476002 x476003).bind fun bt509 => (if bt489.2.2.2 = true then (if bt494.2.2.2 = true then (if (bt489.1 == bt494.1 && (bt489.2.1 == bt494.2.1 && (bt489.2.2.1.toList == bt494.2.2.1.toList))) = true then ((spec_MsgLess.f k bt489.1 bt489.2.1 bt489.2.2.1 x475000 x475001 x475002).bind fun t514 => (if t514 = true then (some false) else (if (bt499.2.2.2 == bt504.2.2.2) = true then (if (bt499.1 == bt504.1 && (bt499.2.1 == bt504.2.1 && (bt499.2.2.1.toList == bt504.2.2.1.toList))) = true then (if bt509.2.2.2 = true then (some (bt509.1 == x476001 && (bt509.2.1 == x476002 && (bt509.2.2.1.toList == x476003.toList)))) else (some false)) else (some false)) else (some false)))) else (some false)) else (some false)) else (some false)))))))
end
def laws_FnChanges.f (k : Nat) (l0 : List Int) : Option (Bool) := (laws_big.f l0).bind fun t466 => (if t466 = true then (some true) else ((spec_DrawChanged.f k l0).bind fun bt467 => ((impl_Changed.f k bt467.1 bt467.2.1 bt467.2.2.1 bt467.2.2.2.1 bt467.2.2.2.2.1 bt467.2.2.2.2.2.1 bt467.2.2.2.2.2.2).bind fun bt476 => ((spec_Changed.f k bt467.1 bt467.2.1 bt467.2.2.1 bt467.2.2.2.1 bt467.2.2.2.2.1 bt467.2.2.2.2.2.1 bt467.2.2.2.2.2.2).bind fun bt481 => (if (bt476.2.2.2 != bt481.2.2.2) = true then (laws_FnChanges.j0 k bt476.2.2.2 true bt467.1 bt467.2.1 bt467.2.2.1 bt467.2.2.2.1 bt467.2.2.2.2.1 bt467.2.2.2.2.2.1 bt467.2.2.2.2.2.2) else (if (!(bt476.1 == bt481.1) || (!(bt476.2.1 == bt481.2.1) || (!(bt476.2.2.1.toList == bt481.2.2.1.toList)))) = true then (laws_FnChanges.j0 k bt476.2.2.2 true bt467.1 bt467.2.1 bt467.2.2.1 bt467.2.2.2.1 bt467.2.2.2.2.1 bt467.2.2.2.2.2.1 bt467.2.2.2.2.2.2) else (if bt481.2.2.2 = true then ((impl_MsgOk.f k bt476.1 bt476.2.1 bt476.2.2.1).bind fun t486 => (laws_FnChanges.j0 k bt476.2.2.2 (!t486) bt467.1 bt467.2.1 bt467.2.2.1 bt467.2.2.2.1 bt467.2.2.2.2.1 bt467.2.2.2.2.2.1 bt467.2.2.2.2.2.2)) else (laws_FnChanges.j0 k bt476.2.2.2 false bt467.1 bt467.2.1 bt467.2.2.1 bt467.2.2.2.1 bt467.2.2.2.2.1 bt467.2.2.2.2.2.1 bt467.2.2.2.2.2.2))))))))
theorem laws_FnChanges.mono_l : ∀ k, (∀ y0 y1 y2 y3 y4 y5 y6 y7 y8, LeO (laws_FnChanges.j0 k y0 y1 y2 y3 y4 y5 y6 y7 y8) (laws_FnChanges.j0 (k + 1) y0 y1 y2 y3 y4 y5 y6 y7 y8)) ∧ (∀ y0 y1 y2 y3 y4 y5 y6 y7 y8, LeO (laws_FnChanges.j1 k y0 y1 y2 y3 y4 y5 y6 y7 y8) (laws_FnChanges.j1 (k + 1) y0 y1 y2 y3 y4 y5 y6 y7 y8))
 | 0 => ⟨fun _ _ _ _ _ _ _ _ _ r h => by simp [laws_FnChanges.j0] at h, fun _ _ _ _ _ _ _ _ _ r h => by simp [laws_FnChanges.j1] at h⟩
 | k + 1 => by
  obtain ⟨ih0, ih1⟩ := laws_FnChanges.mono_l k
  refine ⟨?_, ?_⟩
  ·intro y0 y1 y2 y3 y4 y5 y6 y7 y8
   unfold laws_FnChanges.j0
   repeat' first
   | (with_reducible exact ih0 _ _ _ _ _ _ _ _ _)
   | (with_reducible exact ih1 _ _ _ _ _ _ _ _ _)
   | (with_reducible exact impl_Changed.mono _ _ _ _ _ _ _ _)
   | (with_reducible exact impl_MsgOk.mono _ _ _ _)
   | (with_reducible exact spec_Changed.mono _ _ _ _ _ _ _ _)
   | (with_reducible exact spec_DrawChanged.mono _ _)
   | (with_reducible exact spec_MsgLess.mono _ _ _ _ _ _ _)
   | (with_reducible exact spec_MsgOk.mono _ _ _ _)
   | (with_reducible exact LeO.refl _)
   | (with_reducible exact LeO.none _)
   | (with_reducible refine LeO.ite ?_ ?_)
   | (with_reducible refine LeO.bind ?_ (fun _ => ?_))
  ·intro y0 y1 y2 y3 y4 y5 y6 y7 y8
   unfold laws_FnChanges.j1
   repeat' first
   | (with_reducible exact ih0 _ _ _ _ _ _ _ _ _)
   | (with_reducible exact ih1 _ _ _ _ _ _ _ _ _)
   | (with_reducible exact impl_Changed.mono _ _ _ _ _ _ _ _)
   | (with_reducible exact impl_MsgOk.mono _ _ _ _)
   | (with_reducible exact spec_Changed.mono _ _ _ _ _ _ _ _)
   | (with_reducible exact spec_DrawChanged.mono _ _)
   | (with_reducible exact spec_MsgLess.mono _ _ _ _ _ _ _)
   | (with_reducible exact spec_MsgOk.mono _ _ _ _)
   | (with_reducible exact LeO.refl _)
   | (with_reducible exact LeO.none _)
   | (with_reducible refine LeO.ite ?_ ?_)
   | (with_reducible refine LeO.bind ?_ (fun _ => ?_))
theorem laws_FnChanges.mono : ∀ a0 k, LeO (laws_FnChanges.f k a0) (laws_FnChanges.f (k + 1) a0) := by
 intro a0 k
 obtain ⟨ih0, ih1⟩ := laws_FnChanges.mono_l k
 unfold laws_FnChanges.f
 repeat' first
   | (with_reducible exact ih0 _ _ _ _ _ _ _ _ _)
   | (with_reducible exact ih1 _ _ _ _ _ _ _ _ _)
   | (with_reducible exact impl_Changed.mono _ _ _ _ _ _ _ _)
   | (with_reducible exact impl_MsgOk.mono _ _ _ _)
   | (with_reducible exact spec_Changed.mono _ _ _ _ _ _ _ _)
   | (with_reducible exact spec_DrawChanged.mono _ _)
   | (with_reducible exact spec_MsgLess.mono _ _ _ _ _ _ _)
   | (with_reducible exact spec_MsgOk.mono _ _ _ _)
   | (with_reducible exact LeO.refl _)
   | (with_reducible exact LeO.none _)
   | (with_reducible refine LeO.ite ?_ ?_)
   | (with_reducible refine LeO.bind ?_ (fun _ => ?_))
set_option maxHeartbeats 8000000 in
set_option maxRecDepth 100000 in
theorem laws_FnChanges.calls (k : Nat) (A0 : Option Addr) (c0 : Nat) (l0 : List Int) (r : Bool) (w : World) (hr0 : Kd.C (Kd.int .u8) w A0 l0.length l0) (hc0 : l0.length ≤ c0) (HQ_ : Aside0 (r = true)) (h : laws_FnChanges.f k l0 = some r) :
  Calls Try.prog 11 #[.slice A0 l0.length c0] w fun e w' => e = .returned (.bool r) ∧ Below w.heap.size w w' := by
 have hu27 := Try.underlying27
 have hu45 := Try.underlying45
 have HR0 := am hr0
 have HC0 := am hc0
 clear hr0 hc0
 have HB := am (Below.refl w.heap.size w)
 have H : ((laws_big.f l0).bind fun t466 => (if t466 = true then (some true) else ((spec_DrawChanged.f k l0).bind fun bt467 => ((impl_Changed.f k bt467.1 bt467.2.1 bt467.2.2.1 bt467.2.2.2.1 bt467.2.2.2.2.1 bt467.2.2.2.2.2.1 bt467.2.2.2.2.2.2).bind fun bt476 => ((spec_Changed.f k bt467.1 bt467.2.1 bt467.2.2.1 bt467.2.2.2.1 bt467.2.2.2.2.1 bt467.2.2.2.2.2.1 bt467.2.2.2.2.2.2).bind fun bt481 => (if (bt476.2.2.2 != bt481.2.2.2) = true then (laws_FnChanges.j0 k bt476.2.2.2 true bt467.1 bt467.2.1 bt467.2.2.1 bt467.2.2.2.1 bt467.2.2.2.2.1 bt467.2.2.2.2.2.1 bt467.2.2.2.2.2.2) else (if (!(bt476.1 == bt481.1) || (!(bt476.2.1 == bt481.2.1) || (!(bt476.2.2.1.toList == bt481.2.2.1.toList)))) = true then (laws_FnChanges.j0 k bt476.2.2.2 true bt467.1 bt467.2.1 bt467.2.2.1 bt467.2.2.2.1 bt467.2.2.2.2.1 bt467.2.2.2.2.2.1 bt467.2.2.2.2.2.2) else (if bt481.2.2.2 = true then ((impl_MsgOk.f k bt476.1 bt476.2.1 bt476.2.2.1).bind fun t486 => (laws_FnChanges.j0 k bt476.2.2.2 (!t486) bt467.1 bt467.2.1 bt467.2.2.1 bt467.2.2.2.1 bt467.2.2.2.2.1 bt467.2.2.2.2.2.1 bt467.2.2.2.2.2.2)) else (laws_FnChanges.j0 k bt476.2.2.2 false bt467.1 bt467.2.1 bt467.2.2.1 bt467.2.2.2.1 bt467.2.2.2.2.1 bt467.2.2.2.2.2.1 bt467.2.2.2.2.2.2))))))))) = some r := h
 clear h
 replace H := Option.bind_eq_some_iff.mp H
 obtain ⟨t466, A20, H⟩ := H
 replace H : (if t466 = true then (some true) else ((spec_DrawChanged.f k l0).bind fun bt467 => ((impl_Changed.f k bt467.1 bt467.2.1 bt467.2.2.1 bt467.2.2.2.1 bt467.2.2.2.2.1 bt467.2.2.2.2.2.1 bt467.2.2.2.2.2.2).bind fun bt476 => ((spec_Changed.f k bt467.1 bt467.2.1 bt467.2.2.1 bt467.2.2.2.1 bt467.2.2.2.2.1 bt467.2.2.2.2.2.1 bt467.2.2.2.2.2.2).bind fun bt481 => (if (bt476.2.2.2 != bt481.2.2.2) = true then (laws_FnChanges.j0 k bt476.2.2.2 true bt467.1 bt467.2.1 bt467.2.2.1 bt467.2.2.2.1 bt467.2.2.2.2.1 bt467.2.2.2.2.2.1 bt467.2.2.2.2.2.2) else (if (!(bt476.1 == bt481.1) || (!(bt476.2.1 == bt481.2.1) || (!(bt476.2.2.1.toList == bt481.2.2.1.toList)))) = true then (laws_FnChanges.j0 k bt476.2.2.2 true bt467.1 bt467.2.1 bt467.2.2.1 bt467.2.2.2.1 bt467.2.2.2.2.1 bt467.2.2.2.2.2.1 bt467.2.2.2.2.2.2) else (if bt481.2.2.2 = true then ((impl_MsgOk.f k bt476.1 bt476.2.1 bt476.2.2.1).bind fun t486 => (laws_FnChanges.j0 k bt476.2.2.2 (!t486) bt467.1 bt467.2.1 bt467.2.2.1 bt467.2.2.2.1 bt467.2.2.2.2.1 bt467.2.2.2.2.2.1 bt467.2.2.2.2.2.2)) else (laws_FnChanges.j0 k bt476.2.2.2 false bt467.1 bt467.2.1 bt467.2.2.1 bt467.2.2.2.1 bt467.2.2.2.2.1 bt467.2.2.2.2.2.1 bt467.2.2.2.2.2.2)))))))) = some r := H
 have A2 := am A20
 clear A20
 by_cases c3 : t466 = true
 ·subst c3
  replace H : (some true) = some r := by rw [if_pos rfl] at H; exact H
  obtain rfl := Option.some.inj H
  go_enter Try.func11, Try.ntmps11
  go_wp2_with (first | ((with_reducible refine gate_callee (f := 23) rfl ?_); refine goesL_ (some 20) rfl rfl Try.func23 (by kernel_rfl) rfl #[.slice A0 l0.length c0] rfl mpx ?_; (with_reducible refine (laws_big.calls _ _ l0 true _ ?side1 ?side2 A2.out).mono ?_); (case side1 => exact pkC HR0.out); (case side2 => exact HC0.out); rintro e w' ⟨rfl, ⟨nd, rfl⟩⟩; refine ⟨_, rfl, ?_⟩))
  go_ret
  exact ⟨rfe, pkB HB.out⟩
 ·replace c3 := Bool.eq_false_iff.mpr c3
  subst c3
  replace H : ((spec_DrawChanged.f k l0).bind fun bt467 => ((impl_Changed.f k bt467.1 bt467.2.1 bt467.2.2.1 bt467.2.2.2.1 bt467.2.2.2.2.1 bt467.2.2.2.2.2.1 bt467.2.2.2.2.2.2).bind fun bt476 => ((spec_Changed.f k bt467.1 bt467.2.1 bt467.2.2.1 bt467.2.2.2.1 bt467.2.2.2.2.1 bt467.2.2.2.2.2.1 bt467.2.2.2.2.2.2).bind fun bt481 => (if (bt476.2.2.2 != bt481.2.2.2) = true then (laws_FnChanges.j0 k bt476.2.2.2 true bt467.1 bt467.2.1 bt467.2.2.1 bt467.2.2.2.1 bt467.2.2.2.2.1 bt467.2.2.2.2.2.1 bt467.2.2.2.2.2.2) else (if (!(bt476.1 == bt481.1) || (!(bt476.2.1 == bt481.2.1) || (!(bt476.2.2.1.toList == bt481.2.2.1.toList)))) = true then (laws_FnChanges.j0 k bt476.2.2.2 true bt467.1 bt467.2.1 bt467.2.2.1 bt467.2.2.2.1 bt467.2.2.2.2.1 bt467.2.2.2.2.2.1 bt467.2.2.2.2.2.2) else (if bt481.2.2.2 = true then ((impl_MsgOk.f k bt476.1 bt476.2.1 bt476.2.2.1).bind fun t486 => (laws_FnChanges.j0 k bt476.2.2.2 (!t486) bt467.1 bt467.2.1 bt467.2.2.1 bt467.2.2.2.1 bt467.2.2.2.2.1 bt467.2.2.2.2.2.1 bt467.2.2.2.2.2.2)) else (laws_FnChanges.j0 k bt476.2.2.2 false bt467.1 bt467.2.1 bt467.2.2.1 bt467.2.2.2.1 bt467.2.2.2.2.1 bt467.2.2.2.2.2.1 bt467.2.2.2.2.2.2))))))) = some r := by rw [if_neg (show ¬ (false = true) by decide)] at H; exact H
  replace H := Option.bind_eq_some_iff.mp H
  obtain ⟨⟨t467, t468, t469, t470, t471, t472, t473⟩, A40, H⟩ := H
  replace H : ((impl_Changed.f k t467 t468 t469 t470 t471 t472 t473).bind fun bt476 => ((spec_Changed.f k t467 t468 t469 t470 t471 t472 t473).bind fun bt481 => (if (bt476.2.2.2 != bt481.2.2.2) = true then (laws_FnChanges.j0 k bt476.2.2.2 true t467 t468 t469 t470 t471 t472 t473) else (if (!(bt476.1 == bt481.1) || (!(bt476.2.1 == bt481.2.1) || (!(bt476.2.2.1.toList == bt481.2.2.1.toList)))) = true then (laws_FnChanges.j0 k bt476.2.2.2 true t467 t468 t469 t470 t471 t472 t473) else (if bt481.2.2.2 = true then ((impl_MsgOk.f k bt476.1 bt476.2.1 bt476.2.2.1).bind fun t486 => (laws_FnChanges.j0 k bt476.2.2.2 (!t486) t467 t468 t469 t470 t471 t472 t473)) else (laws_FnChanges.j0 k bt476.2.2.2 false t467 t468 t469 t470 t471 t472 t473)))))) = some r := H
  have A4 := am A40
  clear A40
  replace H := Option.bind_eq_some_iff.mp H
  obtain ⟨⟨t476, t477, t478, t479⟩, A50, H⟩ := H
  replace H : ((spec_Changed.f k t467 t468 t469 t470 t471 t472 t473).bind fun bt481 => (if (t479 != bt481.2.2.2) = true then (laws_FnChanges.j0 k t479 true t467 t468 t469 t470 t471 t472 t473) else (if (!(t476 == bt481.1) || (!(t477 == bt481.2.1) || (!(t478.toList == bt481.2.2.1.toList)))) = true then (laws_FnChanges.j0 k t479 true t467 t468 t469 t470 t471 t472 t473) else (if bt481.2.2.2 = true then ((impl_MsgOk.f k t476 t477 t478).bind fun t486 => (laws_FnChanges.j0 k t479 (!t486) t467 t468 t469 t470 t471 t472 t473)) else (laws_FnChanges.j0 k t479 false t467 t468 t469 t470 t471 t472 t473))))) = some r := H
  have A5 := am A50
  clear A50
  replace H := Option.bind_eq_some_iff.mp H
  obtain ⟨⟨t481, t482, t483, t484⟩, A60, H⟩ := H
  replace H : (if (t479 != t484) = true then (laws_FnChanges.j0 k t479 true t467 t468 t469 t470 t471 t472 t473) else (if (!(t476 == t481) || (!(t477 == t482) || (!(t478.toList == t483.toList)))) = true then (laws_FnChanges.j0 k t479 true t467 t468 t469 t470 t471 t472 t473) else (if t484 = true then ((impl_MsgOk.f k t476 t477 t478).bind fun t486 => (laws_FnChanges.j0 k t479 (!t486) t467 t468 t469 t470 t471 t472 t473)) else (laws_FnChanges.j0 k t479 false t467 t468 t469 t470 t471 t472 t473)))) = some r := H
  have A6 := am A60
  clear A60
  have HC7 := am H
  clear H
  go_enter Try.func11, Try.ntmps11
  go_upto_region 6 with (first | ((with_reducible refine gate_callee (f := 23) rfl ?_); refine goesL_ (some 20) rfl rfl Try.func23 (by kernel_rfl) rfl #[.slice A0 l0.length c0] rfl mpx ?_; (with_reducible refine (laws_big.calls _ _ l0 false _ ?side1 ?side2 A2.out).mono ?_); (case side1 => exact pkC HR0.out); (case side2 => exact HC0.out); rintro e w' ⟨rfl, ⟨nd, rfl⟩⟩; refine ⟨_, rfl, ?_⟩) | ((with_reducible refine gate_callee (f := 31) rfl ?_); refine goesL_ (some 23) rfl rfl Try.func31 (by kernel_rfl) rfl #[.slice A0 l0.length c0] rfl mpx ?_; (with_reducible refine (spec_DrawChanged.calls k _ _ l0 t467 t468 t469 t470 t471 t472 t473 _ ?side1 ?side2 A4.out).mono ?_); (case side1 => exact pkC HR0.out); (case side2 => exact HC0.out); rintro e w8 ⟨rfl, hb⟩; refine ⟨_, rfl, ?_⟩; replace HB := am (below_step (pkB HB.out) hb); (try clear hb)) | ((with_reducible refine gate_dst (N := 3) rfl ?_); refine box_event ?hg (N := 3) ?hd (cs := #[.int .i64 0, .int .i64 0, .string (⟨#[]⟩ : ByteArray)]) (t := 27) ?hr ?_; (case hd => rfl); (case hg => rfl); (case hr => first | (go_simp; done) | (go_simp; rfl)); intro gb474 hg w9 hbox hb; have BK474 := am (hbox); have GW474 := am ((by rw [hg]; exact (below_size (pkB HB.out)) : w.heap.size ≤ gb474)); have GE474 := am ((by rw [hg]; exact (below_size (pkB HB.out)) : w.heap.size ≤ gb474)); replace HB := am (below_step (pkB HB.out) hb); clear hb hbox hg) | ((with_reducible refine gate_dst (N := 4) rfl ?_); refine box_event ?hg (N := 4) ?hd (cs := #[.int .i64 0, .int .i64 0, .int .i64 0, .string (⟨#[]⟩ : ByteArray)]) (t := 45) ?hr ?_; (case hd => rfl); (case hg => rfl); (case hr => first | (go_simp; done) | (go_simp; rfl)); intro gb475 hg w10 hbox hb; have BK475 := am (hbox); have GW475 := am ((by rw [hg]; exact (below_size (pkW HB.out)) : w.heap.size ≤ gb475)); have GE475 := am ((by rw [hg]; exact (below_size (pkW HB.out)) : w.heap.size ≤ gb475)); replace HB := am (below_step (pkW HB.out) hb); have NB474_475 := am ((by rw [hg]; exact Nat.ne_of_lt (blk_lt (g := gb474) (o := .cells #[.int .i64 0, .int .i64 0, .string (⟨#[]⟩ : ByteArray)] 27 (0, 0)) (pkK BK474.out)) : gb474 ≠ gb475)); have NB475_474 := am ((by rw [hg]; exact Nat.ne_of_gt (blk_lt (g := gb474) (o := .cells #[.int .i64 0, .int .i64 0, .string (⟨#[]⟩ : ByteArray)] 27 (0, 0)) (pkK BK474.out)) : gb475 ≠ gb474)); replace BK474 := am (blk_below (pkK BK474.out) hb); clear hb hbox hg; have hnb11 := NB474_475.out; have hnc11 := NB475_474.out; obtain ⟨hcz12_0, hcz12_1, hcz12_2, hfz12_0, hfz12_1, hfz12_2⟩ := bk3 BK474.out; obtain ⟨hcz13_0, hcz13_1, hcz13_2, hcz13_3, hfz13_0, hfz13_1, hfz13_2, hfz13_3⟩ := bk4 BK475.out) | ((with_reducible refine gate_callee (f := 28) rfl ?_); refine goesL_ (some 29) rfl rfl Try.func28 (by kernel_rfl) rfl #[.agg #[.int .i64 t467, .int .i64 t468, .string t469], .agg #[.int .i64 t470, .int .i64 t471, .int .i64 t472, .string t473]] rfl mpx ?_; (with_reducible refine (impl_Changed.calls k t467 t468 t469 t470 t471 t472 t473 t476 t477 t478 t479 _ A5.out).mono ?_); rintro e w14 ⟨rfl, hb⟩; refine ⟨_, rfl, ?_⟩; replace BK474 := am (blk_below (g := gb474) (o := .cells #[.int .i64 t467, .int .i64 t468, .string t469] 27 (0, 0)) (by (with_reducible repeat (first | refine blk_drewN ?_ _ | refine blk_drew ?_ | refine blk_alloc ?_ _)); refine blk_far ?_ NB474_475.out _; (with_reducible repeat (first | refine blk_drewN ?_ _ | refine blk_drew ?_ | refine blk_alloc ?_ _)); refine blk_far ?_ NB474_475.out _; (with_reducible repeat (first | refine blk_drewN ?_ _ | refine blk_drew ?_ | refine blk_alloc ?_ _)); refine blk_far ?_ NB474_475.out _; (with_reducible repeat (first | refine blk_drewN ?_ _ | refine blk_drew ?_ | refine blk_alloc ?_ _)); refine blk_far ?_ NB474_475.out _; (with_reducible repeat (first | refine blk_drewN ?_ _ | refine blk_drew ?_ | refine blk_alloc ?_ _)); refine blk_put (cs := #[.int .i64 t467, .int .i64 t468, .string (⟨#[]⟩ : ByteArray)]) ?_ 2 _ rfl; (with_reducible repeat (first | refine blk_drewN ?_ _ | refine blk_drew ?_ | refine blk_alloc ?_ _)); refine blk_put (cs := #[.int .i64 t467, .int .i64 0, .string (⟨#[]⟩ : ByteArray)]) ?_ 1 _ rfl; (with_reducible repeat (first | refine blk_drewN ?_ _ | refine blk_drew ?_ | refine blk_alloc ?_ _)); refine blk_put (cs := #[.int .i64 0, .int .i64 0, .string (⟨#[]⟩ : ByteArray)]) ?_ 0 _ rfl; exact pkK BK474.out) hb); replace BK475 := am (blk_below (g := gb475) (o := .cells #[.int .i64 t470, .int .i64 t471, .int .i64 t472, .string t473] 45 (0, 0)) (by (with_reducible repeat (first | refine blk_drewN ?_ _ | refine blk_drew ?_ | refine blk_alloc ?_ _)); refine blk_put (cs := #[.int .i64 t470, .int .i64 t471, .int .i64 t472, .string (⟨#[]⟩ : ByteArray)]) ?_ 3 _ rfl; (with_reducible repeat (first | refine blk_drewN ?_ _ | refine blk_drew ?_ | refine blk_alloc ?_ _)); refine blk_put (cs := #[.int .i64 t470, .int .i64 t471, .int .i64 0, .string (⟨#[]⟩ : ByteArray)]) ?_ 2 _ rfl; (with_reducible repeat (first | refine blk_drewN ?_ _ | refine blk_drew ?_ | refine blk_alloc ?_ _)); refine blk_put (cs := #[.int .i64 t470, .int .i64 0, .int .i64 0, .string (⟨#[]⟩ : ByteArray)]) ?_ 1 _ rfl; (with_reducible repeat (first | refine blk_drewN ?_ _ | refine blk_drew ?_ | refine blk_alloc ?_ _)); refine blk_put (cs := #[.int .i64 0, .int .i64 0, .int .i64 0, .string (⟨#[]⟩ : ByteArray)]) ?_ 0 _ rfl; (with_reducible repeat (first | refine blk_drewN ?_ _ | refine blk_drew ?_ | refine blk_alloc ?_ _)); refine blk_far ?_ NB475_474.out _; (with_reducible repeat (first | refine blk_drewN ?_ _ | refine blk_drew ?_ | refine blk_alloc ?_ _)); refine blk_far ?_ NB475_474.out _; (with_reducible repeat (first | refine blk_drewN ?_ _ | refine blk_drew ?_ | refine blk_alloc ?_ _)); refine blk_far ?_ NB475_474.out _; exact pkK BK475.out) hb); replace HB := am (below_step (pkW HB.out) hb); (try clear hb)) | ((with_reducible refine gate_dst (N := 5) rfl ?_); refine box_event ?hg (N := 5) ?hd (cs := #[.int .i64 0, .int .i64 0, .string (⟨#[]⟩ : ByteArray)]) (t := 27) ?hr ?_; (case hd => rfl); (case hg => rfl); (case hr => first | (go_simp; done) | (go_simp; rfl)); intro gb480 hg w15 hbox hb; have BK480 := am (hbox); have GW480 := am ((by rw [hg]; exact (below_size (pkW HB.out)) : w.heap.size ≤ gb480)); have GE480 := am ((by rw [hg]; exact (below_size (pkW HB.out)) : w.heap.size ≤ gb480)); replace HB := am (below_step (pkW HB.out) hb); have NB474_480 := am ((by rw [hg]; exact Nat.ne_of_lt (blk_lt (g := gb474) (o := .cells #[.int .i64 t467, .int .i64 t468, .string t469] 27 (0, 0)) (pkK BK474.out)) : gb474 ≠ gb480)); have NB480_474 := am ((by rw [hg]; exact Nat.ne_of_gt (blk_lt (g := gb474) (o := .cells #[.int .i64 t467, .int .i64 t468, .string t469] 27 (0, 0)) (pkK BK474.out)) : gb480 ≠ gb474)); replace BK474 := am (blk_below (pkK BK474.out) hb); have NB475_480 := am ((by rw [hg]; exact Nat.ne_of_lt (blk_lt (g := gb475) (o := .cells #[.int .i64 t470, .int .i64 t471, .int .i64 t472, .string t473] 45 (0, 0)) (pkK BK475.out)) : gb475 ≠ gb480)); have NB480_475 := am ((by rw [hg]; exact Nat.ne_of_gt (blk_lt (g := gb475) (o := .cells #[.int .i64 t470, .int .i64 t471, .int .i64 t472, .string t473] 45 (0, 0)) (pkK BK475.out)) : gb480 ≠ gb475)); replace BK475 := am (blk_below (pkK BK475.out) hb); clear hb hbox hg; have hnb16 := NB480_474.out; have hnc16 := NB474_480.out; have hnb17 := NB480_475.out; have hnc17 := NB475_480.out; obtain ⟨hcz18_0, hcz18_1, hcz18_2, hfz18_0, hfz18_1, hfz18_2⟩ := bk3 BK480.out; obtain ⟨hcz19_0, hcz19_1, hcz19_2, hfz19_0, hfz19_1, hfz19_2⟩ := bk3 BK474.out; obtain ⟨hcz20_0, hcz20_1, hcz20_2, hcz20_3, hfz20_0, hfz20_1, hfz20_2, hfz20_3⟩ := bk4 BK475.out) | ((with_reducible refine gate_callee (f := 26) rfl ?_); refine goesL_ (some 35) rfl rfl Try.func26 (by kernel_rfl) rfl #[.agg #[.int .i64 t467, .int .i64 t468, .string t469], .agg #[.int .i64 t470, .int .i64 t471, .int .i64 t472, .string t473]] rfl mpx ?_; (with_reducible refine (spec_Changed.calls k t467 t468 t469 t470 t471 t472 t473 t481 t482 t483 t484 _ A6.out).mono ?_); rintro e w21 ⟨rfl, hb⟩; refine ⟨_, rfl, ?_⟩; replace BK474 := am (blk_below (g := gb474) (o := .cells #[.int .i64 t467, .int .i64 t468, .string t469] 27 (0, 0)) (by (with_reducible repeat (first | refine blk_drewN ?_ _ | refine blk_drew ?_ | refine blk_alloc ?_ _)); refine blk_far ?_ NB474_480.out _; (with_reducible repeat (first | refine blk_drewN ?_ _ | refine blk_drew ?_ | refine blk_alloc ?_ _)); refine blk_far ?_ NB474_480.out _; (with_reducible repeat (first | refine blk_drewN ?_ _ | refine blk_drew ?_ | refine blk_alloc ?_ _)); refine blk_far ?_ NB474_480.out _; exact pkK BK474.out) hb); replace BK475 := am (blk_below (g := gb475) (o := .cells #[.int .i64 t470, .int .i64 t471, .int .i64 t472, .string t473] 45 (0, 0)) (by (with_reducible repeat (first | refine blk_drewN ?_ _ | refine blk_drew ?_ | refine blk_alloc ?_ _)); refine blk_far ?_ NB475_480.out _; (with_reducible repeat (first | refine blk_drewN ?_ _ | refine blk_drew ?_ | refine blk_alloc ?_ _)); refine blk_far ?_ NB475_480.out _; (with_reducible repeat (first | refine blk_drewN ?_ _ | refine blk_drew ?_ | refine blk_alloc ?_ _)); refine blk_far ?_ NB475_480.out _; exact pkK BK475.out) hb); replace BK480 := am (blk_below (g := gb480) (o := .cells #[.int .i64 t476, .int .i64 t477, .string t478] 27 (0, 0)) (by (with_reducible repeat (first | refine blk_drewN ?_ _ | refine blk_drew ?_ | refine blk_alloc ?_ _)); refine blk_put (cs := #[.int .i64 t476, .int .i64 t477, .string (⟨#[]⟩ : ByteArray)]) ?_ 2 _ rfl; (with_reducible repeat (first | refine blk_drewN ?_ _ | refine blk_drew ?_ | refine blk_alloc ?_ _)); refine blk_put (cs := #[.int .i64 t476, .int .i64 0, .string (⟨#[]⟩ : ByteArray)]) ?_ 1 _ rfl; (with_reducible repeat (first | refine blk_drewN ?_ _ | refine blk_drew ?_ | refine blk_alloc ?_ _)); refine blk_put (cs := #[.int .i64 0, .int .i64 0, .string (⟨#[]⟩ : ByteArray)]) ?_ 0 _ rfl; exact pkK BK480.out) hb); replace HB := am (below_step (pkW HB.out) hb); (try clear hb)) | ((with_reducible refine gate_dst (N := 7) rfl ?_); refine box_event ?hg (N := 7) ?hd (cs := #[.int .i64 0, .int .i64 0, .string (⟨#[]⟩ : ByteArray)]) (t := 27) ?hr ?_; (case hd => rfl); (case hg => rfl); (case hr => first | (go_simp; done) | (go_simp; rfl)); intro gb485 hg w22 hbox hb; have BK485 := am (hbox); have GW485 := am ((by rw [hg]; exact (below_size (pkW HB.out)) : w.heap.size ≤ gb485)); have GE485 := am ((by rw [hg]; exact (below_size (pkW HB.out)) : w.heap.size ≤ gb485)); replace HB := am (below_step (pkW HB.out) hb); have NB474_485 := am ((by rw [hg]; exact Nat.ne_of_lt (blk_lt (g := gb474) (o := .cells #[.int .i64 t467, .int .i64 t468, .string t469] 27 (0, 0)) (pkK BK474.out)) : gb474 ≠ gb485)); have NB485_474 := am ((by rw [hg]; exact Nat.ne_of_gt (blk_lt (g := gb474) (o := .cells #[.int .i64 t467, .int .i64 t468, .string t469] 27 (0, 0)) (pkK BK474.out)) : gb485 ≠ gb474)); replace BK474 := am (blk_below (pkK BK474.out) hb); have NB475_485 := am ((by rw [hg]; exact Nat.ne_of_lt (blk_lt (g := gb475) (o := .cells #[.int .i64 t470, .int .i64 t471, .int .i64 t472, .string t473] 45 (0, 0)) (pkK BK475.out)) : gb475 ≠ gb485)); have NB485_475 := am ((by rw [hg]; exact Nat.ne_of_gt (blk_lt (g := gb475) (o := .cells #[.int .i64 t470, .int .i64 t471, .int .i64 t472, .string t473] 45 (0, 0)) (pkK BK475.out)) : gb485 ≠ gb475)); replace BK475 := am (blk_below (pkK BK475.out) hb); have NB480_485 := am ((by rw [hg]; exact Nat.ne_of_lt (blk_lt (g := gb480) (o := .cells #[.int .i64 t476, .int .i64 t477, .string t478] 27 (0, 0)) (pkK BK480.out)) : gb480 ≠ gb485)); have NB485_480 := am ((by rw [hg]; exact Nat.ne_of_gt (blk_lt (g := gb480) (o := .cells #[.int .i64 t476, .int .i64 t477, .string t478] 27 (0, 0)) (pkK BK480.out)) : gb485 ≠ gb480)); replace BK480 := am (blk_below (pkK BK480.out) hb); clear hb hbox hg; have hnb23 := NB485_474.out; have hnc23 := NB474_485.out; have hnb24 := NB485_475.out; have hnc24 := NB475_485.out; have hnb25 := NB485_480.out; have hnc25 := NB480_485.out; obtain ⟨hcz26_0, hcz26_1, hcz26_2, hfz26_0, hfz26_1, hfz26_2⟩ := bk3 BK485.out))
  (try simp only [Act.put, List.setIfInBounds_toArray, List.set_cons_zero, List.set_cons_succ])
  go_cut [53] (fun v53 wc => ∃ (kq : Nat) (x53_6 : Bool), v53 = .bool x53_6 ∧ Aside0 (laws_FnChanges.j0 kq t479 x53_6 t467 t468 t469 t470 t471 t472 t473 = some r) ∧ Aside0 (kq ≤ k) ∧ Aside0 (wc.heap[gb474]? = some (.cells #[.int .i64 t467, .int .i64 t468, .string t469] 27 (0, 0))) ∧ Aside0 (wc.heap[gb475]? = some (.cells #[.int .i64 t470, .int .i64 t471, .int .i64 t472, .string t473] 45 (0, 0))) ∧ Aside0 (wc.heap[gb480]? = some (.cells #[.int .i64 t476, .int .i64 t477, .string t478] 27 (0, 0))) ∧ Aside0 (wc.heap[gb485]? = some (.cells #[.int .i64 t481, .int .i64 t482, .string t483] 27 (0, 0))) ∧ Aside0 (Below w.heap.size w wc))
  case first =>
   have H := HC7.out
   clear HC7
   by_cases c27 : (t479 != t484) = true
   ·rw [if_pos c27] at H
    have c27b0 : (t479 != t484) = true := c27
    (try (have c27b1 : decide (t479 = t484) = false := by simpa using c27))
    (try (have c27b2 : (t479 == t484) = false := by first | exact bq_t c27 | exact bq_f c27 | simpa using c27))
    (try (have c27b3 : ¬ (t479 = t484) := by simpa using c27))
    clear c27
    (first | rw [c27b0] | (simp only [i64_w, i32_w]; rw [c27b0]) | skip)
    cases k with
    | zero => exact absurd H (by simp [laws_FnChanges.j0])
    | succ k_ => (simp only [laws_FnChanges.j0, if_pos] at H; exact absurd (Option.some.inj H) (by rw [HQ_.out]; simp))
   ·rw [if_neg c27] at H
    have c27b0 : (t479 != t484) = false := by simpa using c27
    (try (have c27b1 : decide (t479 = t484) = true := by simpa using c27))
    (try (have c27b2 : (t479 == t484) = true := by first | exact bq_t c27 | exact bq_f c27 | simpa using c27))
    clear c27
    (first | rw [c27b0] | (simp only [i64_w, i32_w]; rw [c27b0]) | skip)
    by_cases c28 : (!(t476 == t481) || (!(t477 == t482) || (!(t478.toList == t483.toList)))) = true
    ·rw [if_pos c28] at H
     have c28b0 : (!(t476 == t481) || (!(t477 == t482) || (!(t478.toList == t483.toList)))) = true := c28
     clear c28
     cases k with
     | zero => exact absurd H (by simp [laws_FnChanges.j0])
     | succ k_ => (simp only [laws_FnChanges.j0, if_pos] at H; exact absurd (Option.some.inj H) (by rw [HQ_.out]; simp))
    ·rw [if_neg c28] at H
     have c28b0 : (!(t476 == t481) || (!(t477 == t482) || (!(t478.toList == t483.toList)))) = false := by simpa using c28
     clear c28
     by_cases c29 : t484 = true
     ·subst c29
      replace H : ((impl_MsgOk.f k t476 t477 t478).bind fun t486 => (laws_FnChanges.j0 k t479 (!t486) t467 t468 t469 t470 t471 t472 t473)) = some r := by rw [if_pos rfl] at H; exact H
      replace H := Option.bind_eq_some_iff.mp H
      obtain ⟨t486, A300, H⟩ := H
      replace H : (laws_FnChanges.j0 k t479 (!t486) t467 t468 t469 t470 t471 t472 t473) = some r := H
      have A30 := am A300
      clear A300
      have H' := am H
      clear H
      have hnb31 := NB480_474.out
      have hnc31 := NB474_480.out
      have hnb32 := NB480_475.out
      have hnc32 := NB475_480.out
      have hnb33 := NB480_485.out
      have hnc33 := NB485_480.out
      obtain ⟨hcz34_0, hcz34_1, hcz34_2, hfz34_0, hfz34_1, hfz34_2⟩ := bk3 BK480.out
      have hnb35 := NB485_474.out
      have hnc35 := NB474_485.out
      have hnb36 := NB485_475.out
      have hnc36 := NB475_485.out
      obtain ⟨hcz37_0, hcz37_1, hcz37_2, hfz37_0, hfz37_1, hfz37_2⟩ := bk3 BK485.out
      go_wp2_with (first | (go_at_call 15; (with_reducible refine (impl_MsgOk.calls k t476 t477 t478 t486 _ A30.out).mono ?_); rintro e w38 ⟨rfl, hb⟩; replace BK474 := am (blk_below (g := gb474) (o := .cells #[.int .i64 t467, .int .i64 t468, .string t469] 27 (0, 0)) (by (with_reducible repeat (first | refine blk_drewN ?_ _ | refine blk_drew ?_ | refine blk_alloc ?_ _)); refine blk_far ?_ NB474_485.out _; (with_reducible repeat (first | refine blk_drewN ?_ _ | refine blk_drew ?_ | refine blk_alloc ?_ _)); refine blk_far ?_ NB474_485.out _; (with_reducible repeat (first | refine blk_drewN ?_ _ | refine blk_drew ?_ | refine blk_alloc ?_ _)); refine blk_far ?_ NB474_485.out _; exact pkK BK474.out) hb); replace BK475 := am (blk_below (g := gb475) (o := .cells #[.int .i64 t470, .int .i64 t471, .int .i64 t472, .string t473] 45 (0, 0)) (by (with_reducible repeat (first | refine blk_drewN ?_ _ | refine blk_drew ?_ | refine blk_alloc ?_ _)); refine blk_far ?_ NB475_485.out _; (with_reducible repeat (first | refine blk_drewN ?_ _ | refine blk_drew ?_ | refine blk_alloc ?_ _)); refine blk_far ?_ NB475_485.out _; (with_reducible repeat (first | refine blk_drewN ?_ _ | refine blk_drew ?_ | refine blk_alloc ?_ _)); refine blk_far ?_ NB475_485.out _; exact pkK BK475.out) hb); replace BK480 := am (blk_below (g := gb480) (o := .cells #[.int .i64 t476, .int .i64 t477, .string t478] 27 (0, 0)) (by (with_reducible repeat (first | refine blk_drewN ?_ _ | refine blk_drew ?_ | refine blk_alloc ?_ _)); refine blk_far ?_ NB480_485.out _; (with_reducible repeat (first | refine blk_drewN ?_ _ | refine blk_drew ?_ | refine blk_alloc ?_ _)); refine blk_far ?_ NB480_485.out _; (with_reducible repeat (first | refine blk_drewN ?_ _ | refine blk_drew ?_ | refine blk_alloc ?_ _)); refine blk_far ?_ NB480_485.out _; exact pkK BK480.out) hb); replace BK485 := am (blk_below (g := gb485) (o := .cells #[.int .i64 t481, .int .i64 t482, .string t483] 27 (0, 0)) (by (with_reducible repeat (first | refine blk_drewN ?_ _ | refine blk_drew ?_ | refine blk_alloc ?_ _)); refine blk_put (cs := #[.int .i64 t481, .int .i64 t482, .string (⟨#[]⟩ : ByteArray)]) ?_ 2 _ rfl; (with_reducible repeat (first | refine blk_drewN ?_ _ | refine blk_drew ?_ | refine blk_alloc ?_ _)); refine blk_put (cs := #[.int .i64 t481, .int .i64 0, .string (⟨#[]⟩ : ByteArray)]) ?_ 1 _ rfl; (with_reducible repeat (first | refine blk_drewN ?_ _ | refine blk_drew ?_ | refine blk_alloc ?_ _)); refine blk_put (cs := #[.int .i64 0, .int .i64 0, .string (⟨#[]⟩ : ByteArray)]) ?_ 0 _ rfl; exact pkK BK485.out) hb); replace HB := am (below_step (pkW HB.out) hb); (try clear hb)))
      go_meet
      case rel => exact ⟨_, (!t486), rfx, H', ⟨by first | omega | exact Nat.le_refl _⟩, ⟨pkK BK474.out⟩, ⟨pkK BK475.out⟩, ⟨pkK BK480.out⟩, ⟨pkK BK485.out⟩, ⟨pkW HB.out⟩⟩
     ·replace c29 := Bool.eq_false_iff.mpr c29
      subst c29
      replace H : (laws_FnChanges.j0 k t479 false t467 t468 t469 t470 t471 t472 t473) = some r := by rw [if_neg (show ¬ (false = true) by decide)] at H; exact H
      have H' := am H
      clear H
      have hnb39 := NB480_474.out
      have hnc39 := NB474_480.out
      have hnb40 := NB480_475.out
      have hnc40 := NB475_480.out
      have hnb41 := NB480_485.out
      have hnc41 := NB485_480.out
      obtain ⟨hcz42_0, hcz42_1, hcz42_2, hfz42_0, hfz42_1, hfz42_2⟩ := bk3 BK480.out
      have hnb43 := NB485_474.out
      have hnc43 := NB474_485.out
      have hnb44 := NB485_475.out
      have hnc44 := NB475_485.out
      obtain ⟨hcz45_0, hcz45_1, hcz45_2, hfz45_0, hfz45_1, hfz45_2⟩ := bk3 BK485.out
      go_wp2
      go_meet
      case rel => exact ⟨_, (false), rfx, H', ⟨by first | omega | exact Nat.le_refl _⟩, ⟨by (with_reducible repeat (first | refine blk_drewN ?_ _ | refine blk_drew ?_ | refine blk_alloc ?_ _)); refine blk_far ?_ NB474_485.out _; (with_reducible repeat (first | refine blk_drewN ?_ _ | refine blk_drew ?_ | refine blk_alloc ?_ _)); refine blk_far ?_ NB474_485.out _; (with_reducible repeat (first | refine blk_drewN ?_ _ | refine blk_drew ?_ | refine blk_alloc ?_ _)); refine blk_far ?_ NB474_485.out _; exact pkK BK474.out⟩, ⟨by (with_reducible repeat (first | refine blk_drewN ?_ _ | refine blk_drew ?_ | refine blk_alloc ?_ _)); refine blk_far ?_ NB475_485.out _; (with_reducible repeat (first | refine blk_drewN ?_ _ | refine blk_drew ?_ | refine blk_alloc ?_ _)); refine blk_far ?_ NB475_485.out _; (with_reducible repeat (first | refine blk_drewN ?_ _ | refine blk_drew ?_ | refine blk_alloc ?_ _)); refine blk_far ?_ NB475_485.out _; exact pkK BK475.out⟩, ⟨by (with_reducible repeat (first | refine blk_drewN ?_ _ | refine blk_drew ?_ | refine blk_alloc ?_ _)); refine blk_far ?_ NB480_485.out _; (with_reducible repeat (first | refine blk_drewN ?_ _ | refine blk_drew ?_ | refine blk_alloc ?_ _)); refine blk_far ?_ NB480_485.out _; (with_reducible repeat (first | refine blk_drewN ?_ _ | refine blk_drew ?_ | refine blk_alloc ?_ _)); refine blk_far ?_ NB480_485.out _; exact pkK BK480.out⟩, ⟨by (with_reducible repeat (first | refine blk_drewN ?_ _ | refine blk_drew ?_ | refine blk_alloc ?_ _)); refine blk_put (cs := #[.int .i64 t481, .int .i64 t482, .string (⟨#[]⟩ : ByteArray)]) ?_ 2 _ rfl; (with_reducible repeat (first | refine blk_drewN ?_ _ | refine blk_drew ?_ | refine blk_alloc ?_ _)); refine blk_put (cs := #[.int .i64 t481, .int .i64 0, .string (⟨#[]⟩ : ByteArray)]) ?_ 1 _ rfl; (with_reducible repeat (first | refine blk_drewN ?_ _ | refine blk_drew ?_ | refine blk_alloc ?_ _)); refine blk_put (cs := #[.int .i64 0, .int .i64 0, .string (⟨#[]⟩ : ByteArray)]) ?_ 0 _ rfl; exact pkK BK485.out⟩, ⟨pkW HB.out⟩⟩
  case rest =>
   clear HC7
   try clear c1
   try clear c2
   try clear p2
   try clear c3
   try clear c4
   try clear c11
   try clear c16
   try clear c17
   try clear c23
   try clear c24
   try clear c25
   try clear c26
   try clear c27
   try clear c27b0
   try clear c27b1
   try clear c27b2
   try clear c28
   try clear c28b0
   try clear c29
   try clear c31
   try clear c32
   try clear c33
   try clear c35
   try clear c36
   try clear c39
   try clear c40
   try clear c41
   try clear c43
   try clear c44
   try clear hcz12_0
   try clear hcz12_1
   try clear hcz12_2
   try clear hcz13_0
   try clear hcz13_1
   try clear hcz13_2
   try clear hcz13_3
   try clear hcz18_0
   try clear hcz18_1
   try clear hcz18_2
   try clear hcz19_0
   try clear hcz19_1
   try clear hcz19_2
   try clear hcz20_0
   try clear hcz20_1
   try clear hcz20_2
   try clear hcz20_3
   try clear hcz26_0
   try clear hcz26_1
   try clear hcz26_2
   try clear hcz34_0
   try clear hcz34_1
   try clear hcz34_2
   try clear hcz37_0
   try clear hcz37_1
   try clear hcz37_2
   try clear hcz42_0
   try clear hcz42_1
   try clear hcz42_2
   try clear hcz45_0
   try clear hcz45_1
   try clear hcz45_2
   try clear hfz12_0
   try clear hfz12_1
   try clear hfz12_2
   try clear hfz13_0
   try clear hfz13_1
   try clear hfz13_2
   try clear hfz13_3
   try clear hfz18_0
   try clear hfz18_1
   try clear hfz18_2
   try clear hfz19_0
   try clear hfz19_1
   try clear hfz19_2
   try clear hfz20_0
   try clear hfz20_1
   try clear hfz20_2
   try clear hfz20_3
   try clear hfz26_0
   try clear hfz26_1
   try clear hfz26_2
   try clear hfz34_0
   try clear hfz34_1
   try clear hfz34_2
   try clear hfz37_0
   try clear hfz37_1
   try clear hfz37_2
   try clear hfz42_0
   try clear hfz42_1
   try clear hfz42_2
   try clear hfz45_0
   try clear hfz45_1
   try clear hfz45_2
   obtain ⟨kq, x53_6, rfl, HA, HJ6, BK474, BK475, BK480, BK485, HB⟩ := hcut
   cases kq with
   | zero => exact absurd HA.out (by simp [laws_FnChanges.j0])
   | succ kj6 =>
    have H := HA.out
    clear HA
    simp only [laws_FnChanges.j0] at H
    by_cases c46 : x53_6 = true
    ·subst c46
     replace H : (some false) = some r := by rw [if_pos rfl] at H; exact H
     exact absurd (Option.some.inj H) (by rw [HQ_.out]; simp)
    ·replace c46 := Bool.eq_false_iff.mpr c46
     subst c46
     replace H : ((spec_MsgOk.f kj6 t467 t468 t469).bind fun t487 => (if t487 = true then ((spec_MsgOk.f kj6 t471 t472 t473).bind fun t488 => (laws_FnChanges.j1 kj6 t479 (!t488) t467 t468 t469 t470 t471 t472 t473)) else (laws_FnChanges.j1 kj6 t479 true t467 t468 t469 t470 t471 t472 t473))) = some r := by rw [if_neg (show ¬ (false = true) by decide)] at H; exact H
     have HC47 := am H
     clear H
     go_upto_region 8 with (fail)
     go_cut [62] (fun v62 wc => ∃ (kq : Nat) (x62_46 : Bool), v62 = .bool x62_46 ∧ Aside0 (laws_FnChanges.j1 kq t479 x62_46 t467 t468 t469 t470 t471 t472 t473 = some r) ∧ Aside0 (kq ≤ kj6) ∧ Aside0 (wc.heap[gb474]? = some (.cells #[.int .i64 t467, .int .i64 t468, .string t469] 27 (0, 0))) ∧ Aside0 (wc.heap[gb475]? = some (.cells #[.int .i64 t470, .int .i64 t471, .int .i64 t472, .string t473] 45 (0, 0))) ∧ Aside0 (wc.heap[gb480]? = some (.cells #[.int .i64 t476, .int .i64 t477, .string t478] 27 (0, 0))) ∧ Aside0 (wc.heap[gb485]? = some (.cells #[.int .i64 t481, .int .i64 t482, .string t483] 27 (0, 0))) ∧ Aside0 (Below w.heap.size w wc))
     case first =>
      have H := HC47.out
      clear HC47
      replace H := Option.bind_eq_some_iff.mp H
      obtain ⟨t487, A480, H⟩ := H
      replace H : (if t487 = true then ((spec_MsgOk.f kj6 t471 t472 t473).bind fun t488 => (laws_FnChanges.j1 kj6 t479 (!t488) t467 t468 t469 t470 t471 t472 t473)) else (laws_FnChanges.j1 kj6 t479 true t467 t468 t469 t470 t471 t472 t473)) = some r := H
      have A48 := am A480
      clear A480
      by_cases c49 : t487 = true
      ·subst c49
       replace H : ((spec_MsgOk.f kj6 t471 t472 t473).bind fun t488 => (laws_FnChanges.j1 kj6 t479 (!t488) t467 t468 t469 t470 t471 t472 t473)) = some r := by rw [if_pos rfl] at H; exact H
       replace H := Option.bind_eq_some_iff.mp H
       obtain ⟨t488, A500, H⟩ := H
       replace H : (laws_FnChanges.j1 kj6 t479 (!t488) t467 t468 t469 t470 t471 t472 t473) = some r := H
       have A50 := am A500
       clear A500
       have H' := am H
       clear H
       have hnb51 := NB474_475.out
       have hnc51 := NB475_474.out
       have hnb52 := NB474_480.out
       have hnc52 := NB480_474.out
       have hnb53 := NB474_485.out
       have hnc53 := NB485_474.out
       obtain ⟨hcz54_0, hcz54_1, hcz54_2, hfz54_0, hfz54_1, hfz54_2⟩ := bk3 BK474.out
       go_wp2_with (first | ((with_reducible refine gate_callee (f := 13) rfl ?_); refine goesL_ (some 55) rfl rfl Try.func13 (by kernel_rfl) rfl #[.agg #[.int .i64 t467, .int .i64 t468, .string t469]] rfl mpx ?_; (with_reducible refine (spec_MsgOk.calls kj6 t467 t468 t469 true _ A48.out).mono ?_); rintro e w55 ⟨rfl, hb⟩; refine ⟨_, rfl, ?_⟩; replace BK474 := am (blk_below (pkK BK474.out) hb); replace BK475 := am (blk_below (pkK BK475.out) hb); replace BK480 := am (blk_below (pkK BK480.out) hb); replace BK485 := am (blk_below (pkK BK485.out) hb); replace HB := am (below_step (pkW HB.out) hb); (try clear hb); have hnb56 := NB475_480.out; have hnc56 := NB480_475.out; have hnb57 := NB475_485.out; have hnc57 := NB485_475.out; obtain ⟨hcz58_0, hcz58_1, hcz58_2, hcz58_3, hfz58_0, hfz58_1, hfz58_2, hfz58_3⟩ := bk4 BK475.out) | (go_at_call 13; (with_reducible refine (spec_MsgOk.calls kj6 t471 t472 t473 t488 _ A50.out).mono ?_); rintro e w59 ⟨rfl, hb⟩; replace BK474 := am (blk_below (pkK BK474.out) hb); replace BK475 := am (blk_below (pkK BK475.out) hb); replace BK480 := am (blk_below (pkK BK480.out) hb); replace BK485 := am (blk_below (pkK BK485.out) hb); replace HB := am (below_step (pkW HB.out) hb); (try clear hb)))
       go_meet
       case rel => exact ⟨_, (!t488), rfx, H', ⟨by have := HJ6.out; first | omega | exact Nat.le_refl _⟩, ⟨pkK BK474.out⟩, ⟨pkK BK475.out⟩, ⟨pkK BK480.out⟩, ⟨pkK BK485.out⟩, ⟨pkW HB.out⟩⟩
      ·replace c49 := Bool.eq_false_iff.mpr c49
       subst c49
       replace H : (laws_FnChanges.j1 kj6 t479 true t467 t468 t469 t470 t471 t472 t473) = some r := by rw [if_neg (show ¬ (false = true) by decide)] at H; exact H
       have H' := am H
       clear H
       have hnb60 := NB474_475.out
       have hnc60 := NB475_474.out
       have hnb61 := NB474_480.out
       have hnc61 := NB480_474.out
       have hnb62 := NB474_485.out
       have hnc62 := NB485_474.out
       obtain ⟨hcz63_0, hcz63_1, hcz63_2, hfz63_0, hfz63_1, hfz63_2⟩ := bk3 BK474.out
       go_wp2_with (first | ((with_reducible refine gate_callee (f := 13) rfl ?_); refine goesL_ (some 55) rfl rfl Try.func13 (by kernel_rfl) rfl #[.agg #[.int .i64 t467, .int .i64 t468, .string t469]] rfl mpx ?_; (with_reducible refine (spec_MsgOk.calls kj6 t467 t468 t469 false _ A48.out).mono ?_); rintro e w64 ⟨rfl, hb⟩; refine ⟨_, rfl, ?_⟩; replace BK474 := am (blk_below (pkK BK474.out) hb); replace BK475 := am (blk_below (pkK BK475.out) hb); replace BK480 := am (blk_below (pkK BK480.out) hb); replace BK485 := am (blk_below (pkK BK485.out) hb); replace HB := am (below_step (pkW HB.out) hb); (try clear hb)))
       go_meet
       case rel => exact ⟨_, (true), rfx, H', ⟨by have := HJ6.out; first | omega | exact Nat.le_refl _⟩, ⟨pkK BK474.out⟩, ⟨pkK BK475.out⟩, ⟨pkK BK480.out⟩, ⟨pkK BK485.out⟩, ⟨pkW HB.out⟩⟩
     case rest =>
      clear HC47
      try clear c1
      try clear c2
      try clear p2
      try clear c3
      try clear c4
      try clear c5
      try clear c6
      try clear c11
      try clear c13
      try clear c16
      try clear c17
      try clear c23
      try clear c24
      try clear c25
      try clear c26
      try clear c27
      try clear c27b0
      try clear c27b1
      try clear c27b2
      try clear c28
      try clear c28b0
      try clear c29
      try clear c31
      try clear c32
      try clear c33
      try clear c35
      try clear c36
      try clear c39
      try clear c40
      try clear c41
      try clear c43
      try clear c44
      try clear c46
      try clear c49
      try clear c51
      try clear c52
      try clear c53
      try clear c56
      try clear c57
      try clear c60
      try clear c61
      try clear c62
      try clear hcz12_0
      try clear hcz12_1
      try clear hcz12_2
      try clear hcz13_0
      try clear hcz13_1
      try clear hcz13_2
      try clear hcz13_3
      try clear hcz18_0
      try clear hcz18_1
      try clear hcz18_2
      try clear hcz19_0
      try clear hcz19_1
      try clear hcz19_2
      try clear hcz20_0
      try clear hcz20_1
      try clear hcz20_2
      try clear hcz20_3
      try clear hcz26_0
      try clear hcz26_1
      try clear hcz26_2
      try clear hcz34_0
      try clear hcz34_1
      try clear hcz34_2
      try clear hcz37_0
      try clear hcz37_1
      try clear hcz37_2
      try clear hcz42_0
      try clear hcz42_1
      try clear hcz42_2
      try clear hcz45_0
      try clear hcz45_1
      try clear hcz45_2
      try clear hcz54_0
      try clear hcz54_1
      try clear hcz54_2
      try clear hcz58_0
      try clear hcz58_1
      try clear hcz58_2
      try clear hcz58_3
      try clear hcz63_0
      try clear hcz63_1
      try clear hcz63_2
      try clear hfz12_0
      try clear hfz12_1
      try clear hfz12_2
      try clear hfz13_0
      try clear hfz13_1
      try clear hfz13_2
      try clear hfz13_3
      try clear hfz18_0
      try clear hfz18_1
      try clear hfz18_2
      try clear hfz19_0
      try clear hfz19_1
      try clear hfz19_2
      try clear hfz20_0
      try clear hfz20_1
      try clear hfz20_2
      try clear hfz20_3
      try clear hfz26_0
      try clear hfz26_1
      try clear hfz26_2
      try clear hfz34_0
      try clear hfz34_1
      try clear hfz34_2
      try clear hfz37_0
      try clear hfz37_1
      try clear hfz37_2
      try clear hfz42_0
      try clear hfz42_1
      try clear hfz42_2
      try clear hfz45_0
      try clear hfz45_1
      try clear hfz45_2
      try clear hfz54_0
      try clear hfz54_1
      try clear hfz54_2
      try clear hfz58_0
      try clear hfz58_1
      try clear hfz58_2
      try clear hfz58_3
      try clear hfz63_0
      try clear hfz63_1
      try clear hfz63_2
      try clear p2
      obtain ⟨kq, x62_46, rfl, HA, HJ46, BK474, BK475, BK480, BK485, HB⟩ := hcut
      cases kq with
      | zero => exact absurd HA.out (by simp [laws_FnChanges.j1])
      | succ kj46 =>
       have H := HA.out
       clear HA
       simp only [laws_FnChanges.j1] at H
       by_cases c65 : x62_46 = true
       ·subst c65
        replace H : (some (!t479)) = some r := by rw [if_pos rfl] at H; exact H
        obtain rfl := Option.some.inj H
        go_wp2
        go_ret
        exact ⟨rfe, pkW HB.out⟩
       ·replace c65 := Bool.eq_false_iff.mpr c65
        subst c65
        replace H : ((impl_Changed.f kj46 t467 t468 t469 4 t471 t472 t473).bind fun bt489 => ((impl_Changed.f kj46 t471 t472 t473 4 t467 t468 t469).bind fun bt494 => ((impl_Changed.f kj46 t467 t468 t469 2 t471 t472 t473).bind fun bt499 => ((impl_Changed.f kj46 t471 t472 t473 2 t467 t468 t469).bind fun bt504 => ((impl_Changed.f kj46 t467 t468 t469 1 t471 t472 t473).bind fun bt509 => (if bt489.2.2.2 = true then (if bt494.2.2.2 = true then (if (bt489.1 == bt494.1 && (bt489.2.1 == bt494.2.1 && (bt489.2.2.1.toList == bt494.2.2.1.toList))) = true then ((spec_MsgLess.f kj46 bt489.1 bt489.2.1 bt489.2.2.1 t467 t468 t469).bind fun t514 => (if t514 = true then (some false) else (if (bt499.2.2.2 == bt504.2.2.2) = true then (if (bt499.1 == bt504.1 && (bt499.2.1 == bt504.2.1 && (bt499.2.2.1.toList == bt504.2.2.1.toList))) = true then (if bt509.2.2.2 = true then (some (bt509.1 == t471 && (bt509.2.1 == t472 && (bt509.2.2.1.toList == t473.toList)))) else (some false)) else (some false)) else (some false)))) else (some false)) else (some false)) else (some false))))))) = some r := by rw [if_neg (show ¬ (false = true) by decide)] at H; exact H
        replace H := Option.bind_eq_some_iff.mp H
        obtain ⟨⟨t489, t490, t491, t492⟩, A660, H⟩ := H
        replace H : ((impl_Changed.f kj46 t471 t472 t473 4 t467 t468 t469).bind fun bt494 => ((impl_Changed.f kj46 t467 t468 t469 2 t471 t472 t473).bind fun bt499 => ((impl_Changed.f kj46 t471 t472 t473 2 t467 t468 t469).bind fun bt504 => ((impl_Changed.f kj46 t467 t468 t469 1 t471 t472 t473).bind fun bt509 => (if t492 = true then (if bt494.2.2.2 = true then (if (t489 == bt494.1 && (t490 == bt494.2.1 && (t491.toList == bt494.2.2.1.toList))) = true then ((spec_MsgLess.f kj46 t489 t490 t491 t467 t468 t469).bind fun t514 => (if t514 = true then (some false) else (if (bt499.2.2.2 == bt504.2.2.2) = true then (if (bt499.1 == bt504.1 && (bt499.2.1 == bt504.2.1 && (bt499.2.2.1.toList == bt504.2.2.1.toList))) = true then (if bt509.2.2.2 = true then (some (bt509.1 == t471 && (bt509.2.1 == t472 && (bt509.2.2.1.toList == t473.toList)))) else (some false)) else (some false)) else (some false)))) else (some false)) else (some false)) else (some false)))))) = some r := H
        have A66 := am A660
        clear A660
        replace H := Option.bind_eq_some_iff.mp H
        obtain ⟨⟨t494, t495, t496, t497⟩, A670, H⟩ := H
        replace H : ((impl_Changed.f kj46 t467 t468 t469 2 t471 t472 t473).bind fun bt499 => ((impl_Changed.f kj46 t471 t472 t473 2 t467 t468 t469).bind fun bt504 => ((impl_Changed.f kj46 t467 t468 t469 1 t471 t472 t473).bind fun bt509 => (if t492 = true then (if t497 = true then (if (t489 == t494 && (t490 == t495 && (t491.toList == t496.toList))) = true then ((spec_MsgLess.f kj46 t489 t490 t491 t467 t468 t469).bind fun t514 => (if t514 = true then (some false) else (if (bt499.2.2.2 == bt504.2.2.2) = true then (if (bt499.1 == bt504.1 && (bt499.2.1 == bt504.2.1 && (bt499.2.2.1.toList == bt504.2.2.1.toList))) = true then (if bt509.2.2.2 = true then (some (bt509.1 == t471 && (bt509.2.1 == t472 && (bt509.2.2.1.toList == t473.toList)))) else (some false)) else (some false)) else (some false)))) else (some false)) else (some false)) else (some false))))) = some r := H
        have A67 := am A670
        clear A670
        replace H := Option.bind_eq_some_iff.mp H
        obtain ⟨⟨t499, t500, t501, t502⟩, A680, H⟩ := H
        replace H : ((impl_Changed.f kj46 t471 t472 t473 2 t467 t468 t469).bind fun bt504 => ((impl_Changed.f kj46 t467 t468 t469 1 t471 t472 t473).bind fun bt509 => (if t492 = true then (if t497 = true then (if (t489 == t494 && (t490 == t495 && (t491.toList == t496.toList))) = true then ((spec_MsgLess.f kj46 t489 t490 t491 t467 t468 t469).bind fun t514 => (if t514 = true then (some false) else (if (t502 == bt504.2.2.2) = true then (if (t499 == bt504.1 && (t500 == bt504.2.1 && (t501.toList == bt504.2.2.1.toList))) = true then (if bt509.2.2.2 = true then (some (bt509.1 == t471 && (bt509.2.1 == t472 && (bt509.2.2.1.toList == t473.toList)))) else (some false)) else (some false)) else (some false)))) else (some false)) else (some false)) else (some false)))) = some r := H
        have A68 := am A680
        clear A680
        replace H := Option.bind_eq_some_iff.mp H
        obtain ⟨⟨t504, t505, t506, t507⟩, A690, H⟩ := H
        replace H : ((impl_Changed.f kj46 t467 t468 t469 1 t471 t472 t473).bind fun bt509 => (if t492 = true then (if t497 = true then (if (t489 == t494 && (t490 == t495 && (t491.toList == t496.toList))) = true then ((spec_MsgLess.f kj46 t489 t490 t491 t467 t468 t469).bind fun t514 => (if t514 = true then (some false) else (if (t502 == t507) = true then (if (t499 == t504 && (t500 == t505 && (t501.toList == t506.toList))) = true then (if bt509.2.2.2 = true then (some (bt509.1 == t471 && (bt509.2.1 == t472 && (bt509.2.2.1.toList == t473.toList)))) else (some false)) else (some false)) else (some false)))) else (some false)) else (some false)) else (some false))) = some r := H
        have A69 := am A690
        clear A690
        replace H := Option.bind_eq_some_iff.mp H
        obtain ⟨⟨t509, t510, t511, t512⟩, A700, H⟩ := H
        replace H : (if t492 = true then (if t497 = true then (if (t489 == t494 && (t490 == t495 && (t491.toList == t496.toList))) = true then ((spec_MsgLess.f kj46 t489 t490 t491 t467 t468 t469).bind fun t514 => (if t514 = true then (some false) else (if (t502 == t507) = true then (if (t499 == t504 && (t500 == t505 && (t501.toList == t506.toList))) = true then (if t512 = true then (some (t509 == t471 && (t510 == t472 && (t511.toList == t473.toList)))) else (some false)) else (some false)) else (some false)))) else (some false)) else (some false)) else (some false)) = some r := H
        have A70 := am A700
        clear A700
        by_cases c71 : t492 = true
        ·subst c71
         replace H : (if t497 = true then (if (t489 == t494 && (t490 == t495 && (t491.toList == t496.toList))) = true then ((spec_MsgLess.f kj46 t489 t490 t491 t467 t468 t469).bind fun t514 => (if t514 = true then (some false) else (if (t502 == t507) = true then (if (t499 == t504 && (t500 == t505 && (t501.toList == t506.toList))) = true then (if t512 = true then (some (t509 == t471 && (t510 == t472 && (t511.toList == t473.toList)))) else (some false)) else (some false)) else (some false)))) else (some false)) else (some false)) = some r := by rw [if_pos rfl] at H; exact H
         by_cases c72 : t497 = true
         ·subst c72
          replace H : (if (t489 == t494 && (t490 == t495 && (t491.toList == t496.toList))) = true then ((spec_MsgLess.f kj46 t489 t490 t491 t467 t468 t469).bind fun t514 => (if t514 = true then (some false) else (if (t502 == t507) = true then (if (t499 == t504 && (t500 == t505 && (t501.toList == t506.toList))) = true then (if t512 = true then (some (t509 == t471 && (t510 == t472 && (t511.toList == t473.toList)))) else (some false)) else (some false)) else (some false)))) else (some false)) = some r := by rw [if_pos rfl] at H; exact H
          by_cases c73 : (t489 == t494 && (t490 == t495 && (t491.toList == t496.toList))) = true
          ·rw [if_pos c73] at H
           have c73b0 : (t489 == t494 && (t490 == t495 && (t491.toList == t496.toList))) = true := c73
           (try (have c73b1 : decide (t489 = t494 && (t490 == t495 && (t491.toList == t496.toList))) = true := by simpa using c73))
           (try (have c73b2 : (t489 == t494 && (t490 == t495 && (t491.toList == t496.toList))) = true := by first | exact bq_t c73 | exact bq_f c73 | simpa using c73))
           clear c73
           replace H := Option.bind_eq_some_iff.mp H
           obtain ⟨t514, A740, H⟩ := H
           replace H : (if t514 = true then (some false) else (if (t502 == t507) = true then (if (t499 == t504 && (t500 == t505 && (t501.toList == t506.toList))) = true then (if t512 = true then (some (t509 == t471 && (t510 == t472 && (t511.toList == t473.toList)))) else (some false)) else (some false)) else (some false))) = some r := H
           have A74 := am A740
           clear A740
           by_cases c75 : t514 = true
           ·subst c75
            replace H : (some false) = some r := by rw [if_pos rfl] at H; exact H
            exact absurd (Option.some.inj H) (by rw [HQ_.out]; simp)
           ·replace c75 := Bool.eq_false_iff.mpr c75
            subst c75
            replace H : (if (t502 == t507) = true then (if (t499 == t504 && (t500 == t505 && (t501.toList == t506.toList))) = true then (if t512 = true then (some (t509 == t471 && (t510 == t472 && (t511.toList == t473.toList)))) else (some false)) else (some false)) else (some false)) = some r := by rw [if_neg (show ¬ (false = true) by decide)] at H; exact H
            by_cases c76 : (t502 == t507) = true
            ·rw [if_pos c76] at H
             have c76b0 : (t502 == t507) = true := c76
             (try (have c76b1 : decide (t502 = t507) = true := by simpa using c76))
             (try (have c76b2 : (t502 == t507) = true := by first | exact bq_t c76 | exact bq_f c76 | simpa using c76))
             clear c76
             by_cases c77 : (t499 == t504 && (t500 == t505 && (t501.toList == t506.toList))) = true
             ·rw [if_pos c77] at H
              have c77b0 : (t499 == t504 && (t500 == t505 && (t501.toList == t506.toList))) = true := c77
              (try (have c77b1 : decide (t499 = t504 && (t500 == t505 && (t501.toList == t506.toList))) = true := by simpa using c77))
              (try (have c77b2 : (t499 == t504 && (t500 == t505 && (t501.toList == t506.toList))) = true := by first | exact bq_t c77 | exact bq_f c77 | simpa using c77))
              clear c77
              by_cases c78 : t512 = true
              ·subst c78
               replace H : (some (t509 == t471 && (t510 == t472 && (t511.toList == t473.toList)))) = some r := by rw [if_pos rfl] at H; exact H
               obtain rfl := Option.some.inj H
               have hnb79 := NB474_475.out
               have hnc79 := NB475_474.out
               have hnb80 := NB474_480.out
               have hnc80 := NB480_474.out
               have hnb81 := NB474_485.out
               have hnc81 := NB485_474.out
               obtain ⟨hcz82_0, hcz82_1, hcz82_2, hfz82_0, hfz82_1, hfz82_2⟩ := bk3 BK474.out
               have hnb83 := NB475_480.out
               have hnc83 := NB480_475.out
               have hnb84 := NB475_485.out
               have hnc84 := NB485_475.out
               obtain ⟨hcz85_0, hcz85_1, hcz85_2, hcz85_3, hfz85_0, hfz85_1, hfz85_2, hfz85_3⟩ := bk4 BK475.out
               go_wp2_with (first | ((with_reducible refine gate_callee (f := 28) rfl ?_); refine goesL_ (some 70) rfl rfl Try.func28 (by kernel_rfl) rfl #[.agg #[.int .i64 t467, .int .i64 t468, .string t469], .agg #[.int .i64 4, .int .i64 t471, .int .i64 t472, .string t473]] rfl mpx ?_; (with_reducible refine (impl_Changed.calls kj46 t467 t468 t469 4 t471 t472 t473 t489 t490 t491 true _ A66.out).mono ?_); rintro e w86 ⟨rfl, hb⟩; refine ⟨_, rfl, ?_⟩; replace BK474 := am (blk_below (pkK BK474.out) hb); replace BK475 := am (blk_below (pkK BK475.out) hb); replace BK480 := am (blk_below (pkK BK480.out) hb); replace BK485 := am (blk_below (pkK BK485.out) hb); replace HB := am (below_step (pkW HB.out) hb); (try clear hb)) | ((with_reducible refine gate_dst (N := 9) rfl ?_); refine box_event ?hg (N := 9) ?hd (cs := #[.int .i64 0, .int .i64 0, .string (⟨#[]⟩ : ByteArray)]) (t := 27) ?hr ?_; (case hd => rfl); (case hg => rfl); (case hr => first | (go_simp; done) | (go_simp; rfl)); intro gb493 hg w87 hbox hb; have BK493 := am (hbox); have GW493 := am ((by rw [hg]; exact (below_size (pkW HB.out)) : w.heap.size ≤ gb493)); have GE493 := am ((by rw [hg]; exact (below_size (pkW HB.out)) : w.heap.size ≤ gb493)); replace HB := am (below_step (pkW HB.out) hb); have NB474_493 := am ((by rw [hg]; exact Nat.ne_of_lt (blk_lt (g := gb474) (o := .cells #[.int .i64 t467, .int .i64 t468, .string t469] 27 (0, 0)) (pkK BK474.out)) : gb474 ≠ gb493)); have NB493_474 := am ((by rw [hg]; exact Nat.ne_of_gt (blk_lt (g := gb474) (o := .cells #[.int .i64 t467, .int .i64 t468, .string t469] 27 (0, 0)) (pkK BK474.out)) : gb493 ≠ gb474)); replace BK474 := am (blk_below (pkK BK474.out) hb); have NB475_493 := am ((by rw [hg]; exact Nat.ne_of_lt (blk_lt (g := gb475) (o := .cells #[.int .i64 t470, .int .i64 t471, .int .i64 t472, .string t473] 45 (0, 0)) (pkK BK475.out)) : gb475 ≠ gb493)); have NB493_475 := am ((by rw [hg]; exact Nat.ne_of_gt (blk_lt (g := gb475) (o := .cells #[.int .i64 t470, .int .i64 t471, .int .i64 t472, .string t473] 45 (0, 0)) (pkK BK475.out)) : gb493 ≠ gb475)); replace BK475 := am (blk_below (pkK BK475.out) hb); have NB480_493 := am ((by rw [hg]; exact Nat.ne_of_lt (blk_lt (g := gb480) (o := .cells #[.int .i64 t476, .int .i64 t477, .string t478] 27 (0, 0)) (pkK BK480.out)) : gb480 ≠ gb493)); have NB493_480 := am ((by rw [hg]; exact Nat.ne_of_gt (blk_lt (g := gb480) (o := .cells #[.int .i64 t476, .int .i64 t477, .string t478] 27 (0, 0)) (pkK BK480.out)) : gb493 ≠ gb480)); replace BK480 := am (blk_below (pkK BK480.out) hb); have NB485_493 := am ((by rw [hg]; exact Nat.ne_of_lt (blk_lt (g := gb485) (o := .cells #[.int .i64 t481, .int .i64 t482, .string t483] 27 (0, 0)) (pkK BK485.out)) : gb485 ≠ gb493)); have NB493_485 := am ((by rw [hg]; exact Nat.ne_of_gt (blk_lt (g := gb485) (o := .cells #[.int .i64 t481, .int .i64 t482, .string t483] 27 (0, 0)) (pkK BK485.out)) : gb493 ≠ gb485)); replace BK485 := am (blk_below (pkK BK485.out) hb); clear hb hbox hg; have hnb88 := NB493_474.out; have hnc88 := NB474_493.out; have hnb89 := NB493_475.out; have hnc89 := NB475_493.out; have hnb90 := NB493_480.out; have hnc90 := NB480_493.out; have hnb91 := NB493_485.out; have hnc91 := NB485_493.out; obtain ⟨hcz92_0, hcz92_1, hcz92_2, hfz92_0, hfz92_1, hfz92_2⟩ := bk3 BK493.out; obtain ⟨hcz93_0, hcz93_1, hcz93_2, hcz93_3, hfz93_0, hfz93_1, hfz93_2, hfz93_3⟩ := bk4 BK475.out; obtain ⟨hcz94_0, hcz94_1, hcz94_2, hfz94_0, hfz94_1, hfz94_2⟩ := bk3 BK474.out) | ((with_reducible refine gate_callee (f := 28) rfl ?_); refine goesL_ (some 78) rfl rfl Try.func28 (by kernel_rfl) rfl #[.agg #[.int .i64 t471, .int .i64 t472, .string t473], .agg #[.int .i64 4, .int .i64 t467, .int .i64 t468, .string t469]] rfl mpx ?_; (with_reducible refine (impl_Changed.calls kj46 t471 t472 t473 4 t467 t468 t469 t494 t495 t496 true _ A67.out).mono ?_); rintro e w95 ⟨rfl, hb⟩; refine ⟨_, rfl, ?_⟩; replace BK474 := am (blk_below (g := gb474) (o := .cells #[.int .i64 t467, .int .i64 t468, .string t469] 27 (0, 0)) (by (with_reducible repeat (first | refine blk_drewN ?_ _ | refine blk_drew ?_ | refine blk_alloc ?_ _)); refine blk_far ?_ NB474_493.out _; (with_reducible repeat (first | refine blk_drewN ?_ _ | refine blk_drew ?_ | refine blk_alloc ?_ _)); refine blk_far ?_ NB474_493.out _; (with_reducible repeat (first | refine blk_drewN ?_ _ | refine blk_drew ?_ | refine blk_alloc ?_ _)); refine blk_far ?_ NB474_493.out _; exact pkK BK474.out) hb); replace BK475 := am (blk_below (g := gb475) (o := .cells #[.int .i64 t470, .int .i64 t471, .int .i64 t472, .string t473] 45 (0, 0)) (by (with_reducible repeat (first | refine blk_drewN ?_ _ | refine blk_drew ?_ | refine blk_alloc ?_ _)); refine blk_far ?_ NB475_493.out _; (with_reducible repeat (first | refine blk_drewN ?_ _ | refine blk_drew ?_ | refine blk_alloc ?_ _)); refine blk_far ?_ NB475_493.out _; (with_reducible repeat (first | refine blk_drewN ?_ _ | refine blk_drew ?_ | refine blk_alloc ?_ _)); refine blk_far ?_ NB475_493.out _; exact pkK BK475.out) hb); replace BK480 := am (blk_below (g := gb480) (o := .cells #[.int .i64 t476, .int .i64 t477, .string t478] 27 (0, 0)) (by (with_reducible repeat (first | refine blk_drewN ?_ _ | refine blk_drew ?_ | refine blk_alloc ?_ _)); refine blk_far ?_ NB480_493.out _; (with_reducible repeat (first | refine blk_drewN ?_ _ | refine blk_drew ?_ | refine blk_alloc ?_ _)); refine blk_far ?_ NB480_493.out _; (with_reducible repeat (first | refine blk_drewN ?_ _ | refine blk_drew ?_ | refine blk_alloc ?_ _)); refine blk_far ?_ NB480_493.out _; exact pkK BK480.out) hb); replace BK485 := am (blk_below (g := gb485) (o := .cells #[.int .i64 t481, .int .i64 t482, .string t483] 27 (0, 0)) (by (with_reducible repeat (first | refine blk_drewN ?_ _ | refine blk_drew ?_ | refine blk_alloc ?_ _)); refine blk_far ?_ NB485_493.out _; (with_reducible repeat (first | refine blk_drewN ?_ _ | refine blk_drew ?_ | refine blk_alloc ?_ _)); refine blk_far ?_ NB485_493.out _; (with_reducible repeat (first | refine blk_drewN ?_ _ | refine blk_drew ?_ | refine blk_alloc ?_ _)); refine blk_far ?_ NB485_493.out _; exact pkK BK485.out) hb); replace BK493 := am (blk_below (g := gb493) (o := .cells #[.int .i64 t489, .int .i64 t490, .string t491] 27 (0, 0)) (by (with_reducible repeat (first | refine blk_drewN ?_ _ | refine blk_drew ?_ | refine blk_alloc ?_ _)); refine blk_put (cs := #[.int .i64 t489, .int .i64 t490, .string (⟨#[]⟩ : ByteArray)]) ?_ 2 _ rfl; (with_reducible repeat (first | refine blk_drewN ?_ _ | refine blk_drew ?_ | refine blk_alloc ?_ _)); refine blk_put (cs := #[.int .i64 t489, .int .i64 0, .string (⟨#[]⟩ : ByteArray)]) ?_ 1 _ rfl; (with_reducible repeat (first | refine blk_drewN ?_ _ | refine blk_drew ?_ | refine blk_alloc ?_ _)); refine blk_put (cs := #[.int .i64 0, .int .i64 0, .string (⟨#[]⟩ : ByteArray)]) ?_ 0 _ rfl; exact pkK BK493.out) hb); replace HB := am (below_step (pkW HB.out) hb); (try clear hb)) | ((with_reducible refine gate_dst (N := 11) rfl ?_); refine box_event ?hg (N := 11) ?hd (cs := #[.int .i64 0, .int .i64 0, .string (⟨#[]⟩ : ByteArray)]) (t := 27) ?hr ?_; (case hd => rfl); (case hg => rfl); (case hr => first | (go_simp; done) | (go_simp; rfl)); intro gb498 hg w96 hbox hb; have BK498 := am (hbox); have GW498 := am ((by rw [hg]; exact (below_size (pkW HB.out)) : w.heap.size ≤ gb498)); have GE498 := am ((by rw [hg]; exact (below_size (pkW HB.out)) : w.heap.size ≤ gb498)); replace HB := am (below_step (pkW HB.out) hb); have NB474_498 := am ((by rw [hg]; exact Nat.ne_of_lt (blk_lt (g := gb474) (o := .cells #[.int .i64 t467, .int .i64 t468, .string t469] 27 (0, 0)) (pkK BK474.out)) : gb474 ≠ gb498)); have NB498_474 := am ((by rw [hg]; exact Nat.ne_of_gt (blk_lt (g := gb474) (o := .cells #[.int .i64 t467, .int .i64 t468, .string t469] 27 (0, 0)) (pkK BK474.out)) : gb498 ≠ gb474)); replace BK474 := am (blk_below (pkK BK474.out) hb); have NB475_498 := am ((by rw [hg]; exact Nat.ne_of_lt (blk_lt (g := gb475) (o := .cells #[.int .i64 t470, .int .i64 t471, .int .i64 t472, .string t473] 45 (0, 0)) (pkK BK475.out)) : gb475 ≠ gb498)); have NB498_475 := am ((by rw [hg]; exact Nat.ne_of_gt (blk_lt (g := gb475) (o := .cells #[.int .i64 t470, .int .i64 t471, .int .i64 t472, .string t473] 45 (0, 0)) (pkK BK475.out)) : gb498 ≠ gb475)); replace BK475 := am (blk_below (pkK BK475.out) hb); have NB480_498 := am ((by rw [hg]; exact Nat.ne_of_lt (blk_lt (g := gb480) (o := .cells #[.int .i64 t476, .int .i64 t477, .string t478] 27 (0, 0)) (pkK BK480.out)) : gb480 ≠ gb498)); have NB498_480 := am ((by rw [hg]; exact Nat.ne_of_gt (blk_lt (g := gb480) (o := .cells #[.int .i64 t476, .int .i64 t477, .string t478] 27 (0, 0)) (pkK BK480.out)) : gb498 ≠ gb480)); replace BK480 := am (blk_below (pkK BK480.out) hb); have NB485_498 := am ((by rw [hg]; exact Nat.ne_of_lt (blk_lt (g := gb485) (o := .cells #[.int .i64 t481, .int .i64 t482, .string t483] 27 (0, 0)) (pkK BK485.out)) : gb485 ≠ gb498)); have NB498_485 := am ((by rw [hg]; exact Nat.ne_of_gt (blk_lt (g := gb485) (o := .cells #[.int .i64 t481, .int .i64 t482, .string t483] 27 (0, 0)) (pkK BK485.out)) : gb498 ≠ gb485)); replace BK485 := am (blk_below (pkK BK485.out) hb); have NB493_498 := am ((by rw [hg]; exact Nat.ne_of_lt (blk_lt (g := gb493) (o := .cells #[.int .i64 t489, .int .i64 t490, .string t491] 27 (0, 0)) (pkK BK493.out)) : gb493 ≠ gb498)); have NB498_493 := am ((by rw [hg]; exact Nat.ne_of_gt (blk_lt (g := gb493) (o := .cells #[.int .i64 t489, .int .i64 t490, .string t491] 27 (0, 0)) (pkK BK493.out)) : gb498 ≠ gb493)); replace BK493 := am (blk_below (pkK BK493.out) hb); clear hb hbox hg; have hnb97 := NB498_474.out; have hnc97 := NB474_498.out; have hnb98 := NB498_475.out; have hnc98 := NB475_498.out; have hnb99 := NB498_480.out; have hnc99 := NB480_498.out; have hnb100 := NB498_485.out; have hnc100 := NB485_498.out; have hnb101 := NB498_493.out; have hnc101 := NB493_498.out; obtain ⟨hcz102_0, hcz102_1, hcz102_2, hfz102_0, hfz102_1, hfz102_2⟩ := bk3 BK498.out; obtain ⟨hcz103_0, hcz103_1, hcz103_2, hfz103_0, hfz103_1, hfz103_2⟩ := bk3 BK474.out; obtain ⟨hcz104_0, hcz104_1, hcz104_2, hcz104_3, hfz104_0, hfz104_1, hfz104_2, hfz104_3⟩ := bk4 BK475.out) | ((with_reducible refine gate_callee (f := 28) rfl ?_); refine goesL_ (some 86) rfl rfl Try.func28 (by kernel_rfl) rfl #[.agg #[.int .i64 t467, .int .i64 t468, .string t469], .agg #[.int .i64 2, .int .i64 t471, .int .i64 t472, .string t473]] rfl mpx ?_; (with_reducible refine (impl_Changed.calls kj46 t467 t468 t469 2 t471 t472 t473 t499 t500 t501 t502 _ A68.out).mono ?_); rintro e w105 ⟨rfl, hb⟩; refine ⟨_, rfl, ?_⟩; replace BK474 := am (blk_below (g := gb474) (o := .cells #[.int .i64 t467, .int .i64 t468, .string t469] 27 (0, 0)) (by (with_reducible repeat (first | refine blk_drewN ?_ _ | refine blk_drew ?_ | refine blk_alloc ?_ _)); refine blk_far ?_ NB474_498.out _; (with_reducible repeat (first | refine blk_drewN ?_ _ | refine blk_drew ?_ | refine blk_alloc ?_ _)); refine blk_far ?_ NB474_498.out _; (with_reducible repeat (first | refine blk_drewN ?_ _ | refine blk_drew ?_ | refine blk_alloc ?_ _)); refine blk_far ?_ NB474_498.out _; exact pkK BK474.out) hb); replace BK475 := am (blk_below (g := gb475) (o := .cells #[.int .i64 t470, .int .i64 t471, .int .i64 t472, .string t473] 45 (0, 0)) (by (with_reducible repeat (first | refine blk_drewN ?_ _ | refine blk_drew ?_ | refine blk_alloc ?_ _)); refine blk_far ?_ NB475_498.out _; (with_reducible repeat (first | refine blk_drewN ?_ _ | refine blk_drew ?_ | refine blk_alloc ?_ _)); refine blk_far ?_ NB475_498.out _; (with_reducible repeat (first | refine blk_drewN ?_ _ | refine blk_drew ?_ | refine blk_alloc ?_ _)); refine blk_far ?_ NB475_498.out _; exact pkK BK475.out) hb); replace BK480 := am (blk_below (g := gb480) (o := .cells #[.int .i64 t476, .int .i64 t477, .string t478] 27 (0, 0)) (by (with_reducible repeat (first | refine blk_drewN ?_ _ | refine blk_drew ?_ | refine blk_alloc ?_ _)); refine blk_far ?_ NB480_498.out _; (with_reducible repeat (first | refine blk_drewN ?_ _ | refine blk_drew ?_ | refine blk_alloc ?_ _)); refine blk_far ?_ NB480_498.out _; (with_reducible repeat (first | refine blk_drewN ?_ _ | refine blk_drew ?_ | refine blk_alloc ?_ _)); refine blk_far ?_ NB480_498.out _; exact pkK BK480.out) hb); replace BK485 := am (blk_below (g := gb485) (o := .cells #[.int .i64 t481, .int .i64 t482, .string t483] 27 (0, 0)) (by (with_reducible repeat (first | refine blk_drewN ?_ _ | refine blk_drew ?_ | refine blk_alloc ?_ _)); refine blk_far ?_ NB485_498.out _; (with_reducible repeat (first | refine blk_drewN ?_ _ | refine blk_drew ?_ | refine blk_alloc ?_ _)); refine blk_far ?_ NB485_498.out _; (with_reducible repeat (first | refine blk_drewN ?_ _ | refine blk_drew ?_ | refine blk_alloc ?_ _)); refine blk_far ?_ NB485_498.out _; exact pkK BK485.out) hb); replace BK493 := am (blk_below (g := gb493) (o := .cells #[.int .i64 t489, .int .i64 t490, .string t491] 27 (0, 0)) (by (with_reducible repeat (first | refine blk_drewN ?_ _ | refine blk_drew ?_ | refine blk_alloc ?_ _)); refine blk_far ?_ NB493_498.out _; (with_reducible repeat (first | refine blk_drewN ?_ _ | refine blk_drew ?_ | refine blk_alloc ?_ _)); refine blk_far ?_ NB493_498.out _; (with_reducible repeat (first | refine blk_drewN ?_ _ | refine blk_drew ?_ | refine blk_alloc ?_ _)); refine blk_far ?_ NB493_498.out _; exact pkK BK493.out) hb); replace BK498 := am (blk_below (g := gb498) (o := .cells #[.int .i64 t494, .int .i64 t495, .string t496] 27 (0, 0)) (by (with_reducible repeat (first | refine blk_drewN ?_ _ | refine blk_drew ?_ | refine blk_alloc ?_ _)); refine blk_put (cs := #[.int .i64 t494, .int .i64 t495, .string (⟨#[]⟩ : ByteArray)]) ?_ 2 _ rfl; (with_reducible repeat (first | refine blk_drewN ?_ _ | refine blk_drew ?_ | refine blk_alloc ?_ _)); refine blk_put (cs := #[.int .i64 t494, .int .i64 0, .string (⟨#[]⟩ : ByteArray)]) ?_ 1 _ rfl; (with_reducible repeat (first | refine blk_drewN ?_ _ | refine blk_drew ?_ | refine blk_alloc ?_ _)); refine blk_put (cs := #[.int .i64 0, .int .i64 0, .string (⟨#[]⟩ : ByteArray)]) ?_ 0 _ rfl; exact pkK BK498.out) hb); replace HB := am (below_step (pkW HB.out) hb); (try clear hb)) | ((with_reducible refine gate_dst (N := 13) rfl ?_); refine box_event ?hg (N := 13) ?hd (cs := #[.int .i64 0, .int .i64 0, .string (⟨#[]⟩ : ByteArray)]) (t := 27) ?hr ?_; (case hd => rfl); (case hg => rfl); (case hr => first | (go_simp; done) | (go_simp; rfl)); intro gb503 hg w106 hbox hb; have BK503 := am (hbox); have GW503 := am ((by rw [hg]; exact (below_size (pkW HB.out)) : w.heap.size ≤ gb503)); have GE503 := am ((by rw [hg]; exact (below_size (pkW HB.out)) : w.heap.size ≤ gb503)); replace HB := am (below_step (pkW HB.out) hb); have NB474_503 := am ((by rw [hg]; exact Nat.ne_of_lt (blk_lt (g := gb474) (o := .cells #[.int .i64 t467, .int .i64 t468, .string t469] 27 (0, 0)) (pkK BK474.out)) : gb474 ≠ gb503)); have NB503_474 := am ((by rw [hg]; exact Nat.ne_of_gt (blk_lt (g := gb474) (o := .cells #[.int .i64 t467, .int .i64 t468, .string t469] 27 (0, 0)) (pkK BK474.out)) : gb503 ≠ gb474)); replace BK474 := am (blk_below (pkK BK474.out) hb); have NB475_503 := am ((by rw [hg]; exact Nat.ne_of_lt (blk_lt (g := gb475) (o := .cells #[.int .i64 t470, .int .i64 t471, .int .i64 t472, .string t473] 45 (0, 0)) (pkK BK475.out)) : gb475 ≠ gb503)); have NB503_475 := am ((by rw [hg]; exact Nat.ne_of_gt (blk_lt (g := gb475) (o := .cells #[.int .i64 t470, .int .i64 t471, .int .i64 t472, .string t473] 45 (0, 0)) (pkK BK475.out)) : gb503 ≠ gb475)); replace BK475 := am (blk_below (pkK BK475.out) hb); have NB480_503 := am ((by rw [hg]; exact Nat.ne_of_lt (blk_lt (g := gb480) (o := .cells #[.int .i64 t476, .int .i64 t477, .string t478] 27 (0, 0)) (pkK BK480.out)) : gb480 ≠ gb503)); have NB503_480 := am ((by rw [hg]; exact Nat.ne_of_gt (blk_lt (g := gb480) (o := .cells #[.int .i64 t476, .int .i64 t477, .string t478] 27 (0, 0)) (pkK BK480.out)) : gb503 ≠ gb480)); replace BK480 := am (blk_below (pkK BK480.out) hb); have NB485_503 := am ((by rw [hg]; exact Nat.ne_of_lt (blk_lt (g := gb485) (o := .cells #[.int .i64 t481, .int .i64 t482, .string t483] 27 (0, 0)) (pkK BK485.out)) : gb485 ≠ gb503)); have NB503_485 := am ((by rw [hg]; exact Nat.ne_of_gt (blk_lt (g := gb485) (o := .cells #[.int .i64 t481, .int .i64 t482, .string t483] 27 (0, 0)) (pkK BK485.out)) : gb503 ≠ gb485)); replace BK485 := am (blk_below (pkK BK485.out) hb); have NB493_503 := am ((by rw [hg]; exact Nat.ne_of_lt (blk_lt (g := gb493) (o := .cells #[.int .i64 t489, .int .i64 t490, .string t491] 27 (0, 0)) (pkK BK493.out)) : gb493 ≠ gb503)); have NB503_493 := am ((by rw [hg]; exact Nat.ne_of_gt (blk_lt (g := gb493) (o := .cells #[.int .i64 t489, .int .i64 t490, .string t491] 27 (0, 0)) (pkK BK493.out)) : gb503 ≠ gb493)); replace BK493 := am (blk_below (pkK BK493.out) hb); have NB498_503 := am ((by rw [hg]; exact Nat.ne_of_lt (blk_lt (g := gb498) (o := .cells #[.int .i64 t494, .int .i64 t495, .string t496] 27 (0, 0)) (pkK BK498.out)) : gb498 ≠ gb503)); have NB503_498 := am ((by rw [hg]; exact Nat.ne_of_gt (blk_lt (g := gb498) (o := .cells #[.int .i64 t494, .int .i64 t495, .string t496] 27 (0, 0)) (pkK BK498.out)) : gb503 ≠ gb498)); replace BK498 := am (blk_below (pkK BK498.out) hb); clear hb hbox hg; have hnb107 := NB503_474.out; have hnc107 := NB474_503.out; have hnb108 := NB503_475.out; have hnc108 := NB475_503.out; have hnb109 := NB503_480.out; have hnc109 := NB480_503.out; have hnb110 := NB503_485.out; have hnc110 := NB485_503.out; have hnb111 := NB503_493.out; have hnc111 := NB493_503.out; have hnb112 := NB503_498.out; have hnc112 := NB498_503.out; obtain ⟨hcz113_0, hcz113_1, hcz113_2, hfz113_0, hfz113_1, hfz113_2⟩ := bk3 BK503.out; obtain ⟨hcz114_0, hcz114_1, hcz114_2, hcz114_3, hfz114_0, hfz114_1, hfz114_2, hfz114_3⟩ := bk4 BK475.out; obtain ⟨hcz115_0, hcz115_1, hcz115_2, hfz115_0, hfz115_1, hfz115_2⟩ := bk3 BK474.out) | ((with_reducible refine gate_callee (f := 28) rfl ?_); refine goesL_ (some 94) rfl rfl Try.func28 (by kernel_rfl) rfl #[.agg #[.int .i64 t471, .int .i64 t472, .string t473], .agg #[.int .i64 2, .int .i64 t467, .int .i64 t468, .string t469]] rfl mpx ?_; (with_reducible refine (impl_Changed.calls kj46 t471 t472 t473 2 t467 t468 t469 t504 t505 t506 t507 _ A69.out).mono ?_); rintro e w116 ⟨rfl, hb⟩; refine ⟨_, rfl, ?_⟩; replace BK474 := am (blk_below (g := gb474) (o := .cells #[.int .i64 t467, .int .i64 t468, .string t469] 27 (0, 0)) (by (with_reducible repeat (first | refine blk_drewN ?_ _ | refine blk_drew ?_ | refine blk_alloc ?_ _)); refine blk_far ?_ NB474_503.out _; (with_reducible repeat (first | refine blk_drewN ?_ _ | refine blk_drew ?_ | refine blk_alloc ?_ _)); refine blk_far ?_ NB474_503.out _; (with_reducible repeat (first | refine blk_drewN ?_ _ | refine blk_drew ?_ | refine blk_alloc ?_ _)); refine blk_far ?_ NB474_503.out _; exact pkK BK474.out) hb); replace BK475 := am (blk_below (g := gb475) (o := .cells #[.int .i64 t470, .int .i64 t471, .int .i64 t472, .string t473] 45 (0, 0)) (by (with_reducible repeat (first | refine blk_drewN ?_ _ | refine blk_drew ?_ | refine blk_alloc ?_ _)); refine blk_far ?_ NB475_503.out _; (with_reducible repeat (first | refine blk_drewN ?_ _ | refine blk_drew ?_ | refine blk_alloc ?_ _)); refine blk_far ?_ NB475_503.out _; (with_reducible repeat (first | refine blk_drewN ?_ _ | refine blk_drew ?_ | refine blk_alloc ?_ _)); refine blk_far ?_ NB475_503.out _; exact pkK BK475.out) hb); replace BK480 := am (blk_below (g := gb480) (o := .cells #[.int .i64 t476, .int .i64 t477, .string t478] 27 (0, 0)) (by (with_reducible repeat (first | refine blk_drewN ?_ _ | refine blk_drew ?_ | refine blk_alloc ?_ _)); refine blk_far ?_ NB480_503.out _; (with_reducible repeat (first | refine blk_drewN ?_ _ | refine blk_drew ?_ | refine blk_alloc ?_ _)); refine blk_far ?_ NB480_503.out _; (with_reducible repeat (first | refine blk_drewN ?_ _ | refine blk_drew ?_ | refine blk_alloc ?_ _)); refine blk_far ?_ NB480_503.out _; exact pkK BK480.out) hb); replace BK485 := am (blk_below (g := gb485) (o := .cells #[.int .i64 t481, .int .i64 t482, .string t483] 27 (0, 0)) (by (with_reducible repeat (first | refine blk_drewN ?_ _ | refine blk_drew ?_ | refine blk_alloc ?_ _)); refine blk_far ?_ NB485_503.out _; (with_reducible repeat (first | refine blk_drewN ?_ _ | refine blk_drew ?_ | refine blk_alloc ?_ _)); refine blk_far ?_ NB485_503.out _; (with_reducible repeat (first | refine blk_drewN ?_ _ | refine blk_drew ?_ | refine blk_alloc ?_ _)); refine blk_far ?_ NB485_503.out _; exact pkK BK485.out) hb); replace BK493 := am (blk_below (g := gb493) (o := .cells #[.int .i64 t489, .int .i64 t490, .string t491] 27 (0, 0)) (by (with_reducible repeat (first | refine blk_drewN ?_ _ | refine blk_drew ?_ | refine blk_alloc ?_ _)); refine blk_far ?_ NB493_503.out _; (with_reducible repeat (first | refine blk_drewN ?_ _ | refine blk_drew ?_ | refine blk_alloc ?_ _)); refine blk_far ?_ NB493_503.out _; (with_reducible repeat (first | refine blk_drewN ?_ _ | refine blk_drew ?_ | refine blk_alloc ?_ _)); refine blk_far ?_ NB493_503.out _; exact pkK BK493.out) hb); replace BK498 := am (blk_below (g := gb498) (o := .cells #[.int .i64 t494, .int .i64 t495, .string t496] 27 (0, 0)) (by (with_reducible repeat (first | refine blk_drewN ?_ _ | refine blk_drew ?_ | refine blk_alloc ?_ _)); refine blk_far ?_ NB498_503.out _; (with_reducible repeat (first | refine blk_drewN ?_ _ | refine blk_drew ?_ | refine blk_alloc ?_ _)); refine blk_far ?_ NB498_503.out _; (with_reducible repeat (first | refine blk_drewN ?_ _ | refine blk_drew ?_ | refine blk_alloc ?_ _)); refine blk_far ?_ NB498_503.out _; exact pkK BK498.out) hb); replace BK503 := am (blk_below (g := gb503) (o := .cells #[.int .i64 t499, .int .i64 t500, .string t501] 27 (0, 0)) (by (with_reducible repeat (first | refine blk_drewN ?_ _ | refine blk_drew ?_ | refine blk_alloc ?_ _)); refine blk_put (cs := #[.int .i64 t499, .int .i64 t500, .string (⟨#[]⟩ : ByteArray)]) ?_ 2 _ rfl; (with_reducible repeat (first | refine blk_drewN ?_ _ | refine blk_drew ?_ | refine blk_alloc ?_ _)); refine blk_put (cs := #[.int .i64 t499, .int .i64 0, .string (⟨#[]⟩ : ByteArray)]) ?_ 1 _ rfl; (with_reducible repeat (first | refine blk_drewN ?_ _ | refine blk_drew ?_ | refine blk_alloc ?_ _)); refine blk_put (cs := #[.int .i64 0, .int .i64 0, .string (⟨#[]⟩ : ByteArray)]) ?_ 0 _ rfl; exact pkK BK503.out) hb); replace HB := am (below_step (pkW HB.out) hb); (try clear hb)) | ((with_reducible refine gate_dst (N := 15) rfl ?_); refine box_event ?hg (N := 15) ?hd (cs := #[.int .i64 0, .int .i64 0, .string (⟨#[]⟩ : ByteArray)]) (t := 27) ?hr ?_; (case hd => rfl); (case hg => rfl); (case hr => first | (go_simp; done) | (go_simp; rfl)); intro gb508 hg w117 hbox hb; have BK508 := am (hbox); have GW508 := am ((by rw [hg]; exact (below_size (pkW HB.out)) : w.heap.size ≤ gb508)); have GE508 := am ((by rw [hg]; exact (below_size (pkW HB.out)) : w.heap.size ≤ gb508)); replace HB := am (below_step (pkW HB.out) hb); have NB474_508 := am ((by rw [hg]; exact Nat.ne_of_lt (blk_lt (g := gb474) (o := .cells #[.int .i64 t467, .int .i64 t468, .string t469] 27 (0, 0)) (pkK BK474.out)) : gb474 ≠ gb508)); have NB508_474 := am ((by rw [hg]; exact Nat.ne_of_gt (blk_lt (g := gb474) (o := .cells #[.int .i64 t467, .int .i64 t468, .string t469] 27 (0, 0)) (pkK BK474.out)) : gb508 ≠ gb474)); replace BK474 := am (blk_below (pkK BK474.out) hb); have NB475_508 := am ((by rw [hg]; exact Nat.ne_of_lt (blk_lt (g := gb475) (o := .cells #[.int .i64 t470, .int .i64 t471, .int .i64 t472, .string t473] 45 (0, 0)) (pkK BK475.out)) : gb475 ≠ gb508)); have NB508_475 := am ((by rw [hg]; exact Nat.ne_of_gt (blk_lt (g := gb475) (o := .cells #[.int .i64 t470, .int .i64 t471, .int .i64 t472, .string t473] 45 (0, 0)) (pkK BK475.out)) : gb508 ≠ gb475)); replace BK475 := am (blk_below (pkK BK475.out) hb); have NB480_508 := am ((by rw [hg]; exact Nat.ne_of_lt (blk_lt (g := gb480) (o := .cells #[.int .i64 t476, .int .i64 t477, .string t478] 27 (0, 0)) (pkK BK480.out)) : gb480 ≠ gb508)); have NB508_480 := am ((by rw [hg]; exact Nat.ne_of_gt (blk_lt (g := gb480) (o := .cells #[.int .i64 t476, .int .i64 t477, .string t478] 27 (0, 0)) (pkK BK480.out)) : gb508 ≠ gb480)); replace BK480 := am (blk_below (pkK BK480.out) hb); have NB485_508 := am ((by rw [hg]; exact Nat.ne_of_lt (blk_lt (g := gb485) (o := .cells #[.int .i64 t481, .int .i64 t482, .string t483] 27 (0, 0)) (pkK BK485.out)) : gb485 ≠ gb508)); have NB508_485 := am ((by rw [hg]; exact Nat.ne_of_gt (blk_lt (g := gb485) (o := .cells #[.int .i64 t481, .int .i64 t482, .string t483] 27 (0, 0)) (pkK BK485.out)) : gb508 ≠ gb485)); replace BK485 := am (blk_below (pkK BK485.out) hb); have NB493_508 := am ((by rw [hg]; exact Nat.ne_of_lt (blk_lt (g := gb493) (o := .cells #[.int .i64 t489, .int .i64 t490, .string t491] 27 (0, 0)) (pkK BK493.out)) : gb493 ≠ gb508)); have NB508_493 := am ((by rw [hg]; exact Nat.ne_of_gt (blk_lt (g := gb493) (o := .cells #[.int .i64 t489, .int .i64 t490, .string t491] 27 (0, 0)) (pkK BK493.out)) : gb508 ≠ gb493)); replace BK493 := am (blk_below (pkK BK493.out) hb); have NB498_508 := am ((by rw [hg]; exact Nat.ne_of_lt (blk_lt (g := gb498) (o := .cells #[.int .i64 t494, .int .i64 t495, .string t496] 27 (0, 0)) (pkK BK498.out)) : gb498 ≠ gb508)); have NB508_498 := am ((by rw [hg]; exact Nat.ne_of_gt (blk_lt (g := gb498) (o := .cells #[.int .i64 t494, .int .i64 t495, .string t496] 27 (0, 0)) (pkK BK498.out)) : gb508 ≠ gb498)); replace BK498 := am (blk_below (pkK BK498.out) hb); have NB503_508 := am ((by rw [hg]; exact Nat.ne_of_lt (blk_lt (g := gb503) (o := .cells #[.int .i64 t499, .int .i64 t500, .string t501] 27 (0, 0)) (pkK BK503.out)) : gb503 ≠ gb508)); have NB508_503 := am ((by rw [hg]; exact Nat.ne_of_gt (blk_lt (g := gb503) (o := .cells #[.int .i64 t499, .int .i64 t500, .string t501] 27 (0, 0)) (pkK BK503.out)) : gb508 ≠ gb503)); replace BK503 := am (blk_below (pkK BK503.out) hb); clear hb hbox hg; have hnb118 := NB508_474.out; have hnc118 := NB474_508.out; have hnb119 := NB508_475.out; have hnc119 := NB475_508.out; have hnb120 := NB508_480.out; have hnc120 := NB480_508.out; have hnb121 := NB508_485.out; have hnc121 := NB485_508.out; have hnb122 := NB508_493.out; have hnc122 := NB493_508.out; have hnb123 := NB508_498.out; have hnc123 := NB498_508.out; have hnb124 := NB508_503.out; have hnc124 := NB503_508.out; obtain ⟨hcz125_0, hcz125_1, hcz125_2, hfz125_0, hfz125_1, hfz125_2⟩ := bk3 BK508.out; obtain ⟨hcz126_0, hcz126_1, hcz126_2, hfz126_0, hfz126_1, hfz126_2⟩ := bk3 BK474.out; obtain ⟨hcz127_0, hcz127_1, hcz127_2, hcz127_3, hfz127_0, hfz127_1, hfz127_2, hfz127_3⟩ := bk4 BK475.out) | ((with_reducible refine gate_callee (f := 28) rfl ?_); refine goesL_ (some 102) rfl rfl Try.func28 (by kernel_rfl) rfl #[.agg #[.int .i64 t467, .int .i64 t468, .string t469], .agg #[.int .i64 1, .int .i64 t471, .int .i64 t472, .string t473]] rfl mpx ?_; (with_reducible refine (impl_Changed.calls kj46 t467 t468 t469 1 t471 t472 t473 t509 t510 t511 true _ A70.out).mono ?_); rintro e w128 ⟨rfl, hb⟩; refine ⟨_, rfl, ?_⟩; replace BK474 := am (blk_below (g := gb474) (o := .cells #[.int .i64 t467, .int .i64 t468, .string t469] 27 (0, 0)) (by (with_reducible repeat (first | refine blk_drewN ?_ _ | refine blk_drew ?_ | refine blk_alloc ?_ _)); refine blk_far ?_ NB474_508.out _; (with_reducible repeat (first | refine blk_drewN ?_ _ | refine blk_drew ?_ | refine blk_alloc ?_ _)); refine blk_far ?_ NB474_508.out _; (with_reducible repeat (first | refine blk_drewN ?_ _ | refine blk_drew ?_ | refine blk_alloc ?_ _)); refine blk_far ?_ NB474_508.out _; exact pkK BK474.out) hb); replace BK475 := am (blk_below (g := gb475) (o := .cells #[.int .i64 t470, .int .i64 t471, .int .i64 t472, .string t473] 45 (0, 0)) (by (with_reducible repeat (first | refine blk_drewN ?_ _ | refine blk_drew ?_ | refine blk_alloc ?_ _)); refine blk_far ?_ NB475_508.out _; (with_reducible repeat (first | refine blk_drewN ?_ _ | refine blk_drew ?_ | refine blk_alloc ?_ _)); refine blk_far ?_ NB475_508.out _; (with_reducible repeat (first | refine blk_drewN ?_ _ | refine blk_drew ?_ | refine blk_alloc ?_ _)); refine blk_far ?_ NB475_508.out _; exact pkK BK475.out) hb); replace BK480 := am (blk_below (g := gb480) (o := .cells #[.int .i64 t476, .int .i64 t477, .string t478] 27 (0, 0)) (by (with_reducible repeat (first | refine blk_drewN ?_ _ | refine blk_drew ?_ | refine blk_alloc ?_ _)); refine blk_far ?_ NB480_508.out _; (with_reducible repeat (first | refine blk_drewN ?_ _ | refine blk_drew ?_ | refine blk_alloc ?_ _)); refine blk_far ?_ NB480_508.out _; (with_reducible repeat (first | refine blk_drewN ?_ _ | refine blk_drew ?_ | refine blk_alloc ?_ _)); refine blk_far ?_ NB480_508.out _; exact pkK BK480.out) hb); replace BK485 := am (blk_below (g := gb485) (o := .cells #[.int .i64 t481, .int .i64 t482, .string t483] 27 (0, 0)) (by (with_reducible repeat (first | refine blk_drewN ?_ _ | refine blk_drew ?_ | refine blk_alloc ?_ _)); refine blk_far ?_ NB485_508.out _; (with_reducible repeat (first | refine blk_drewN ?_ _ | refine blk_drew ?_ | refine blk_alloc ?_ _)); refine blk_far ?_ NB485_508.out _; (with_reducible repeat (first | refine blk_drewN ?_ _ | refine blk_drew ?_ | refine blk_alloc ?_ _)); refine blk_far ?_ NB485_508.out _; exact pkK BK485.out) hb); replace BK493 := am (blk_below (g := gb493) (o := .cells #[.int .i64 t489, .int .i64 t490, .string t491] 27 (0, 0)) (by (with_reducible repeat (first | refine blk_drewN ?_ _ | refine blk_drew ?_ | refine blk_alloc ?_ _)); refine blk_far ?_ NB493_508.out _; (with_reducible repeat (first | refine blk_drewN ?_ _ | refine blk_drew ?_ | refine blk_alloc ?_ _)); refine blk_far ?_ NB493_508.out _; (with_reducible repeat (first | refine blk_drewN ?_ _ | refine blk_drew ?_ | refine blk_alloc ?_ _)); refine blk_far ?_ NB493_508.out _; exact pkK BK493.out) hb); replace BK498 := am (blk_below (g := gb498) (o := .cells #[.int .i64 t494, .int .i64 t495, .string t496] 27 (0, 0)) (by (with_reducible repeat (first | refine blk_drewN ?_ _ | refine blk_drew ?_ | refine blk_alloc ?_ _)); refine blk_far ?_ NB498_508.out _; (with_reducible repeat (first | refine blk_drewN ?_ _ | refine blk_drew ?_ | refine blk_alloc ?_ _)); refine blk_far ?_ NB498_508.out _; (with_reducible repeat (first | refine blk_drewN ?_ _ | refine blk_drew ?_ | refine blk_alloc ?_ _)); refine blk_far ?_ NB498_508.out _; exact pkK BK498.out) hb); replace BK503 := am (blk_below (g := gb503) (o := .cells #[.int .i64 t499, .int .i64 t500, .string t501] 27 (0, 0)) (by (with_reducible repeat (first | refine blk_drewN ?_ _ | refine blk_drew ?_ | refine blk_alloc ?_ _)); refine blk_far ?_ NB503_508.out _; (with_reducible repeat (first | refine blk_drewN ?_ _ | refine blk_drew ?_ | refine blk_alloc ?_ _)); refine blk_far ?_ NB503_508.out _; (with_reducible repeat (first | refine blk_drewN ?_ _ | refine blk_drew ?_ | refine blk_alloc ?_ _)); refine blk_far ?_ NB503_508.out _; exact pkK BK503.out) hb); replace BK508 := am (blk_below (g := gb508) (o := .cells #[.int .i64 t504, .int .i64 t505, .string t506] 27 (0, 0)) (by (with_reducible repeat (first | refine blk_drewN ?_ _ | refine blk_drew ?_ | refine blk_alloc ?_ _)); refine blk_put (cs := #[.int .i64 t504, .int .i64 t505, .string (⟨#[]⟩ : ByteArray)]) ?_ 2 _ rfl; (with_reducible repeat (first | refine blk_drewN ?_ _ | refine blk_drew ?_ | refine blk_alloc ?_ _)); refine blk_put (cs := #[.int .i64 t504, .int .i64 0, .string (⟨#[]⟩ : ByteArray)]) ?_ 1 _ rfl; (with_reducible repeat (first | refine blk_drewN ?_ _ | refine blk_drew ?_ | refine blk_alloc ?_ _)); refine blk_put (cs := #[.int .i64 0, .int .i64 0, .string (⟨#[]⟩ : ByteArray)]) ?_ 0 _ rfl; exact pkK BK508.out) hb); replace HB := am (below_step (pkW HB.out) hb); (try clear hb)) | ((with_reducible refine gate_dst (N := 17) rfl ?_); refine box_event ?hg (N := 17) ?hd (cs := #[.int .i64 0, .int .i64 0, .string (⟨#[]⟩ : ByteArray)]) (t := 27) ?hr ?_; (case hd => rfl); (case hg => rfl); (case hr => first | (go_simp; done) | (go_simp; rfl)); intro gb513 hg w129 hbox hb; have BK513 := am (hbox); have GW513 := am ((by rw [hg]; exact (below_size (pkW HB.out)) : w.heap.size ≤ gb513)); have GE513 := am ((by rw [hg]; exact (below_size (pkW HB.out)) : w.heap.size ≤ gb513)); replace HB := am (below_step (pkW HB.out) hb); have NB474_513 := am ((by rw [hg]; exact Nat.ne_of_lt (blk_lt (g := gb474) (o := .cells #[.int .i64 t467, .int .i64 t468, .string t469] 27 (0, 0)) (pkK BK474.out)) : gb474 ≠ gb513)); have NB513_474 := am ((by rw [hg]; exact Nat.ne_of_gt (blk_lt (g := gb474) (o := .cells #[.int .i64 t467, .int .i64 t468, .string t469] 27 (0, 0)) (pkK BK474.out)) : gb513 ≠ gb474)); replace BK474 := am (blk_below (pkK BK474.out) hb); have NB475_513 := am ((by rw [hg]; exact Nat.ne_of_lt (blk_lt (g := gb475) (o := .cells #[.int .i64 t470, .int .i64 t471, .int .i64 t472, .string t473] 45 (0, 0)) (pkK BK475.out)) : gb475 ≠ gb513)); have NB513_475 := am ((by rw [hg]; exact Nat.ne_of_gt (blk_lt (g := gb475) (o := .cells #[.int .i64 t470, .int .i64 t471, .int .i64 t472, .string t473] 45 (0, 0)) (pkK BK475.out)) : gb513 ≠ gb475)); replace BK475 := am (blk_below (pkK BK475.out) hb); have NB480_513 := am ((by rw [hg]; exact Nat.ne_of_lt (blk_lt (g := gb480) (o := .cells #[.int .i64 t476, .int .i64 t477, .string t478] 27 (0, 0)) (pkK BK480.out)) : gb480 ≠ gb513)); have NB513_480 := am ((by rw [hg]; exact Nat.ne_of_gt (blk_lt (g := gb480) (o := .cells #[.int .i64 t476, .int .i64 t477, .string t478] 27 (0, 0)) (pkK BK480.out)) : gb513 ≠ gb480)); replace BK480 := am (blk_below (pkK BK480.out) hb); have NB485_513 := am ((by rw [hg]; exact Nat.ne_of_lt (blk_lt (g := gb485) (o := .cells #[.int .i64 t481, .int .i64 t482, .string t483] 27 (0, 0)) (pkK BK485.out)) : gb485 ≠ gb513)); have NB513_485 := am ((by rw [hg]; exact Nat.ne_of_gt (blk_lt (g := gb485) (o := .cells #[.int .i64 t481, .int .i64 t482, .string t483] 27 (0, 0)) (pkK BK485.out)) : gb513 ≠ gb485)); replace BK485 := am (blk_below (pkK BK485.out) hb); have NB493_513 := am ((by rw [hg]; exact Nat.ne_of_lt (blk_lt (g := gb493) (o := .cells #[.int .i64 t489, .int .i64 t490, .string t491] 27 (0, 0)) (pkK BK493.out)) : gb493 ≠ gb513)); have NB513_493 := am ((by rw [hg]; exact Nat.ne_of_gt (blk_lt (g := gb493) (o := .cells #[.int .i64 t489, .int .i64 t490, .string t491] 27 (0, 0)) (pkK BK493.out)) : gb513 ≠ gb493)); replace BK493 := am (blk_below (pkK BK493.out) hb); have NB498_513 := am ((by rw [hg]; exact Nat.ne_of_lt (blk_lt (g := gb498) (o := .cells #[.int .i64 t494, .int .i64 t495, .string t496] 27 (0, 0)) (pkK BK498.out)) : gb498 ≠ gb513)); have NB513_498 := am ((by rw [hg]; exact Nat.ne_of_gt (blk_lt (g := gb498) (o := .cells #[.int .i64 t494, .int .i64 t495, .string t496] 27 (0, 0)) (pkK BK498.out)) : gb513 ≠ gb498)); replace BK498 := am (blk_below (pkK BK498.out) hb); have NB503_513 := am ((by rw [hg]; exact Nat.ne_of_lt (blk_lt (g := gb503) (o := .cells #[.int .i64 t499, .int .i64 t500, .string t501] 27 (0, 0)) (pkK BK503.out)) : gb503 ≠ gb513)); have NB513_503 := am ((by rw [hg]; exact Nat.ne_of_gt (blk_lt (g := gb503) (o := .cells #[.int .i64 t499, .int .i64 t500, .string t501] 27 (0, 0)) (pkK BK503.out)) : gb513 ≠ gb503)); replace BK503 := am (blk_below (pkK BK503.out) hb); have NB508_513 := am ((by rw [hg]; exact Nat.ne_of_lt (blk_lt (g := gb508) (o := .cells #[.int .i64 t504, .int .i64 t505, .string t506] 27 (0, 0)) (pkK BK508.out)) : gb508 ≠ gb513)); have NB513_508 := am ((by rw [hg]; exact Nat.ne_of_gt (blk_lt (g := gb508) (o := .cells #[.int .i64 t504, .int .i64 t505, .string t506] 27 (0, 0)) (pkK BK508.out)) : gb513 ≠ gb508)); replace BK508 := am (blk_below (pkK BK508.out) hb); clear hb hbox hg; have hnb130 := NB513_474.out; have hnc130 := NB474_513.out; have hnb131 := NB513_475.out; have hnc131 := NB475_513.out; have hnb132 := NB513_480.out; have hnc132 := NB480_513.out; have hnb133 := NB513_485.out; have hnc133 := NB485_513.out; have hnb134 := NB513_493.out; have hnc134 := NB493_513.out; have hnb135 := NB513_498.out; have hnc135 := NB498_513.out; have hnb136 := NB513_503.out; have hnc136 := NB503_513.out; have hnb137 := NB513_508.out; have hnc137 := NB508_513.out; obtain ⟨hcz138_0, hcz138_1, hcz138_2, hfz138_0, hfz138_1, hfz138_2⟩ := bk3 BK513.out; obtain ⟨hcz139_0, hcz139_1, hcz139_2, hfz139_0, hfz139_1, hfz139_2⟩ := bk3 BK493.out; obtain ⟨hcz140_0, hcz140_1, hcz140_2, hfz140_0, hfz140_1, hfz140_2⟩ := bk3 BK498.out; obtain ⟨hcz141_0, hcz141_1, hcz141_2, hfz141_0, hfz141_1, hfz141_2⟩ := bk3 BK474.out) | (go_at_call 18; (with_reducible refine (spec_MsgLess.calls kj46 t489 t490 t491 t467 t468 t469 false _ A74.out).mono ?_); rintro e w142 ⟨rfl, hb⟩; replace BK474 := am (blk_below (g := gb474) (o := .cells #[.int .i64 t467, .int .i64 t468, .string t469] 27 (0, 0)) (by (with_reducible repeat (first | refine blk_drewN ?_ _ | refine blk_drew ?_ | refine blk_alloc ?_ _)); refine blk_far ?_ NB474_513.out _; (with_reducible repeat (first | refine blk_drewN ?_ _ | refine blk_drew ?_ | refine blk_alloc ?_ _)); refine blk_far ?_ NB474_513.out _; (with_reducible repeat (first | refine blk_drewN ?_ _ | refine blk_drew ?_ | refine blk_alloc ?_ _)); refine blk_far ?_ NB474_513.out _; exact pkK BK474.out) hb); replace BK475 := am (blk_below (g := gb475) (o := .cells #[.int .i64 t470, .int .i64 t471, .int .i64 t472, .string t473] 45 (0, 0)) (by (with_reducible repeat (first | refine blk_drewN ?_ _ | refine blk_drew ?_ | refine blk_alloc ?_ _)); refine blk_far ?_ NB475_513.out _; (with_reducible repeat (first | refine blk_drewN ?_ _ | refine blk_drew ?_ | refine blk_alloc ?_ _)); refine blk_far ?_ NB475_513.out _; (with_reducible repeat (first | refine blk_drewN ?_ _ | refine blk_drew ?_ | refine blk_alloc ?_ _)); refine blk_far ?_ NB475_513.out _; exact pkK BK475.out) hb); replace BK480 := am (blk_below (g := gb480) (o := .cells #[.int .i64 t476, .int .i64 t477, .string t478] 27 (0, 0)) (by (with_reducible repeat (first | refine blk_drewN ?_ _ | refine blk_drew ?_ | refine blk_alloc ?_ _)); refine blk_far ?_ NB480_513.out _; (with_reducible repeat (first | refine blk_drewN ?_ _ | refine blk_drew ?_ | refine blk_alloc ?_ _)); refine blk_far ?_ NB480_513.out _; (with_reducible repeat (first | refine blk_drewN ?_ _ | refine blk_drew ?_ | refine blk_alloc ?_ _)); refine blk_far ?_ NB480_513.out _; exact pkK BK480.out) hb); replace BK485 := am (blk_below (g := gb485) (o := .cells #[.int .i64 t481, .int .i64 t482, .string t483] 27 (0, 0)) (by (with_reducible repeat (first | refine blk_drewN ?_ _ | refine blk_drew ?_ | refine blk_alloc ?_ _)); refine blk_far ?_ NB485_513.out _; (with_reducible repeat (first | refine blk_drewN ?_ _ | refine blk_drew ?_ | refine blk_alloc ?_ _)); refine blk_far ?_ NB485_513.out _; (with_reducible repeat (first | refine blk_drewN ?_ _ | refine blk_drew ?_ | refine blk_alloc ?_ _)); refine blk_far ?_ NB485_513.out _; exact pkK BK485.out) hb); replace BK493 := am (blk_below (g := gb493) (o := .cells #[.int .i64 t489, .int .i64 t490, .string t491] 27 (0, 0)) (by (with_reducible repeat (first | refine blk_drewN ?_ _ | refine blk_drew ?_ | refine blk_alloc ?_ _)); refine blk_far ?_ NB493_513.out _; (with_reducible repeat (first | refine blk_drewN ?_ _ | refine blk_drew ?_ | refine blk_alloc ?_ _)); refine blk_far ?_ NB493_513.out _; (with_reducible repeat (first | refine blk_drewN ?_ _ | refine blk_drew ?_ | refine blk_alloc ?_ _)); refine blk_far ?_ NB493_513.out _; exact pkK BK493.out) hb); replace BK498 := am (blk_below (g := gb498) (o := .cells #[.int .i64 t494, .int .i64 t495, .string t496] 27 (0, 0)) (by (with_reducible repeat (first | refine blk_drewN ?_ _ | refine blk_drew ?_ | refine blk_alloc ?_ _)); refine blk_far ?_ NB498_513.out _; (with_reducible repeat (first | refine blk_drewN ?_ _ | refine blk_drew ?_ | refine blk_alloc ?_ _)); refine blk_far ?_ NB498_513.out _; (with_reducible repeat (first | refine blk_drewN ?_ _ | refine blk_drew ?_ | refine blk_alloc ?_ _)); refine blk_far ?_ NB498_513.out _; exact pkK BK498.out) hb); replace BK503 := am (blk_below (g := gb503) (o := .cells #[.int .i64 t499, .int .i64 t500, .string t501] 27 (0, 0)) (by (with_reducible repeat (first | refine blk_drewN ?_ _ | refine blk_drew ?_ | refine blk_alloc ?_ _)); refine blk_far ?_ NB503_513.out _; (with_reducible repeat (first | refine blk_drewN ?_ _ | refine blk_drew ?_ | refine blk_alloc ?_ _)); refine blk_far ?_ NB503_513.out _; (with_reducible repeat (first | refine blk_drewN ?_ _ | refine blk_drew ?_ | refine blk_alloc ?_ _)); refine blk_far ?_ NB503_513.out _; exact pkK BK503.out) hb); replace BK508 := am (blk_below (g := gb508) (o := .cells #[.int .i64 t504, .int .i64 t505, .string t506] 27 (0, 0)) (by (with_reducible repeat (first | refine blk_drewN ?_ _ | refine blk_drew ?_ | refine blk_alloc ?_ _)); refine blk_far ?_ NB508_513.out _; (with_reducible repeat (first | refine blk_drewN ?_ _ | refine blk_drew ?_ | refine blk_alloc ?_ _)); refine blk_far ?_ NB508_513.out _; (with_reducible repeat (first | refine blk_drewN ?_ _ | refine blk_drew ?_ | refine blk_alloc ?_ _)); refine blk_far ?_ NB508_513.out _; exact pkK BK508.out) hb); replace BK513 := am (blk_below (g := gb513) (o := .cells #[.int .i64 t509, .int .i64 t510, .string t511] 27 (0, 0)) (by (with_reducible repeat (first | refine blk_drewN ?_ _ | refine blk_drew ?_ | refine blk_alloc ?_ _)); refine blk_put (cs := #[.int .i64 t509, .int .i64 t510, .string (⟨#[]⟩ : ByteArray)]) ?_ 2 _ rfl; (with_reducible repeat (first | refine blk_drewN ?_ _ | refine blk_drew ?_ | refine blk_alloc ?_ _)); refine blk_put (cs := #[.int .i64 t509, .int .i64 0, .string (⟨#[]⟩ : ByteArray)]) ?_ 1 _ rfl; (with_reducible repeat (first | refine blk_drewN ?_ _ | refine blk_drew ?_ | refine blk_alloc ?_ _)); refine blk_put (cs := #[.int .i64 0, .int .i64 0, .string (⟨#[]⟩ : ByteArray)]) ?_ 0 _ rfl; exact pkK BK513.out) hb); replace HB := am (below_step (pkW HB.out) hb); (try clear hb); obtain ⟨hcz143_0, hcz143_1, hcz143_2, hfz143_0, hfz143_1, hfz143_2⟩ := bk3 BK503.out; obtain ⟨hcz144_0, hcz144_1, hcz144_2, hfz144_0, hfz144_1, hfz144_2⟩ := bk3 BK508.out; obtain ⟨hcz145_0, hcz145_1, hcz145_2, hfz145_0, hfz145_1, hfz145_2⟩ := bk3 BK513.out; obtain ⟨hcz146_0, hcz146_1, hcz146_2, hcz146_3, hfz146_0, hfz146_1, hfz146_2, hfz146_3⟩ := bk4 BK475.out))
               go_ret
               exact ⟨rfe, pkW HB.out⟩
              ·replace c78 := Bool.eq_false_iff.mpr c78
               subst c78
               replace H : (some false) = some r := by rw [if_neg (show ¬ (false = true) by decide)] at H; exact H
               exact absurd (Option.some.inj H) (by rw [HQ_.out]; simp)
             ·rw [if_neg c77] at H
              have c77b0 : (t499 == t504 && (t500 == t505 && (t501.toList == t506.toList))) = false := by simpa using c77
              (try (have c77b1 : decide (t499 = t504 && (t500 == t505 && (t501.toList == t506.toList))) = false := by simpa using c77))
              (try (have c77b2 : (t499 == t504 && (t500 == t505 && (t501.toList == t506.toList))) = false := by first | exact bq_t c77 | exact bq_f c77 | simpa using c77))
              (try (have c77b3 : ¬ (t499 = t504 && (t500 == t505 && (t501.toList == t506.toList))) := by simpa using c77))
              clear c77
              exact absurd (Option.some.inj H) (by rw [HQ_.out]; simp)
            ·rw [if_neg c76] at H
             have c76b0 : (t502 == t507) = false := by simpa using c76
             (try (have c76b1 : decide (t502 = t507) = false := by simpa using c76))
             (try (have c76b2 : (t502 == t507) = false := by first | exact bq_t c76 | exact bq_f c76 | simpa using c76))
             (try (have c76b3 : ¬ (t502 = t507) := by simpa using c76))
             clear c76
             exact absurd (Option.some.inj H) (by rw [HQ_.out]; simp)
          ·rw [if_neg c73] at H
           have c73b0 : (t489 == t494 && (t490 == t495 && (t491.toList == t496.toList))) = false := by simpa using c73
           (try (have c73b1 : decide (t489 = t494 && (t490 == t495 && (t491.toList == t496.toList))) = false := by simpa using c73))
           (try (have c73b2 : (t489 == t494 && (t490 == t495 && (t491.toList == t496.toList))) = false := by first | exact bq_t c73 | exact bq_f c73 | simpa using c73))
           (try (have c73b3 : ¬ (t489 = t494 && (t490 == t495 && (t491.toList == t496.toList))) := by simpa using c73))
           clear c73
           exact absurd (Option.some.inj H) (by rw [HQ_.out]; simp)
         ·replace c72 := Bool.eq_false_iff.mpr c72
          subst c72
          replace H : (some false) = some r := by rw [if_neg (show ¬ (false = true) by decide)] at H; exact H
          exact absurd (Option.some.inj H) (by rw [HQ_.out]; simp)
        ·replace c71 := Bool.eq_false_iff.mpr c71
         subst c71
         replace H : (some false) = some r := by rw [if_neg (show ¬ (false = true) by decide)] at H; exact H
         exact absurd (Option.some.inj H) (by rw [HQ_.out]; simp)
end Go.Proofs.Ytalehmhjddnmoaa.Z
