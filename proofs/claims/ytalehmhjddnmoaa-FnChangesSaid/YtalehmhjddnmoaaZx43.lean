/- The Go functions laws_FnChanges as Lean functions, each with a proof that its code comes to just these answers; conditions: those of each theorem. -/
import Derived.Test.YtalehmhjddnmoaaZx0
import Derived.Test.YtalehmhjddnmoaaZx1
import Derived.Test.YtalehmhjddnmoaaZx4
import Derived.Test.YtalehmhjddnmoaaZx6
import Derived.Test.YtalehmhjddnmoaaZx11
import Derived.Test.YtalehmhjddnmoaaZx20
import Derived.Test.YtalehmhjddnmoaaZx29
import Derived.Test.YtalehmhjddnmoaaZx31
import Derived.Test.YtalehmhjddnmoaaZx34
namespace Go.Proofs.Ytalehmhjddnmoaa.Z
open Go.RowKit Go.Proofs.YtalehmhjddnmoaaW.PrintWords Go.Proofs.YtalehmhjddnmoaaW.PrintLast Go.Proofs.YtalehmhjddnmoaaW.PrintMore
attribute [local go_sem] max2_int min2_int max_two min_two max_three min_three max_four min_four   -- for this text's walks alone
set_option linter.unusedVariables false
set_option linter.unusedSimpArgs false
attribute [local go_sem high] eqA27
mutual
def laws_FnChanges.j0 : Nat → Bool → Bool → Int → Int → ByteArray → Int → Int → Int → ByteArray → Option (Bool)
 | 0, _, _, _, _, _, _, _, _, _ => none
 | k + 1, x6, x53, x513000, x513001, x513002, x514000, x514001, x514002, x514003 => if x53 = true then (some false) else ((spec_MsgOk.f k x513000 x513001 x513002).bind fun t525 => (if t525 = true then ((spec_MsgOk.f k x514001 x514002 x514003).bind fun t526 => (laws_FnChanges.j1 k x6 (!t526) x513000 x513001 x513002 x514000 x514001 x514002 x514003)) else (laws_FnChanges.j1 k x6 true x513000 x513001 x513002 x514000 x514001 x514002 x514003)))
def laws_FnChanges.j1 : Nat → Bool → Bool → Int → Int → ByteArray → Int → Int → Int → ByteArray → Option (Bool)
 | 0, _, _, _, _, _, _, _, _, _ => none
 | k + 1, x6, x62, x513000, x513001, x513002, x514000, x514001, x514002, x514003 => if x62 = true then (some (!x6)) else ((impl_Changed.f k x513000 x513001 x513002 4 x514001 x514002 x514003).bind fun bt527 => ((impl_Changed.f k x514001 x514002 x514003 4 x513000 x513001 x513002).bind fun bt532 => ((impl_Changed.f k x513000 x513001 x513002 2 x514001 x514002 x514003).bind fun bt537 => ((impl_Changed.f k x514001 x514002 x514003 2 x513000 x513001 x513002).bind fun bt542 => ((impl_Changed.f k x513000 x513001 x513002 1 x514001 x514002 x514003).bind fun bt547 => (if bt527.2.2.2 = true then (if bt532.2.2.2 = true then (if (bt527.1 == bt532.1 && (bt527.2.1 == bt532.2.1 && (bt527.2.2.1.toList == bt532.2.2.1.toList))) = true then ((spec_MsgLess.f k bt527.1 bt527.2.1 bt527.2.2.1 x513000 x513001 x513002).bind fun t552 => (if t552 = true then (some false) else (if (bt537.2.2.2 == bt542.2.2.2) = true then (if (bt537.1 == bt542.1 && (bt537.2.1 == bt542.2.1 && (bt537.2.2.1.toList == bt542.2.2.1.toList))) = true then (if bt547.2.2.2 = true then (some (bt547.1 == x514001 && (bt547.2.1 == x514002 && (bt547.2.2.1.toList == x514003.toList)))) else (some false)) else (some false)) else (some false)))) else (some false)) else (some false)) else (some false)))))))
end
def laws_FnChanges.f (k : Nat) (l0 : List Int) : Option (Bool) := (laws_big.f l0).bind fun t504 => (if t504 = true then (some true) else ((spec_DrawChanged.f k l0).bind fun bt505 => ((impl_Changed.f k bt505.1 bt505.2.1 bt505.2.2.1 bt505.2.2.2.1 bt505.2.2.2.2.1 bt505.2.2.2.2.2.1 bt505.2.2.2.2.2.2).bind fun bt514 => ((spec_Changed.f k bt505.1 bt505.2.1 bt505.2.2.1 bt505.2.2.2.1 bt505.2.2.2.2.1 bt505.2.2.2.2.2.1 bt505.2.2.2.2.2.2).bind fun bt519 => (if (bt514.2.2.2 != bt519.2.2.2) = true then (laws_FnChanges.j0 k bt514.2.2.2 true bt505.1 bt505.2.1 bt505.2.2.1 bt505.2.2.2.1 bt505.2.2.2.2.1 bt505.2.2.2.2.2.1 bt505.2.2.2.2.2.2) else (if (!(bt514.1 == bt519.1) || (!(bt514.2.1 == bt519.2.1) || (!(bt514.2.2.1.toList == bt519.2.2.1.toList)))) = true then (laws_FnChanges.j0 k bt514.2.2.2 true bt505.1 bt505.2.1 bt505.2.2.1 bt505.2.2.2.1 bt505.2.2.2.2.1 bt505.2.2.2.2.2.1 bt505.2.2.2.2.2.2) else (if bt519.2.2.2 = true then ((impl_MsgOk.f k bt514.1 bt514.2.1 bt514.2.2.1).bind fun t524 => (laws_FnChanges.j0 k bt514.2.2.2 (!t524) bt505.1 bt505.2.1 bt505.2.2.1 bt505.2.2.2.1 bt505.2.2.2.2.1 bt505.2.2.2.2.2.1 bt505.2.2.2.2.2.2)) else (laws_FnChanges.j0 k bt514.2.2.2 false bt505.1 bt505.2.1 bt505.2.2.1 bt505.2.2.2.1 bt505.2.2.2.2.1 bt505.2.2.2.2.2.1 bt505.2.2.2.2.2.2))))))))
theorem laws_FnChanges.mono_l : ∀ k, (∀ y0 y1 y2 y3 y4 y5 y6 y7 y8, LeO (laws_FnChanges.j0 k y0 y1 y2 y3 y4 y5 y6 y7 y8) (laws_FnChanges.j0 (k + 1) y0 y1 y2 y3 y4 y5 y6 y7 y8)) ∧ (∀ y0 y1 y2 y3 y4 y5 y6 y7 y8, LeO (laws_FnChanges.j1 k y0 y1 y2 y3 y4 y5 y6 y7 y8) (laws_FnChanges.j1 (k + 1) y0 y1 y2 y3 y4 y5 y6 y7 y8))
 | 0 => ⟨fun _ _ _ _ _ _ _ _ _ r h => by simp [laws_FnChanges.j0] at h, fun _ _ _ _ _ _ _ _ _ r h => by simp [laws_FnChanges.j1] at h⟩
 | k + 1 => by
  obtain ⟨ih0, ih1⟩ := laws_FnChanges.mono_l k
  refine ⟨?_, ?_⟩
  ·intro y0 y1 y2 y3 y4 y5 y6 y7 y8
   unfold laws_FnChanges.j0
   repeat' first
   | (with_reducible exact ih0 _ _ _ _ _ _ _ _ _)
   | (with_reducible exact ih1 _ _ _ _ _ _ _ _ _)
   | (with_reducible exact impl_Changed.mono _ _ _ _ _ _ _ _)
   | (with_reducible exact impl_MsgOk.mono _ _ _ _)
   | (with_reducible exact spec_Changed.mono _ _ _ _ _ _ _ _)
   | (with_reducible exact spec_DrawChanged.mono _ _)
   | (with_reducible exact spec_MsgLess.mono _ _ _ _ _ _ _)
   | (with_reducible exact spec_MsgOk.mono _ _ _ _)
   | (with_reducible exact LeO.refl _)
   | (with_reducible exact LeO.none _)
   | (with_reducible refine LeO.ite ?_ ?_)
   | (with_reducible refine LeO.bind ?_ (fun _ => ?_))
  ·intro y0 y1 y2 y3 y4 y5 y6 y7 y8
   unfold laws_FnChanges.j1
   repeat' first
   | (with_reducible exact ih0 _ _ _ _ _ _ _ _ _)
   | (with_reducible exact ih1 _ _ _ _ _ _ _ _ _)
   | (with_reducible exact impl_Changed.mono _ _ _ _ _ _ _ _)
   | (with_reducible exact impl_MsgOk.mono _ _ _ _)
   | (with_reducible exact spec_Changed.mono _ _ _ _ _ _ _ _)
   | (with_reducible exact spec_DrawChanged.mono _ _)
   | (with_reducible exact spec_MsgLess.mono _ _ _ _ _ _ _)
   | (with_reducible exact spec_MsgOk.mono _ _ _ _)
   | (with_reducible exact LeO.refl _)
   | (with_reducible exact LeO.none _)
   | (with_reducible refine LeO.ite ?_ ?_)
   | (with_reducible refine LeO.bind ?_ (fun _ => ?_))
theorem laws_FnChanges.mono : ∀ a0 k, LeO (laws_FnChanges.f k a0) (laws_FnChanges.f (k + 1) a0) := by
 intro a0 k
 obtain ⟨ih0, ih1⟩ := laws_FnChanges.mono_l k
 unfold laws_FnChanges.f
 repeat' first
   | (with_reducible exact ih0 _ _ _ _ _ _ _ _ _)
   | (with_reducible exact ih1 _ _ _ _ _ _ _ _ _)
   | (with_reducible exact impl_Changed.mono _ _ _ _ _ _ _ _)
   | (with_reducible exact impl_MsgOk.mono _ _ _ _)
   | (with_reducible exact spec_Changed.mono _ _ _ _ _ _ _ _)
   | (with_reducible exact spec_DrawChanged.mono _ _)
   | (with_reducible exact spec_MsgLess.mono _ _ _ _ _ _ _)
   | (with_reducible exact spec_MsgOk.mono _ _ _ _)
   | (with_reducible exact LeO.refl _)
   | (with_reducible exact LeO.none _)
   | (with_reducible refine LeO.ite ?_ ?_)
   | (with_reducible refine LeO.bind ?_ (fun _ => ?_))
set_option maxHeartbeats 8000000 in
set_option maxRecDepth 100000 in
theorem laws_FnChanges.calls (k : Nat) (A0 : Option Addr) (c0 : Nat) (l0 : List Int) (r : Bool) (w : World) (hr0 : Kd.C (Kd.int .u8) w A0 l0.length l0) (hc0 : l0.length ≤ c0) (HQ_ : Aside0 (r = true)) (h : laws_FnChanges.f k l0 = some r) :
  Calls Try.prog 11 #[.slice A0 l0.length c0] w fun e w' => e = .returned (.bool r) ∧ Below w.heap.size w w' := by
 have hu27 := Try.underlying27
 have hu45 := Try.underlying45
 have HR0 := am hr0
 have HC0 := am hc0
 clear hr0 hc0
 have HB := am (Below.refl w.heap.size w)
 have H : ((laws_big.f l0).bind fun t504 => (if t504 = true then (some true) else ((spec_DrawChanged.f k l0).bind fun bt505 => ((impl_Changed.f k bt505.1 bt505.2.1 bt505.2.2.1 bt505.2.2.2.1 bt505.2.2.2.2.1 bt505.2.2.2.2.2.1 bt505.2.2.2.2.2.2).bind fun bt514 => ((spec_Changed.f k bt505.1 bt505.2.1 bt505.2.2.1 bt505.2.2.2.1 bt505.2.2.2.2.1 bt505.2.2.2.2.2.1 bt505.2.2.2.2.2.2).bind fun bt519 => (if (bt514.2.2.2 != bt519.2.2.2) = true then (laws_FnChanges.j0 k bt514.2.2.2 true bt505.1 bt505.2.1 bt505.2.2.1 bt505.2.2.2.1 bt505.2.2.2.2.1 bt505.2.2.2.2.2.1 bt505.2.2.2.2.2.2) else (if (!(bt514.1 == bt519.1) || (!(bt514.2.1 == bt519.2.1) || (!(bt514.2.2.1.toList == bt519.2.2.1.toList)))) = true then (laws_FnChanges.j0 k bt514.2.2.2 true bt505.1 bt505.2.1 bt505.2.2.1 bt505.2.2.2.1 bt505.2.2.2.2.1 bt505.2.2.2.2.2.1 bt505.2.2.2.2.2.2) else (if bt519.2.2.2 = true then ((impl_MsgOk.f k bt514.1 bt514.2.1 bt514.2.2.1).bind fun t524 => (laws_FnChanges.j0 k bt514.2.2.2 (!t524) bt505.1 bt505.2.1 bt505.2.2.1 bt505.2.2.2.1 bt505.2.2.2.2.1 bt505.2.2.2.2.2.1 bt505.2.2.2.2.2.2)) else (laws_FnChanges.j0 k bt514.2.2.2 false bt505.1 bt505.2.1 bt505.2.2.1 bt505.2.2.2.1 bt505.2.2.2.2.1 bt505.2.2.2.2.2.1 bt505.2.2.2.2.2.2))))))))) = some r := h
 clear h
 replace H := Option.bind_eq_some_iff.mp H
 obtain ⟨t504, A20, H⟩ := H
 replace H : (if t504 = true then (some true) else ((spec_DrawChanged.f k l0).bind fun bt505 => ((impl_Changed.f k bt505.1 bt505.2.1 bt505.2.2.1 bt505.2.2.2.1 bt505.2.2.2.2.1 bt505.2.2.2.2.2.1 bt505.2.2.2.2.2.2).bind fun bt514 => ((spec_Changed.f k bt505.1 bt505.2.1 bt505.2.2.1 bt505.2.2.2.1 bt505.2.2.2.2.1 bt505.2.2.2.2.2.1 bt505.2.2.2.2.2.2).bind fun bt519 => (if (bt514.2.2.2 != bt519.2.2.2) = true then (laws_FnChanges.j0 k bt514.2.2.2 true bt505.1 bt505.2.1 bt505.2.2.1 bt505.2.2.2.1 bt505.2.2.2.2.1 bt505.2.2.2.2.2.1 bt505.2.2.2.2.2.2) else (if (!(bt514.1 == bt519.1) || (!(bt514.2.1 == bt519.2.1) || (!(bt514.2.2.1.toList == bt519.2.2.1.toList)))) = true then (laws_FnChanges.j0 k bt514.2.2.2 true bt505.1 bt505.2.1 bt505.2.2.1 bt505.2.2.2.1 bt505.2.2.2.2.1 bt505.2.2.2.2.2.1 bt505.2.2.2.2.2.2) else (if bt519.2.2.2 = true then ((impl_MsgOk.f k bt514.1 bt514.2.1 bt514.2.2.1).bind fun t524 => (laws_FnChanges.j0 k bt514.2.2.2 (!t524) bt505.1 bt505.2.1 bt505.2.2.1 bt505.2.2.2.1 bt505.2.2.2.2.1 bt505.2.2.2.2.2.1 bt505.2.2.2.2.2.2)) else (laws_FnChanges.j0 k bt514.2.2.2 false bt505.1 bt505.2.1 bt505.2.2.1 bt505.2.2.2.1 bt505.2.2.2.2.1 bt505.2.2.2.2.2.1 bt505.2.2.2.2.2.2)))))))) = some r := H
 have A2 := am A20
 clear A20
 by_cases c3 : t504 = true
 ·subst c3
  replace H : (some true) = some r := by rw [if_pos rfl] at H; exact H
  obtain rfl := Option.some.inj H
  go_enter Try.func11, Try.ntmps11
  go_wp2_with (first | ((with_reducible refine gate_callee (f := 23) rfl ?_); refine goesL_ (some 20) rfl rfl Try.func23 (by kernel_rfl) rfl #[.slice A0 l0.length c0] rfl mpx ?_; (with_reducible refine (laws_big.calls _ _ l0 true _ ?side1 ?side2 A2.out).mono ?_); (case side1 => exact pkC HR0.out); (case side2 => exact HC0.out); rintro e w' ⟨rfl, ⟨nd, rfl⟩⟩; refine ⟨_, rfl, ?_⟩))
  go_ret
  exact ⟨rfe, pkB HB.out⟩
 ·replace c3 := Bool.eq_false_iff.mpr c3
  subst c3
  replace H : ((spec_DrawChanged.f k l0).bind fun bt505 => ((impl_Changed.f k bt505.1 bt505.2.1 bt505.2.2.1 bt505.2.2.2.1 bt505.2.2.2.2.1 bt505.2.2.2.2.2.1 bt505.2.2.2.2.2.2).bind fun bt514 => ((spec_Changed.f k bt505.1 bt505.2.1 bt505.2.2.1 bt505.2.2.2.1 bt505.2.2.2.2.1 bt505.2.2.2.2.2.1 bt505.2.2.2.2.2.2).bind fun bt519 => (if (bt514.2.2.2 != bt519.2.2.2) = true then (laws_FnChanges.j0 k bt514.2.2.2 true bt505.1 bt505.2.1 bt505.2.2.1 bt505.2.2.2.1 bt505.2.2.2.2.1 bt505.2.2.2.2.2.1 bt505.2.2.2.2.2.2) else (if (!(bt514.1 == bt519.1) || (!(bt514.2.1 == bt519.2.1) || (!(bt514.2.2.1.toList == bt519.2.2.1.toList)))) = true then (laws_FnChanges.j0 k bt514.2.2.2 true bt505.1 bt505.2.1 bt505.2.2.1 bt505.2.2.2.1 bt505.2.2.2.2.1 bt505.2.2.2.2.2.1 bt505.2.2.2.2.2.2) else (if bt519.2.2.2 = true then ((impl_MsgOk.f k bt514.1 bt514.2.1 bt514.2.2.1).bind fun t524 => (laws_FnChanges.j0 k bt514.2.2.2 (!t524) bt505.1 bt505.2.1 bt505.2.2.1 bt505.2.2.2.1 bt505.2.2.2.2.1 bt505.2.2.2.2.2.1 bt505.2.2.2.2.2.2)) else (laws_FnChanges.j0 k bt514.2.2.2 false bt505.1 bt505.2.1 bt505.2.2.1 bt505.2.2.2.1 bt505.2.2.2.2.1 bt505.2.2.2.2.2.1 bt505.2.2.2.2.2.2))))))) = some r := by rw [if_neg (show ¬ (false = true) by decide)] at H; exact H
  replace H := Option.bind_eq_some_iff.mp H
  obtain ⟨⟨t505, t506, t507, t508, t509, t510, t511⟩, A40, H⟩ := H
  replace H : ((impl_Changed.f k t505 t506 t507 t508 t509 t510 t511).bind fun bt514 => ((spec_Changed.f k t505 t506 t507 t508 t509 t510 t511).bind fun bt519 => (if (bt514.2.2.2 != bt519.2.2.2) = true then (laws_FnChanges.j0 k bt514.2.2.2 true t505 t506 t507 t508 t509 t510 t511) else (if (!(bt514.1 == bt519.1) || (!(bt514.2.1 == bt519.2.1) || (!(bt514.2.2.1.toList == bt519.2.2.1.toList)))) = true then (laws_FnChanges.j0 k bt514.2.2.2 true t505 t506 t507 t508 t509 t510 t511) else (if bt519.2.2.2 = true then ((impl_MsgOk.f k bt514.1 bt514.2.1 bt514.2.2.1).bind fun t524 => (laws_FnChanges.j0 k bt514.2.2.2 (!t524) t505 t506 t507 t508 t509 t510 t511)) else (laws_FnChanges.j0 k bt514.2.2.2 false t505 t506 t507 t508 t509 t510 t511)))))) = some r := H
  have A4 := am A40
  clear A40
  replace H := Option.bind_eq_some_iff.mp H
  obtain ⟨⟨t514, t515, t516, t517⟩, A50, H⟩ := H
  replace H : ((spec_Changed.f k t505 t506 t507 t508 t509 t510 t511).bind fun bt519 => (if (t517 != bt519.2.2.2) = true then (laws_FnChanges.j0 k t517 true t505 t506 t507 t508 t509 t510 t511) else (if (!(t514 == bt519.1) || (!(t515 == bt519.2.1) || (!(t516.toList == bt519.2.2.1.toList)))) = true then (laws_FnChanges.j0 k t517 true t505 t506 t507 t508 t509 t510 t511) else (if bt519.2.2.2 = true then ((impl_MsgOk.f k t514 t515 t516).bind fun t524 => (laws_FnChanges.j0 k t517 (!t524) t505 t506 t507 t508 t509 t510 t511)) else (laws_FnChanges.j0 k t517 false t505 t506 t507 t508 t509 t510 t511))))) = some r := H
  have A5 := am A50
  clear A50
  replace H := Option.bind_eq_some_iff.mp H
  obtain ⟨⟨t519, t520, t521, t522⟩, A60, H⟩ := H
  replace H : (if (t517 != t522) = true then (laws_FnChanges.j0 k t517 true t505 t506 t507 t508 t509 t510 t511) else (if (!(t514 == t519) || (!(t515 == t520) || (!(t516.toList == t521.toList)))) = true then (laws_FnChanges.j0 k t517 true t505 t506 t507 t508 t509 t510 t511) else (if t522 = true then ((impl_MsgOk.f k t514 t515 t516).bind fun t524 => (laws_FnChanges.j0 k t517 (!t524) t505 t506 t507 t508 t509 t510 t511)) else (laws_FnChanges.j0 k t517 false t505 t506 t507 t508 t509 t510 t511)))) = some r := H
  have A6 := am A60
  clear A60
  have HC7 := am H
  clear H
  go_enter Try.func11, Try.ntmps11
  go_upto_region 6 with (first | ((with_reducible refine gate_callee (f := 23) rfl ?_); refine goesL_ (some 20) rfl rfl Try.func23 (by kernel_rfl) rfl #[.slice A0 l0.length c0] rfl mpx ?_; (with_reducible refine (laws_big.calls _ _ l0 false _ ?side1 ?side2 A2.out).mono ?_); (case side1 => exact pkC HR0.out); (case side2 => exact HC0.out); rintro e w' ⟨rfl, ⟨nd, rfl⟩⟩; refine ⟨_, rfl, ?_⟩) | ((with_reducible refine gate_callee (f := 31) rfl ?_); refine goesL_ (some 23) rfl rfl Try.func31 (by kernel_rfl) rfl #[.slice A0 l0.length c0] rfl mpx ?_; (with_reducible refine (spec_DrawChanged.calls k _ _ l0 t505 t506 t507 t508 t509 t510 t511 _ ?side1 ?side2 A4.out).mono ?_); (case side1 => exact pkC HR0.out); (case side2 => exact HC0.out); rintro e w8 ⟨rfl, hb⟩; refine ⟨_, rfl, ?_⟩; replace HB := am (below_step (pkB HB.out) hb); (try clear hb)) | ((with_reducible refine gate_dst (N := 3) rfl ?_); refine box_event ?hg (N := 3) ?hd (cs := #[.int .i64 0, .int .i64 0, .string (⟨#[]⟩ : ByteArray)]) (t := 27) ?hr ?_; (case hd => rfl); (case hg => rfl); (case hr => first | (go_simp; done) | (go_simp; rfl)); intro gb512 hg w9 hbox hb; have BK512 := am (hbox); have GW512 := am ((by rw [hg]; exact (below_size (pkB HB.out)) : w.heap.size ≤ gb512)); have GE512 := am ((by rw [hg]; exact (below_size (pkB HB.out)) : w.heap.size ≤ gb512)); replace HB := am (below_step (pkB HB.out) hb); clear hb hbox hg) | ((with_reducible refine gate_dst (N := 4) rfl ?_); refine box_event ?hg (N := 4) ?hd (cs := #[.int .i64 0, .int .i64 0, .int .i64 0, .string (⟨#[]⟩ : ByteArray)]) (t := 45) ?hr ?_; (case hd => rfl); (case hg => rfl); (case hr => first | (go_simp; done) | (go_simp; rfl)); intro gb513 hg w10 hbox hb; have BK513 := am (hbox); have GW513 := am ((by rw [hg]; exact (below_size (pkW HB.out)) : w.heap.size ≤ gb513)); have GE513 := am ((by rw [hg]; exact (below_size (pkW HB.out)) : w.heap.size ≤ gb513)); replace HB := am (below_step (pkW HB.out) hb); have NB512_513 := am ((by rw [hg]; exact Nat.ne_of_lt (blk_lt (g := gb512) (o := .cells #[.int .i64 0, .int .i64 0, .string (⟨#[]⟩ : ByteArray)] 27 (0, 0)) (pkK BK512.out)) : gb512 ≠ gb513)); have NB513_512 := am ((by rw [hg]; exact Nat.ne_of_gt (blk_lt (g := gb512) (o := .cells #[.int .i64 0, .int .i64 0, .string (⟨#[]⟩ : ByteArray)] 27 (0, 0)) (pkK BK512.out)) : gb513 ≠ gb512)); replace BK512 := am (blk_below (pkK BK512.out) hb); clear hb hbox hg; have hnb11 := NB512_513.out; have hnc11 := NB513_512.out; obtain ⟨hcz12_0, hcz12_1, hcz12_2, hfz12_0, hfz12_1, hfz12_2⟩ := bk3 BK512.out; obtain ⟨hcz13_0, hcz13_1, hcz13_2, hcz13_3, hfz13_0, hfz13_1, hfz13_2, hfz13_3⟩ := bk4 BK513.out) | ((with_reducible refine gate_callee (f := 28) rfl ?_); refine goesL_ (some 29) rfl rfl Try.func28 (by kernel_rfl) rfl #[.agg #[.int .i64 t505, .int .i64 t506, .string t507], .agg #[.int .i64 t508, .int .i64 t509, .int .i64 t510, .string t511]] rfl mpx ?_; (with_reducible refine (impl_Changed.calls k t505 t506 t507 t508 t509 t510 t511 t514 t515 t516 t517 _ A5.out).mono ?_); rintro e w14 ⟨rfl, hb⟩; refine ⟨_, rfl, ?_⟩; replace BK512 := am (blk_below (g := gb512) (o := .cells #[.int .i64 t505, .int .i64 t506, .string t507] 27 (0, 0)) (by (with_reducible repeat (first | refine blk_drewN ?_ _ | refine blk_drew ?_ | refine blk_alloc ?_ _)); refine blk_far ?_ NB512_513.out _; (with_reducible repeat (first | refine blk_drewN ?_ _ | refine blk_drew ?_ | refine blk_alloc ?_ _)); refine blk_far ?_ NB512_513.out _; (with_reducible repeat (first | refine blk_drewN ?_ _ | refine blk_drew ?_ | refine blk_alloc ?_ _)); refine blk_far ?_ NB512_513.out _; (with_reducible repeat (first | refine blk_drewN ?_ _ | refine blk_drew ?_ | refine blk_alloc ?_ _)); refine blk_far ?_ NB512_513.out _; (with_reducible repeat (first | refine blk_drewN ?_ _ | refine blk_drew ?_ | refine blk_alloc ?_ _)); refine blk_put (cs := #[.int .i64 t505, .int .i64 t506, .string (⟨#[]⟩ : ByteArray)]) ?_ 2 _ rfl; (with_reducible repeat (first | refine blk_drewN ?_ _ | refine blk_drew ?_ | refine blk_alloc ?_ _)); refine blk_put (cs := #[.int .i64 t505, .int .i64 0, .string (⟨#[]⟩ : ByteArray)]) ?_ 1 _ rfl; (with_reducible repeat (first | refine blk_drewN ?_ _ | refine blk_drew ?_ | refine blk_alloc ?_ _)); refine blk_put (cs := #[.int .i64 0, .int .i64 0, .string (⟨#[]⟩ : ByteArray)]) ?_ 0 _ rfl; exact pkK BK512.out) hb); replace BK513 := am (blk_below (g := gb513) (o := .cells #[.int .i64 t508, .int .i64 t509, .int .i64 t510, .string t511] 45 (0, 0)) (by (with_reducible repeat (first | refine blk_drewN ?_ _ | refine blk_drew ?_ | refine blk_alloc ?_ _)); refine blk_put (cs := #[.int .i64 t508, .int .i64 t509, .int .i64 t510, .string (⟨#[]⟩ : ByteArray)]) ?_ 3 _ rfl; (with_reducible repeat (first | refine blk_drewN ?_ _ | refine blk_drew ?_ | refine blk_alloc ?_ _)); refine blk_put (cs := #[.int .i64 t508, .int .i64 t509, .int .i64 0, .string (⟨#[]⟩ : ByteArray)]) ?_ 2 _ rfl; (with_reducible repeat (first | refine blk_drewN ?_ _ | refine blk_drew ?_ | refine blk_alloc ?_ _)); refine blk_put (cs := #[.int .i64 t508, .int .i64 0, .int .i64 0, .string (⟨#[]⟩ : ByteArray)]) ?_ 1 _ rfl; (with_reducible repeat (first | refine blk_drewN ?_ _ | refine blk_drew ?_ | refine blk_alloc ?_ _)); refine blk_put (cs := #[.int .i64 0, .int .i64 0, .int .i64 0, .string (⟨#[]⟩ : ByteArray)]) ?_ 0 _ rfl; (with_reducible repeat (first | refine blk_drewN ?_ _ | refine blk_drew ?_ | refine blk_alloc ?_ _)); refine blk_far ?_ NB513_512.out _; (with_reducible repeat (first | refine blk_drewN ?_ _ | refine blk_drew ?_ | refine blk_alloc ?_ _)); refine blk_far ?_ NB513_512.out _; (with_reducible repeat (first | refine blk_drewN ?_ _ | refine blk_drew ?_ | refine blk_alloc ?_ _)); refine blk_far ?_ NB513_512.out _; exact pkK BK513.out) hb); replace HB := am (below_step (pkW HB.out) hb); (try clear hb)) | ((with_reducible refine gate_dst (N := 5) rfl ?_); refine box_event ?hg (N := 5) ?hd (cs := #[.int .i64 0, .int .i64 0, .string (⟨#[]⟩ : ByteArray)]) (t := 27) ?hr ?_; (case hd => rfl); (case hg => rfl); (case hr => first | (go_simp; done) | (go_simp; rfl)); intro gb518 hg w15 hbox hb; have BK518 := am (hbox); have GW518 := am ((by rw [hg]; exact (below_size (pkW HB.out)) : w.heap.size ≤ gb518)); have GE518 := am ((by rw [hg]; exact (below_size (pkW HB.out)) : w.heap.size ≤ gb518)); replace HB := am (below_step (pkW HB.out) hb); have NB512_518 := am ((by rw [hg]; exact Nat.ne_of_lt (blk_lt (g := gb512) (o := .cells #[.int .i64 t505, .int .i64 t506, .string t507] 27 (0, 0)) (pkK BK512.out)) : gb512 ≠ gb518)); have NB518_512 := am ((by rw [hg]; exact Nat.ne_of_gt (blk_lt (g := gb512) (o := .cells #[.int .i64 t505, .int .i64 t506, .string t507] 27 (0, 0)) (pkK BK512.out)) : gb518 ≠ gb512)); replace BK512 := am (blk_below (pkK BK512.out) hb); have NB513_518 := am ((by rw [hg]; exact Nat.ne_of_lt (blk_lt (g := gb513) (o := .cells #[.int .i64 t508, .int .i64 t509, .int .i64 t510, .string t511] 45 (0, 0)) (pkK BK513.out)) : gb513 ≠ gb518)); have NB518_513 := am ((by rw [hg]; exact Nat.ne_of_gt (blk_lt (g := gb513) (o := .cells #[.int .i64 t508, .int .i64 t509, .int .i64 t510, .string t511] 45 (0, 0)) (pkK BK513.out)) : gb518 ≠ gb513)); replace BK513 := am (blk_below (pkK BK513.out) hb); clear hb hbox hg; have hnb16 := NB518_512.out; have hnc16 := NB512_518.out; have hnb17 := NB518_513.out; have hnc17 := NB513_518.out; obtain ⟨hcz18_0, hcz18_1, hcz18_2, hfz18_0, hfz18_1, hfz18_2⟩ := bk3 BK518.out; obtain ⟨hcz19_0, hcz19_1, hcz19_2, hfz19_0, hfz19_1, hfz19_2⟩ := bk3 BK512.out; obtain ⟨hcz20_0, hcz20_1, hcz20_2, hcz20_3, hfz20_0, hfz20_1, hfz20_2, hfz20_3⟩ := bk4 BK513.out) | ((with_reducible refine gate_callee (f := 26) rfl ?_); refine goesL_ (some 35) rfl rfl Try.func26 (by kernel_rfl) rfl #[.agg #[.int .i64 t505, .int .i64 t506, .string t507], .agg #[.int .i64 t508, .int .i64 t509, .int .i64 t510, .string t511]] rfl mpx ?_; (with_reducible refine (spec_Changed.calls k t505 t506 t507 t508 t509 t510 t511 t519 t520 t521 t522 _ A6.out).mono ?_); rintro e w21 ⟨rfl, hb⟩; refine ⟨_, rfl, ?_⟩; replace BK512 := am (blk_below (g := gb512) (o := .cells #[.int .i64 t505, .int .i64 t506, .string t507] 27 (0, 0)) (by (with_reducible repeat (first | refine blk_drewN ?_ _ | refine blk_drew ?_ | refine blk_alloc ?_ _)); refine blk_far ?_ NB512_518.out _; (with_reducible repeat (first | refine blk_drewN ?_ _ | refine blk_drew ?_ | refine blk_alloc ?_ _)); refine blk_far ?_ NB512_518.out _; (with_reducible repeat (first | refine blk_drewN ?_ _ | refine blk_drew ?_ | refine blk_alloc ?_ _)); refine blk_far ?_ NB512_518.out _; exact pkK BK512.out) hb); replace BK513 := am (blk_below (g := gb513) (o := .cells #[.int .i64 t508, .int .i64 t509, .int .i64 t510, .string t511] 45 (0, 0)) (by (with_reducible repeat (first | refine blk_drewN ?_ _ | refine blk_drew ?_ | refine blk_alloc ?_ _)); refine blk_far ?_ NB513_518.out _; (with_reducible repeat (first | refine blk_drewN ?_ _ | refine blk_drew ?_ | refine blk_alloc ?_ _)); refine blk_far ?_ NB513_518.out _; (with_reducible repeat (first | refine blk_drewN ?_ _ | refine blk_drew ?_ | refine blk_alloc ?_ _)); refine blk_far ?_ NB513_518.out _; exact pkK BK513.out) hb); replace BK518 := am (blk_below (g := gb518) (o := .cells #[.int .i64 t514, .int .i64 t515, .string t516] 27 (0, 0)) (by (with_reducible repeat (first | refine blk_drewN ?_ _ | refine blk_drew ?_ | refine blk_alloc ?_ _)); refine blk_put (cs := #[.int .i64 t514, .int .i64 t515, .string (⟨#[]⟩ : ByteArray)]) ?_ 2 _ rfl; (with_reducible repeat (first | refine blk_drewN ?_ _ | refine blk_drew ?_ | refine blk_alloc ?_ _)); refine blk_put (cs := #[.int .i64 t514, .int .i64 0, .string (⟨#[]⟩ : ByteArray)]) ?_ 1 _ rfl; (with_reducible repeat (first | refine blk_drewN ?_ _ | refine blk_drew ?_ | refine blk_alloc ?_ _)); refine blk_put (cs := #[.int .i64 0, .int .i64 0, .string (⟨#[]⟩ : ByteArray)]) ?_ 0 _ rfl; exact pkK BK518.out) hb); replace HB := am (below_step (pkW HB.out) hb); (try clear hb)) | ((with_reducible refine gate_dst (N := 7) rfl ?_); refine box_event ?hg (N := 7) ?hd (cs := #[.int .i64 0, .int .i64 0, .string (⟨#[]⟩ : ByteArray)]) (t := 27) ?hr ?_; (case hd => rfl); (case hg => rfl); (case hr => first | (go_simp; done) | (go_simp; rfl)); intro gb523 hg w22 hbox hb; have BK523 := am (hbox); have GW523 := am ((by rw [hg]; exact (below_size (pkW HB.out)) : w.heap.size ≤ gb523)); have GE523 := am ((by rw [hg]; exact (below_size (pkW HB.out)) : w.heap.size ≤ gb523)); replace HB := am (below_step (pkW HB.out) hb); have NB512_523 := am ((by rw [hg]; exact Nat.ne_of_lt (blk_lt (g := gb512) (o := .cells #[.int .i64 t505, .int .i64 t506, .string t507] 27 (0, 0)) (pkK BK512.out)) : gb512 ≠ gb523)); have NB523_512 := am ((by rw [hg]; exact Nat.ne_of_gt (blk_lt (g := gb512) (o := .cells #[.int .i64 t505, .int .i64 t506, .string t507] 27 (0, 0)) (pkK BK512.out)) : gb523 ≠ gb512)); replace BK512 := am (blk_below (pkK BK512.out) hb); have NB513_523 := am ((by rw [hg]; exact Nat.ne_of_lt (blk_lt (g := gb513) (o := .cells #[.int .i64 t508, .int .i64 t509, .int .i64 t510, .string t511] 45 (0, 0)) (pkK BK513.out)) : gb513 ≠ gb523)); have NB523_513 := am ((by rw [hg]; exact Nat.ne_of_gt (blk_lt (g := gb513) (o := .cells #[.int .i64 t508, .int .i64 t509, .int .i64 t510, .string t511] 45 (0, 0)) (pkK BK513.out)) : gb523 ≠ gb513)); replace BK513 := am (blk_below (pkK BK513.out) hb); have NB518_523 := am ((by rw [hg]; exact Nat.ne_of_lt (blk_lt (g := gb518) (o := .cells #[.int .i64 t514, .int .i64 t515, .string t516] 27 (0, 0)) (pkK BK518.out)) : gb518 ≠ gb523)); have NB523_518 := am ((by rw [hg]; exact Nat.ne_of_gt (blk_lt (g := gb518) (o := .cells #[.int .i64 t514, .int .i64 t515, .string t516] 27 (0, 0)) (pkK BK518.out)) : gb523 ≠ gb518)); replace BK518 := am (blk_below (pkK BK518.out) hb); clear hb hbox hg; have hnb23 := NB523_512.out; have hnc23 := NB512_523.out; have hnb24 := NB523_513.out; have hnc24 := NB513_523.out; have hnb25 := NB523_518.out; have hnc25 := NB518_523.out; obtain ⟨hcz26_0, hcz26_1, hcz26_2, hfz26_0, hfz26_1, hfz26_2⟩ := bk3 BK523.out))
  (try simp only [Act.put, List.setIfInBounds_toArray, List.set_cons_zero, List.set_cons_succ])
  go_cut [53] (fun v53 wc => ∃ (kq : Nat) (x53_6 : Bool), v53 = .bool x53_6 ∧ Aside0 (laws_FnChanges.j0 kq t517 x53_6 t505 t506 t507 t508 t509 t510 t511 = some r) ∧ Aside0 (kq ≤ k) ∧ Aside0 (wc.heap[gb512]? = some (.cells #[.int .i64 t505, .int .i64 t506, .string t507] 27 (0, 0))) ∧ Aside0 (wc.heap[gb513]? = some (.cells #[.int .i64 t508, .int .i64 t509, .int .i64 t510, .string t511] 45 (0, 0))) ∧ Aside0 (wc.heap[gb518]? = some (.cells #[.int .i64 t514, .int .i64 t515, .string t516] 27 (0, 0))) ∧ Aside0 (wc.heap[gb523]? = some (.cells #[.int .i64 t519, .int .i64 t520, .string t521] 27 (0, 0))) ∧ Aside0 (Below w.heap.size w wc))
  case first =>
   have H := HC7.out
   clear HC7
   by_cases c27 : (t517 != t522) = true
   ·rw [if_pos c27] at H
    have c27b0 : (t517 != t522) = true := c27
    (try (have c27b1 : decide (t517 = t522) = false := by simpa using c27))
    (try (have c27b2 : (t517 == t522) = false := by first | exact bq_t c27 | exact bq_f c27 | simpa using c27))
    (try (have c27b3 : ¬ (t517 = t522) := by simpa using c27))
    clear c27
    (first | rw [c27b0] | (simp only [i64_w, i32_w]; rw [c27b0]) | skip)
    cases k with
    | zero => exact absurd H (by simp [laws_FnChanges.j0])
    | succ k_ => (simp only [laws_FnChanges.j0, if_pos] at H; exact absurd (Option.some.inj H) (by rw [HQ_.out]; simp))
   ·rw [if_neg c27] at H
    have c27b0 : (t517 != t522) = false := by simpa using c27
    (try (have c27b1 : decide (t517 = t522) = true := by simpa using c27))
    (try (have c27b2 : (t517 == t522) = true := by first | exact bq_t c27 | exact bq_f c27 | simpa using c27))
    clear c27
    (first | rw [c27b0] | (simp only [i64_w, i32_w]; rw [c27b0]) | skip)
    by_cases c28 : (!(t514 == t519) || (!(t515 == t520) || (!(t516.toList == t521.toList)))) = true
    ·rw [if_pos c28] at H
     have c28b0 : (!(t514 == t519) || (!(t515 == t520) || (!(t516.toList == t521.toList)))) = true := c28
     clear c28
     cases k with
     | zero => exact absurd H (by simp [laws_FnChanges.j0])
     | succ k_ => (simp only [laws_FnChanges.j0, if_pos] at H; exact absurd (Option.some.inj H) (by rw [HQ_.out]; simp))
    ·rw [if_neg c28] at H
     have c28b0 : (!(t514 == t519) || (!(t515 == t520) || (!(t516.toList == t521.toList)))) = false := by simpa using c28
     clear c28
     by_cases c29 : t522 = true
     ·subst c29
      replace H : ((impl_MsgOk.f k t514 t515 t516).bind fun t524 => (laws_FnChanges.j0 k t517 (!t524) t505 t506 t507 t508 t509 t510 t511)) = some r := by rw [if_pos rfl] at H; exact H
      replace H := Option.bind_eq_some_iff.mp H
      obtain ⟨t524, A300, H⟩ := H
      replace H : (laws_FnChanges.j0 k t517 (!t524) t505 t506 t507 t508 t509 t510 t511) = some r := H
      have A30 := am A300
      clear A300
      have H' := am H
      clear H
      have hnb31 := NB518_512.out
      have hnc31 := NB512_518.out
      have hnb32 := NB518_513.out
      have hnc32 := NB513_518.out
      have hnb33 := NB518_523.out
      have hnc33 := NB523_518.out
      obtain ⟨hcz34_0, hcz34_1, hcz34_2, hfz34_0, hfz34_1, hfz34_2⟩ := bk3 BK518.out
      have hnb35 := NB523_512.out
      have hnc35 := NB512_523.out
      have hnb36 := NB523_513.out
      have hnc36 := NB513_523.out
      obtain ⟨hcz37_0, hcz37_1, hcz37_2, hfz37_0, hfz37_1, hfz37_2⟩ := bk3 BK523.out
      go_wp2_with (first | (go_at_call 15; (with_reducible refine (impl_MsgOk.calls k t514 t515 t516 t524 _ A30.out).mono ?_); rintro e w38 ⟨rfl, hb⟩; replace BK512 := am (blk_below (g := gb512) (o := .cells #[.int .i64 t505, .int .i64 t506, .string t507] 27 (0, 0)) (by (with_reducible repeat (first | refine blk_drewN ?_ _ | refine blk_drew ?_ | refine blk_alloc ?_ _)); refine blk_far ?_ NB512_523.out _; (with_reducible repeat (first | refine blk_drewN ?_ _ | refine blk_drew ?_ | refine blk_alloc ?_ _)); refine blk_far ?_ NB512_523.out _; (with_reducible repeat (first | refine blk_drewN ?_ _ | refine blk_drew ?_ | refine blk_alloc ?_ _)); refine blk_far ?_ NB512_523.out _; exact pkK BK512.out) hb); replace BK513 := am (blk_below (g := gb513) (o := .cells #[.int .i64 t508, .int .i64 t509, .int .i64 t510, .string t511] 45 (0, 0)) (by (with_reducible repeat (first | refine blk_drewN ?_ _ | refine blk_drew ?_ | refine blk_alloc ?_ _)); refine blk_far ?_ NB513_523.out _; (with_reducible repeat (first | refine blk_drewN ?_ _ | refine blk_drew ?_ | refine blk_alloc ?_ _)); refine blk_far ?_ NB513_523.out _; (with_reducible repeat (first | refine blk_drewN ?_ _ | refine blk_drew ?_ | refine blk_alloc ?_ _)); refine blk_far ?_ NB513_523.out _; exact pkK BK513.out) hb); replace BK518 := am (blk_below (g := gb518) (o := .cells #[.int .i64 t514, .int .i64 t515, .string t516] 27 (0, 0)) (by (with_reducible repeat (first | refine blk_drewN ?_ _ | refine blk_drew ?_ | refine blk_alloc ?_ _)); refine blk_far ?_ NB518_523.out _; (with_reducible repeat (first | refine blk_drewN ?_ _ | refine blk_drew ?_ | refine blk_alloc ?_ _)); refine blk_far ?_ NB518_523.out _; (with_reducible repeat (first | refine blk_drewN ?_ _ | refine blk_drew ?_ | refine blk_alloc ?_ _)); refine blk_far ?_ NB518_523.out _; exact pkK BK518.out) hb); replace BK523 := am (blk_below (g := gb523) (o := .cells #[.int .i64 t519, .int .i64 t520, .string t521] 27 (0, 0)) (by (with_reducible repeat (first | refine blk_drewN ?_ _ | refine blk_drew ?_ | refine blk_alloc ?_ _)); refine blk_put (cs := #[.int .i64 t519, .int .i64 t520, .string (⟨#[]⟩ : ByteArray)]) ?_ 2 _ rfl; (with_reducible repeat (first | refine blk_drewN ?_ _ | refine blk_drew ?_ | refine blk_alloc ?_ _)); refine blk_put (cs := #[.int .i64 t519, .int .i64 0, .string (⟨#[]⟩ : ByteArray)]) ?_ 1 _ rfl; (with_reducible repeat (first | refine blk_drewN ?_ _ | refine blk_drew ?_ | refine blk_alloc ?_ _)); refine blk_put (cs := #[.int .i64 0, .int .i64 0, .string (⟨#[]⟩ : ByteArray)]) ?_ 0 _ rfl; exact pkK BK523.out) hb); replace HB := am (below_step (pkW HB.out) hb); (try clear hb)))
      go_meet
      case rel => exact ⟨_, (!t524), rfx, H', ⟨by first | omega | exact Nat.le_refl _⟩, ⟨pkK BK512.out⟩, ⟨pkK BK513.out⟩, ⟨pkK BK518.out⟩, ⟨pkK BK523.out⟩, ⟨pkW HB.out⟩⟩
     ·replace c29 := Bool.eq_false_iff.mpr c29
      subst c29
      replace H : (laws_FnChanges.j0 k t517 false t505 t506 t507 t508 t509 t510 t511) = some r := by rw [if_neg (show ¬ (false = true) by decide)] at H; exact H
      have H' := am H
      clear H
      have hnb39 := NB518_512.out
      have hnc39 := NB512_518.out
      have hnb40 := NB518_513.out
      have hnc40 := NB513_518.out
      have hnb41 := NB518_523.out
      have hnc41 := NB523_518.out
      obtain ⟨hcz42_0, hcz42_1, hcz42_2, hfz42_0, hfz42_1, hfz42_2⟩ := bk3 BK518.out
      have hnb43 := NB523_512.out
      have hnc43 := NB512_523.out
      have hnb44 := NB523_513.out
      have hnc44 := NB513_523.out
      obtain ⟨hcz45_0, hcz45_1, hcz45_2, hfz45_0, hfz45_1, hfz45_2⟩ := bk3 BK523.out
      go_wp2
      go_meet
      case rel => exact ⟨_, (false), rfx, H', ⟨by first | omega | exact Nat.le_refl _⟩, ⟨by (with_reducible repeat (first | refine blk_drewN ?_ _ | refine blk_drew ?_ | refine blk_alloc ?_ _)); refine blk_far ?_ NB512_523.out _; (with_reducible repeat (first | refine blk_drewN ?_ _ | refine blk_drew ?_ | refine blk_alloc ?_ _)); refine blk_far ?_ NB512_523.out _; (with_reducible repeat (first | refine blk_drewN ?_ _ | refine blk_drew ?_ | refine blk_alloc ?_ _)); refine blk_far ?_ NB512_523.out _; exact pkK BK512.out⟩, ⟨by (with_reducible repeat (first | refine blk_drewN ?_ _ | refine blk_drew ?_ | refine blk_alloc ?_ _)); refine blk_far ?_ NB513_523.out _; (with_reducible repeat (first | refine blk_drewN ?_ _ | refine blk_drew ?_ | refine blk_alloc ?_ _)); refine blk_far ?_ NB513_523.out _; (with_reducible repeat (first | refine blk_drewN ?_ _ | refine blk_drew ?_ | refine blk_alloc ?_ _)); refine blk_far ?_ NB513_523.out _; exact pkK BK513.out⟩, ⟨by (with_reducible repeat (first | refine blk_drewN ?_ _ | refine blk_drew ?_ | refine blk_alloc ?_ _)); refine blk_far ?_ NB518_523.out _; (with_reducible repeat (first | refine blk_drewN ?_ _ | refine blk_drew ?_ | refine blk_alloc ?_ _)); refine blk_far ?_ NB518_523.out _; (with_reducible repeat (first | refine blk_drewN ?_ _ | refine blk_drew ?_ | refine blk_alloc ?_ _)); refine blk_far ?_ NB518_523.out _; exact pkK BK518.out⟩, ⟨by (with_reducible repeat (first | refine blk_drewN ?_ _ | refine blk_drew ?_ | refine blk_alloc ?_ _)); refine blk_put (cs := #[.int .i64 t519, .int .i64 t520, .string (⟨#[]⟩ : ByteArray)]) ?_ 2 _ rfl; (with_reducible repeat (first | refine blk_drewN ?_ _ | refine blk_drew ?_ | refine blk_alloc ?_ _)); refine blk_put (cs := #[.int .i64 t519, .int .i64 0, .string (⟨#[]⟩ : ByteArray)]) ?_ 1 _ rfl; (with_reducible repeat (first | refine blk_drewN ?_ _ | refine blk_drew ?_ | refine blk_alloc ?_ _)); refine blk_put (cs := #[.int .i64 0, .int .i64 0, .string (⟨#[]⟩ : ByteArray)]) ?_ 0 _ rfl; exact pkK BK523.out⟩, ⟨pkW HB.out⟩⟩
  case rest =>
   clear HC7
   try clear c1
   try clear c2
   try clear p2
   try clear c3
   try clear c4
   try clear c11
   try clear c16
   try clear c17
   try clear c23
   try clear c24
   try clear c25
   try clear c26
   try clear c27
   try clear c27b0
   try clear c27b1
   try clear c27b2
   try clear c28
   try clear c28b0
   try clear c29
   try clear c31
   try clear c32
   try clear c33
   try clear c35
   try clear c36
   try clear c39
   try clear c40
   try clear c41
   try clear c43
   try clear c44
   try clear hcz12_0
   try clear hcz12_1
   try clear hcz12_2
   try clear hcz13_0
   try clear hcz13_1
   try clear hcz13_2
   try clear hcz13_3
   try clear hcz18_0
   try clear hcz18_1
   try clear hcz18_2
   try clear hcz19_0
   try clear hcz19_1
   try clear hcz19_2
   try clear hcz20_0
   try clear hcz20_1
   try clear hcz20_2
   try clear hcz20_3
   try clear hcz26_0
   try clear hcz26_1
   try clear hcz26_2
   try clear hcz34_0
   try clear hcz34_1
   try clear hcz34_2
   try clear hcz37_0
   try clear hcz37_1
   try clear hcz37_2
   try clear hcz42_0
   try clear hcz42_1
   try clear hcz42_2
   try clear hcz45_0
   try clear hcz45_1
   try clear hcz45_2
   try clear hfz12_0
   try clear hfz12_1
   try clear hfz12_2
   try clear hfz13_0
   try clear hfz13_1
   try clear hfz13_2
   try clear hfz13_3
   try clear hfz18_0
   try clear hfz18_1
   try clear hfz18_2
   try clear hfz19_0
   try clear hfz19_1
   try clear hfz19_2
   try clear hfz20_0
   try clear hfz20_1
   try clear hfz20_2
   try clear hfz20_3
   try clear hfz26_0
   try clear hfz26_1
   try clear hfz26_2
   try clear hfz34_0
   try clear hfz34_1
   try clear hfz34_2
   try clear hfz37_0
   try clear hfz37_1
   try clear hfz37_2
   try clear hfz42_0
   try clear hfz42_1
   try clear hfz42_2
   try clear hfz45_0
   try clear hfz45_1
   try clear hfz45_2
   obtain ⟨kq, x53_6, rfl, HA, HJ6, BK512, BK513, BK518, BK523, HB⟩ := hcut
   cases kq with
   | zero => exact absurd HA.out (by simp [laws_FnChanges.j0])
   | succ kj6 =>
    have H := HA.out
    clear HA
    simp only [laws_FnChanges.j0] at H
    by_cases c46 : x53_6 = true
    ·subst c46
     replace H : (some false) = some r := by rw [if_pos rfl] at H; exact H
     exact absurd (Option.some.inj H) (by rw [HQ_.out]; simp)
    ·replace c46 := Bool.eq_false_iff.mpr c46
     subst c46
     replace H : ((spec_MsgOk.f kj6 t505 t506 t507).bind fun t525 => (if t525 = true then ((spec_MsgOk.f kj6 t509 t510 t511).bind fun t526 => (laws_FnChanges.j1 kj6 t517 (!t526) t505 t506 t507 t508 t509 t510 t511)) else (laws_FnChanges.j1 kj6 t517 true t505 t506 t507 t508 t509 t510 t511))) = some r := by rw [if_neg (show ¬ (false = true) by decide)] at H; exact H
     have HC47 := am H
     clear H
     go_upto_region 8 with (fail)
     go_cut [62] (fun v62 wc => ∃ (kq : Nat) (x62_46 : Bool), v62 = .bool x62_46 ∧ Aside0 (laws_FnChanges.j1 kq t517 x62_46 t505 t506 t507 t508 t509 t510 t511 = some r) ∧ Aside0 (kq ≤ kj6) ∧ Aside0 (wc.heap[gb512]? = some (.cells #[.int .i64 t505, .int .i64 t506, .string t507] 27 (0, 0))) ∧ Aside0 (wc.heap[gb513]? = some (.cells #[.int .i64 t508, .int .i64 t509, .int .i64 t510, .string t511] 45 (0, 0))) ∧ Aside0 (wc.heap[gb518]? = some (.cells #[.int .i64 t514, .int .i64 t515, .string t516] 27 (0, 0))) ∧ Aside0 (wc.heap[gb523]? = some (.cells #[.int .i64 t519, .int .i64 t520, .string t521] 27 (0, 0))) ∧ Aside0 (Below w.heap.size w wc))
     case first =>
      have H := HC47.out
      clear HC47
      replace H := Option.bind_eq_some_iff.mp H
      obtain ⟨t525, A480, H⟩ := H
      replace H : (if t525 = true then ((spec_MsgOk.f kj6 t509 t510 t511).bind fun t526 => (laws_FnChanges.j1 kj6 t517 (!t526) t505 t506 t507 t508 t509 t510 t511)) else (laws_FnChanges.j1 kj6 t517 true t505 t506 t507 t508 t509 t510 t511)) = some r := H
      have A48 := am A480
      clear A480
      by_cases c49 : t525 = true
      ·subst c49
       replace H : ((spec_MsgOk.f kj6 t509 t510 t511).bind fun t526 => (laws_FnChanges.j1 kj6 t517 (!t526) t505 t506 t507 t508 t509 t510 t511)) = some r := by rw [if_pos rfl] at H; exact H
       replace H := Option.bind_eq_some_iff.mp H
       obtain ⟨t526, A500, H⟩ := H
       replace H : (laws_FnChanges.j1 kj6 t517 (!t526) t505 t506 t507 t508 t509 t510 t511) = some r := H
       have A50 := am A500
       clear A500
       have H' := am H
       clear H
       have hnb51 := NB512_513.out
       have hnc51 := NB513_512.out
       have hnb52 := NB512_518.out
       have hnc52 := NB518_512.out
       have hnb53 := NB512_523.out
       have hnc53 := NB523_512.out
       obtain ⟨hcz54_0, hcz54_1, hcz54_2, hfz54_0, hfz54_1, hfz54_2⟩ := bk3 BK512.out
       go_wp2_with (first | ((with_reducible refine gate_callee (f := 13) rfl ?_); refine goesL_ (some 55) rfl rfl Try.func13 (by kernel_rfl) rfl #[.agg #[.int .i64 t505, .int .i64 t506, .string t507]] rfl mpx ?_; (with_reducible refine (spec_MsgOk.calls kj6 t505 t506 t507 true _ A48.out).mono ?_); rintro e w55 ⟨rfl, hb⟩; refine ⟨_, rfl, ?_⟩; replace BK512 := am (blk_below (pkK BK512.out) hb); replace BK513 := am (blk_below (pkK BK513.out) hb); replace BK518 := am (blk_below (pkK BK518.out) hb); replace BK523 := am (blk_below (pkK BK523.out) hb); replace HB := am (below_step (pkW HB.out) hb); (try clear hb); have hnb56 := NB513_518.out; have hnc56 := NB518_513.out; have hnb57 := NB513_523.out; have hnc57 := NB523_513.out; obtain ⟨hcz58_0, hcz58_1, hcz58_2, hcz58_3, hfz58_0, hfz58_1, hfz58_2, hfz58_3⟩ := bk4 BK513.out) | (go_at_call 13; (with_reducible refine (spec_MsgOk.calls kj6 t509 t510 t511 t526 _ A50.out).mono ?_); rintro e w59 ⟨rfl, hb⟩; replace BK512 := am (blk_below (pkK BK512.out) hb); replace BK513 := am (blk_below (pkK BK513.out) hb); replace BK518 := am (blk_below (pkK BK518.out) hb); replace BK523 := am (blk_below (pkK BK523.out) hb); replace HB := am (below_step (pkW HB.out) hb); (try clear hb)))
       go_meet
       case rel => exact ⟨_, (!t526), rfx, H', ⟨by have := HJ6.out; first | omega | exact Nat.le_refl _⟩, ⟨pkK BK512.out⟩, ⟨pkK BK513.out⟩, ⟨pkK BK518.out⟩, ⟨pkK BK523.out⟩, ⟨pkW HB.out⟩⟩
      ·replace c49 := Bool.eq_false_iff.mpr c49
       subst c49
       replace H : (laws_FnChanges.j1 kj6 t517 true t505 t506 t507 t508 t509 t510 t511) = some r := by rw [if_neg (show ¬ (false = true) by decide)] at H; exact H
       have H' := am H
       clear H
       have hnb60 := NB512_513.out
       have hnc60 := NB513_512.out
       have hnb61 := NB512_518.out
       have hnc61 := NB518_512.out
       have hnb62 := NB512_523.out
       have hnc62 := NB523_512.out
       obtain ⟨hcz63_0, hcz63_1, hcz63_2, hfz63_0, hfz63_1, hfz63_2⟩ := bk3 BK512.out
       go_wp2_with (first | ((with_reducible refine gate_callee (f := 13) rfl ?_); refine goesL_ (some 55) rfl rfl Try.func13 (by kernel_rfl) rfl #[.agg #[.int .i64 t505, .int .i64 t506, .string t507]] rfl mpx ?_; (with_reducible refine (spec_MsgOk.calls kj6 t505 t506 t507 false _ A48.out).mono ?_); rintro e w64 ⟨rfl, hb⟩; refine ⟨_, rfl, ?_⟩; replace BK512 := am (blk_below (pkK BK512.out) hb); replace BK513 := am (blk_below (pkK BK513.out) hb); replace BK518 := am (blk_below (pkK BK518.out) hb); replace BK523 := am (blk_below (pkK BK523.out) hb); replace HB := am (below_step (pkW HB.out) hb); (try clear hb)))
       go_meet
       case rel => exact ⟨_, (true), rfx, H', ⟨by have := HJ6.out; first | omega | exact Nat.le_refl _⟩, ⟨pkK BK512.out⟩, ⟨pkK BK513.out⟩, ⟨pkK BK518.out⟩, ⟨pkK BK523.out⟩, ⟨pkW HB.out⟩⟩
     case rest =>
      clear HC47
      try clear c1
      try clear c2
      try clear p2
      try clear c3
      try clear c4
      try clear c5
      try clear c6
      try clear c11
      try clear c13
      try clear c16
      try clear c17
      try clear c23
      try clear c24
      try clear c25
      try clear c26
      try clear c27
      try clear c27b0
      try clear c27b1
      try clear c27b2
      try clear c28
      try clear c28b0
      try clear c29
      try clear c31
      try clear c32
      try clear c33
      try clear c35
      try clear c36
      try clear c39
      try clear c40
      try clear c41
      try clear c43
      try clear c44
      try clear c46
      try clear c49
      try clear c51
      try clear c52
      try clear c53
      try clear c56
      try clear c57
      try clear c60
      try clear c61
      try clear c62
      try clear hcz12_0
      try clear hcz12_1
      try clear hcz12_2
      try clear hcz13_0
      try clear hcz13_1
      try clear hcz13_2
      try clear hcz13_3
      try clear hcz18_0
      try clear hcz18_1
      try clear hcz18_2
      try clear hcz19_0
      try clear hcz19_1
      try clear hcz19_2
      try clear hcz20_0
      try clear hcz20_1
      try clear hcz20_2
      try clear hcz20_3
      try clear hcz26_0
      try clear hcz26_1
      try clear hcz26_2
      try clear hcz34_0
      try clear hcz34_1
      try clear hcz34_2
      try clear hcz37_0
      try clear hcz37_1
      try clear hcz37_2
      try clear hcz42_0
      try clear hcz42_1
      try clear hcz42_2
      try clear hcz45_0
      try clear hcz45_1
      try clear hcz45_2
      try clear hcz54_0
      try clear hcz54_1
      try clear hcz54_2
      try clear hcz58_0
      try clear hcz58_1
      try clear hcz58_2
      try clear hcz58_3
      try clear hcz63_0
      try clear hcz63_1
      try clear hcz63_2
      try clear hfz12_0
      try clear hfz12_1
      try clear hfz12_2
      try clear hfz13_0
      try clear hfz13_1
      try clear hfz13_2
      try clear hfz13_3
      try clear hfz18_0
      try clear hfz18_1
      try clear hfz18_2
      try clear hfz19_0
      try clear hfz19_1
      try clear hfz19_2
      try clear hfz20_0
      try clear hfz20_1
      try clear hfz20_2
      try clear hfz20_3
      try clear hfz26_0
      try clear hfz26_1
      try clear hfz26_2
      try clear hfz34_0
      try clear hfz34_1
      try clear hfz34_2
      try clear hfz37_0
      try clear hfz37_1
      try clear hfz37_2
      try clear hfz42_0
      try clear hfz42_1
      try clear hfz42_2
      try clear hfz45_0
      try clear hfz45_1
      try clear hfz45_2
      try clear hfz54_0
      try clear hfz54_1
      try clear hfz54_2
      try clear hfz58_0
      try clear hfz58_1
      try clear hfz58_2
      try clear hfz58_3
      try clear hfz63_0
      try clear hfz63_1
      try clear hfz63_2
      try clear p2
      obtain ⟨kq, x62_46, rfl, HA, HJ46, BK512, BK513, BK518, BK523, HB⟩ := hcut
      cases kq with
      | zero => exact absurd HA.out (by simp [laws_FnChanges.j1])
      | succ kj46 =>
       have H := HA.out
       clear HA
       simp only [laws_FnChanges.j1] at H
       by_cases c65 : x62_46 = true
       ·subst c65
        replace H : (some (!t517)) = some r := by rw [if_pos rfl] at H; exact H
        obtain rfl := Option.some.inj H
        go_wp2
        go_ret
        exact ⟨rfe, pkW HB.out⟩
       ·replace c65 := Bool.eq_false_iff.mpr c65
        subst c65
        replace H : ((impl_Changed.f kj46 t505 t506 t507 4 t509 t510 t511).bind fun bt527 => ((impl_Changed.f kj46 t509 t510 t511 4 t505 t506 t507).bind fun bt532 => ((impl_Changed.f kj46 t505 t506 t507 2 t509 t510 t511).bind fun bt537 => ((impl_Changed.f kj46 t509 t510 t511 2 t505 t506 t507).bind fun bt542 => ((impl_Changed.f kj46 t505 t506 t507 1 t509 t510 t511).bind fun bt547 => (if bt527.2.2.2 = true then (if bt532.2.2.2 = true then (if (bt527.1 == bt532.1 && (bt527.2.1 == bt532.2.1 && (bt527.2.2.1.toList == bt532.2.2.1.toList))) = true then ((spec_MsgLess.f kj46 bt527.1 bt527.2.1 bt527.2.2.1 t505 t506 t507).bind fun t552 => (if t552 = true then (some false) else (if (bt537.2.2.2 == bt542.2.2.2) = true then (if (bt537.1 == bt542.1 && (bt537.2.1 == bt542.2.1 && (bt537.2.2.1.toList == bt542.2.2.1.toList))) = true then (if bt547.2.2.2 = true then (some (bt547.1 == t509 && (bt547.2.1 == t510 && (bt547.2.2.1.toList == t511.toList)))) else (some false)) else (some false)) else (some false)))) else (some false)) else (some false)) else (some false))))))) = some r := by rw [if_neg (show ¬ (false = true) by decide)] at H; exact H
        replace H := Option.bind_eq_some_iff.mp H
        obtain ⟨⟨t527, t528, t529, t530⟩, A660, H⟩ := H
        replace H : ((impl_Changed.f kj46 t509 t510 t511 4 t505 t506 t507).bind fun bt532 => ((impl_Changed.f kj46 t505 t506 t507 2 t509 t510 t511).bind fun bt537 => ((impl_Changed.f kj46 t509 t510 t511 2 t505 t506 t507).bind fun bt542 => ((impl_Changed.f kj46 t505 t506 t507 1 t509 t510 t511).bind fun bt547 => (if t530 = true then (if bt532.2.2.2 = true then (if (t527 == bt532.1 && (t528 == bt532.2.1 && (t529.toList == bt532.2.2.1.toList))) = true then ((spec_MsgLess.f kj46 t527 t528 t529 t505 t506 t507).bind fun t552 => (if t552 = true then (some false) else (if (bt537.2.2.2 == bt542.2.2.2) = true then (if (bt537.1 == bt542.1 && (bt537.2.1 == bt542.2.1 && (bt537.2.2.1.toList == bt542.2.2.1.toList))) = true then (if bt547.2.2.2 = true then (some (bt547.1 == t509 && (bt547.2.1 == t510 && (bt547.2.2.1.toList == t511.toList)))) else (some false)) else (some false)) else (some false)))) else (some false)) else (some false)) else (some false)))))) = some r := H
        have A66 := am A660
        clear A660
        replace H := Option.bind_eq_some_iff.mp H
        obtain ⟨⟨t532, t533, t534, t535⟩, A670, H⟩ := H
        replace H : ((impl_Changed.f kj46 t505 t506 t507 2 t509 t510 t511).bind fun bt537 => ((impl_Changed.f kj46 t509 t510 t511 2 t505 t506 t507).bind fun bt542 => ((impl_Changed.f kj46 t505 t506 t507 1 t509 t510 t511).bind fun bt547 => (if t530 = true then (if t535 = true then (if (t527 == t532 && (t528 == t533 && (t529.toList == t534.toList))) = true then ((spec_MsgLess.f kj46 t527 t528 t529 t505 t506 t507).bind fun t552 => (if t552 = true then (some false) else (if (bt537.2.2.2 == bt542.2.2.2) = true then (if (bt537.1 == bt542.1 && (bt537.2.1 == bt542.2.1 && (bt537.2.2.1.toList == bt542.2.2.1.toList))) = true then (if bt547.2.2.2 = true then (some (bt547.1 == t509 && (bt547.2.1 == t510 && (bt547.2.2.1.toList == t511.toList)))) else (some false)) else (some false)) else (some false)))) else (some false)) else (some false)) else (some false))))) = some r := H
        have A67 := am A670
        clear A670
        replace H := Option.bind_eq_some_iff.mp H
        obtain ⟨⟨t537, t538, t539, t540⟩, A680, H⟩ := H
        replace H : ((impl_Changed.f kj46 t509 t510 t511 2 t505 t506 t507).bind fun bt542 => ((impl_Changed.f kj46 t505 t506 t507 1 t509 t510 t511).bind fun bt547 => (if t530 = true then (if t535 = true then (if (t527 == t532 && (t528 == t533 && (t529.toList == t534.toList))) = true then ((spec_MsgLess.f kj46 t527 t528 t529 t505 t506 t507).bind fun t552 => (if t552 = true then (some false) else (if (t540 == bt542.2.2.2) = true then (if (t537 == bt542.1 && (t538 == bt542.2.1 && (t539.toList == bt542.2.2.1.toList))) = true then (if bt547.2.2.2 = true then (some (bt547.1 == t509 && (bt547.2.1 == t510 && (bt547.2.2.1.toList == t511.toList)))) else (some false)) else (some false)) else (some false)))) else (some false)) else (some false)) else (some false)))) = some r := H
        have A68 := am A680
        clear A680
        replace H := Option.bind_eq_some_iff.mp H
        obtain ⟨⟨t542, t543, t544, t545⟩, A690, H⟩ := H
        replace H : ((impl_Changed.f kj46 t505 t506 t507 1 t509 t510 t511).bind fun bt547 => (if t530 = true then (if t535 = true then (if (t527 == t532 && (t528 == t533 && (t529.toList == t534.toList))) = true then ((spec_MsgLess.f kj46 t527 t528 t529 t505 t506 t507).bind fun t552 => (if t552 = true then (some false) else (if (t540 == t545) = true then (if (t537 == t542 && (t538 == t543 && (t539.toList == t544.toList))) = true then (if bt547.2.2.2 = true then (some (bt547.1 == t509 && (bt547.2.1 == t510 && (bt547.2.2.1.toList == t511.toList)))) else (some false)) else (some false)) else (some false)))) else (some false)) else (some false)) else (some false))) = some r := H
        have A69 := am A690
        clear A690
        replace H := Option.bind_eq_some_iff.mp H
        obtain ⟨⟨t547, t548, t549, t550⟩, A700, H⟩ := H
        replace H : (if t530 = true then (if t535 = true then (if (t527 == t532 && (t528 == t533 && (t529.toList == t534.toList))) = true then ((spec_MsgLess.f kj46 t527 t528 t529 t505 t506 t507).bind fun t552 => (if t552 = true then (some false) else (if (t540 == t545) = true then (if (t537 == t542 && (t538 == t543 && (t539.toList == t544.toList))) = true then (if t550 = true then (some (t547 == t509 && (t548 == t510 && (t549.toList == t511.toList)))) else (some false)) else (some false)) else (some false)))) else (some false)) else (some false)) else (some false)) = some r := H
        have A70 := am A700
        clear A700
        by_cases c71 : t530 = true
        ·subst c71
         replace H : (if t535 = true then (if (t527 == t532 && (t528 == t533 && (t529.toList == t534.toList))) = true then ((spec_MsgLess.f kj46 t527 t528 t529 t505 t506 t507).bind fun t552 => (if t552 = true then (some false) else (if (t540 == t545) = true then (if (t537 == t542 && (t538 == t543 && (t539.toList == t544.toList))) = true then (if t550 = true then (some (t547 == t509 && (t548 == t510 && (t549.toList == t511.toList)))) else (some false)) else (some false)) else (some false)))) else (some false)) else (some false)) = some r := by rw [if_pos rfl] at H; exact H
         by_cases c72 : t535 = true
         ·subst c72
          replace H : (if (t527 == t532 && (t528 == t533 && (t529.toList == t534.toList))) = true then ((spec_MsgLess.f kj46 t527 t528 t529 t505 t506 t507).bind fun t552 => (if t552 = true then (some false) else (if (t540 == t545) = true then (if (t537 == t542 && (t538 == t543 && (t539.toList == t544.toList))) = true then (if t550 = true then (some (t547 == t509 && (t548 == t510 && (t549.toList == t511.toList)))) else (some false)) else (some false)) else (some false)))) else (some false)) = some r := by rw [if_pos rfl] at H; exact H
          by_cases c73 : (t527 == t532 && (t528 == t533 && (t529.toList == t534.toList))) = true
          ·rw [if_pos c73] at H
           have c73b0 : (t527 == t532 && (t528 == t533 && (t529.toList == t534.toList))) = true := c73
           (try (have c73b1 : decide (t527 = t532 && (t528 == t533 && (t529.toList == t534.toList))) = true := by simpa using c73))
           (try (have c73b2 : (t527 == t532 && (t528 == t533 && (t529.toList == t534.toList))) = true := by first | exact bq_t c73 | exact bq_f c73 | simpa using c73))
           clear c73
           replace H := Option.bind_eq_some_iff.mp H
           obtain ⟨t552, A740, H⟩ := H
           replace H : (if t552 = true then (some false) else (if (t540 == t545) = true then (if (t537 == t542 && (t538 == t543 && (t539.toList == t544.toList))) = true then (if t550 = true then (some (t547 == t509 && (t548 == t510 && (t549.toList == t511.toList)))) else (some false)) else (some false)) else (some false))) = some r := H
           have A74 := am A740
           clear A740
           by_cases c75 : t552 = true
           ·subst c75
            replace H : (some false) = some r := by rw [if_pos rfl] at H; exact H
            exact absurd (Option.some.inj H) (by rw [HQ_.out]; simp)
           ·replace c75 := Bool.eq_false_iff.mpr c75
            subst c75
            replace H : (if (t540 == t545) = true then (if (t537 == t542 && (t538 == t543 && (t539.toList == t544.toList))) = true then (if t550 = true then (some (t547 == t509 && (t548 == t510 && (t549.toList == t511.toList)))) else (some false)) else (some false)) else (some false)) = some r := by rw [if_neg (show ¬ (false = true) by decide)] at H; exact H
            by_cases c76 : (t540 == t545) = true
            ·rw [if_pos c76] at H
             have c76b0 : (t540 == t545) = true := c76
             (try (have c76b1 : decide (t540 = t545) = true := by simpa using c76))
             (try (have c76b2 : (t540 == t545) = true := by first | exact bq_t c76 | exact bq_f c76 | simpa using c76))
             clear c76
             by_cases c77 : (t537 == t542 && (t538 == t543 && (t539.toList == t544.toList))) = true
             ·rw [if_pos c77] at H
              have c77b0 : (t537 == t542 && (t538 == t543 && (t539.toList == t544.toList))) = true := c77
              (try (have c77b1 : decide (t537 = t542 && (t538 == t543 && (t539.toList == t544.toList))) = true := by simpa using c77))
              (try (have c77b2 : (t537 == t542 && (t538 == t543 && (t539.toList == t544.toList))) = true := by first | exact bq_t c77 | exact bq_f c77 | simpa using c77))
              clear c77
              by_cases c78 : t550 = true
              ·subst c78
               replace H : (some (t547 == t509 && (t548 == t510 && (t549.toList == t511.toList)))) = some r := by rw [if_pos rfl] at H; exact H
               obtain rfl := Option.some.inj H
               have hnb79 := NB512_513.out
               have hnc79 := NB513_512.out
               have hnb80 := NB512_518.out
               have hnc80 := NB518_512.out
               have hnb81 := NB512_523.out
               have hnc81 := NB523_512.out
               obtain ⟨hcz82_0, hcz82_1, hcz82_2, hfz82_0, hfz82_1, hfz82_2⟩ := bk3 BK512.out
               have hnb83 := NB513_518.out
               have hnc83 := NB518_513.out
               have hnb84 := NB513_523.out
               have hnc84 := NB523_513.out
               obtain ⟨hcz85_0, hcz85_1, hcz85_2, hcz85_3, hfz85_0, hfz85_1, hfz85_2, hfz85_3⟩ := bk4 BK513.out
               go_wp2_with (first | ((with_reducible refine gate_callee (f := 28) rfl ?_); refine goesL_ (some 70) rfl rfl Try.func28 (by kernel_rfl) rfl #[.agg #[.int .i64 t505, .int .i64 t506, .string t507], .agg #[.int .i64 4, .int .i64 t509, .int .i64 t510, .string t511]] rfl mpx ?_; (with_reducible refine (impl_Changed.calls kj46 t505 t506 t507 4 t509 t510 t511 t527 t528 t529 true _ A66.out).mono ?_); rintro e w86 ⟨rfl, hb⟩; refine ⟨_, rfl, ?_⟩; replace BK512 := am (blk_below (pkK BK512.out) hb); replace BK513 := am (blk_below (pkK BK513.out) hb); replace BK518 := am (blk_below (pkK BK518.out) hb); replace BK523 := am (blk_below (pkK BK523.out) hb); replace HB := am (below_step (pkW HB.out) hb); (try clear hb)) | ((with_reducible refine gate_dst (N := 9) rfl ?_); refine box_event ?hg (N := 9) ?hd (cs := #[.int .i64 0, .int .i64 0, .string (⟨#[]⟩ : ByteArray)]) (t := 27) ?hr ?_; (case hd => rfl); (case hg => rfl); (case hr => first | (go_simp; done) | (go_simp; rfl)); intro gb531 hg w87 hbox hb; have BK531 := am (hbox); have GW531 := am ((by rw [hg]; exact (below_size (pkW HB.out)) : w.heap.size ≤ gb531)); have GE531 := am ((by rw [hg]; exact (below_size (pkW HB.out)) : w.heap.size ≤ gb531)); replace HB := am (below_step (pkW HB.out) hb); have NB512_531 := am ((by rw [hg]; exact Nat.ne_of_lt (blk_lt (g := gb512) (o := .cells #[.int .i64 t505, .int .i64 t506, .string t507] 27 (0, 0)) (pkK BK512.out)) : gb512 ≠ gb531)); have NB531_512 := am ((by rw [hg]; exact Nat.ne_of_gt (blk_lt (g := gb512) (o := .cells #[.int .i64 t505, .int .i64 t506, .string t507] 27 (0, 0)) (pkK BK512.out)) : gb531 ≠ gb512)); replace BK512 := am (blk_below (pkK BK512.out) hb); have NB513_531 := am ((by rw [hg]; exact Nat.ne_of_lt (blk_lt (g := gb513) (o := .cells #[.int .i64 t508, .int .i64 t509, .int .i64 t510, .string t511] 45 (0, 0)) (pkK BK513.out)) : gb513 ≠ gb531)); have NB531_513 := am ((by rw [hg]; exact Nat.ne_of_gt (blk_lt (g := gb513) (o := .cells #[.int .i64 t508, .int .i64 t509, .int .i64 t510, .string t511] 45 (0, 0)) (pkK BK513.out)) : gb531 ≠ gb513)); replace BK513 := am (blk_below (pkK BK513.out) hb); have NB518_531 := am ((by rw [hg]; exact Nat.ne_of_lt (blk_lt (g := gb518) (o := .cells #[.int .i64 t514, .int .i64 t515, .string t516] 27 (0, 0)) (pkK BK518.out)) : gb518 ≠ gb531)); have NB531_518 := am ((by rw [hg]; exact Nat.ne_of_gt (blk_lt (g := gb518) (o := .cells #[.int .i64 t514, .int .i64 t515, .string t516] 27 (0, 0)) (pkK BK518.out)) : gb531 ≠ gb518)); replace BK518 := am (blk_below (pkK BK518.out) hb); have NB523_531 := am ((by rw [hg]; exact Nat.ne_of_lt (blk_lt (g := gb523) (o := .cells #[.int .i64 t519, .int .i64 t520, .string t521] 27 (0, 0)) (pkK BK523.out)) : gb523 ≠ gb531)); have NB531_523 := am ((by rw [hg]; exact Nat.ne_of_gt (blk_lt (g := gb523) (o := .cells #[.int .i64 t519, .int .i64 t520, .string t521] 27 (0, 0)) (pkK BK523.out)) : gb531 ≠ gb523)); replace BK523 := am (blk_below (pkK BK523.out) hb); clear hb hbox hg; have hnb88 := NB531_512.out; have hnc88 := NB512_531.out; have hnb89 := NB531_513.out; have hnc89 := NB513_531.out; have hnb90 := NB531_518.out; have hnc90 := NB518_531.out; have hnb91 := NB531_523.out; have hnc91 := NB523_531.out; obtain ⟨hcz92_0, hcz92_1, hcz92_2, hfz92_0, hfz92_1, hfz92_2⟩ := bk3 BK531.out; obtain ⟨hcz93_0, hcz93_1, hcz93_2, hcz93_3, hfz93_0, hfz93_1, hfz93_2, hfz93_3⟩ := bk4 BK513.out; obtain ⟨hcz94_0, hcz94_1, hcz94_2, hfz94_0, hfz94_1, hfz94_2⟩ := bk3 BK512.out) | ((with_reducible refine gate_callee (f := 28) rfl ?_); refine goesL_ (some 78) rfl rfl Try.func28 (by kernel_rfl) rfl #[.agg #[.int .i64 t509, .int .i64 t510, .string t511], .agg #[.int .i64 4, .int .i64 t505, .int .i64 t506, .string t507]] rfl mpx ?_; (with_reducible refine (impl_Changed.calls kj46 t509 t510 t511 4 t505 t506 t507 t532 t533 t534 true _ A67.out).mono ?_); rintro e w95 ⟨rfl, hb⟩; refine ⟨_, rfl, ?_⟩; replace BK512 := am (blk_below (g := gb512) (o := .cells #[.int .i64 t505, .int .i64 t506, .string t507] 27 (0, 0)) (by (with_reducible repeat (first | refine blk_drewN ?_ _ | refine blk_drew ?_ | refine blk_alloc ?_ _)); refine blk_far ?_ NB512_531.out _; (with_reducible repeat (first | refine blk_drewN ?_ _ | refine blk_drew ?_ | refine blk_alloc ?_ _)); refine blk_far ?_ NB512_531.out _; (with_reducible repeat (first | refine blk_drewN ?_ _ | refine blk_drew ?_ | refine blk_alloc ?_ _)); refine blk_far ?_ NB512_531.out _; exact pkK BK512.out) hb); replace BK513 := am (blk_below (g := gb513) (o := .cells #[.int .i64 t508, .int .i64 t509, .int .i64 t510, .string t511] 45 (0, 0)) (by (with_reducible repeat (first | refine blk_drewN ?_ _ | refine blk_drew ?_ | refine blk_alloc ?_ _)); refine blk_far ?_ NB513_531.out _; (with_reducible repeat (first | refine blk_drewN ?_ _ | refine blk_drew ?_ | refine blk_alloc ?_ _)); refine blk_far ?_ NB513_531.out _; (with_reducible repeat (first | refine blk_drewN ?_ _ | refine blk_drew ?_ | refine blk_alloc ?_ _)); refine blk_far ?_ NB513_531.out _; exact pkK BK513.out) hb); replace BK518 := am (blk_below (g := gb518) (o := .cells #[.int .i64 t514, .int .i64 t515, .string t516] 27 (0, 0)) (by (with_reducible repeat (first | refine blk_drewN ?_ _ | refine blk_drew ?_ | refine blk_alloc ?_ _)); refine blk_far ?_ NB518_531.out _; (with_reducible repeat (first | refine blk_drewN ?_ _ | refine blk_drew ?_ | refine blk_alloc ?_ _)); refine blk_far ?_ NB518_531.out _; (with_reducible repeat (first | refine blk_drewN ?_ _ | refine blk_drew ?_ | refine blk_alloc ?_ _)); refine blk_far ?_ NB518_531.out _; exact pkK BK518.out) hb); replace BK523 := am (blk_below (g := gb523) (o := .cells #[.int .i64 t519, .int .i64 t520, .string t521] 27 (0, 0)) (by (with_reducible repeat (first | refine blk_drewN ?_ _ | refine blk_drew ?_ | refine blk_alloc ?_ _)); refine blk_far ?_ NB523_531.out _; (with_reducible repeat (first | refine blk_drewN ?_ _ | refine blk_drew ?_ | refine blk_alloc ?_ _)); refine blk_far ?_ NB523_531.out _; (with_reducible repeat (first | refine blk_drewN ?_ _ | refine blk_drew ?_ | refine blk_alloc ?_ _)); refine blk_far ?_ NB523_531.out _; exact pkK BK523.out) hb); replace BK531 := am (blk_below (g := gb531) (o := .cells #[.int .i64 t527, .int .i64 t528, .string t529] 27 (0, 0)) (by (with_reducible repeat (first | refine blk_drewN ?_ _ | refine blk_drew ?_ | refine blk_alloc ?_ _)); refine blk_put (cs := #[.int .i64 t527, .int .i64 t528, .string (⟨#[]⟩ : ByteArray)]) ?_ 2 _ rfl; (with_reducible repeat (first | refine blk_drewN ?_ _ | refine blk_drew ?_ | refine blk_alloc ?_ _)); refine blk_put (cs := #[.int .i64 t527, .int .i64 0, .string (⟨#[]⟩ : ByteArray)]) ?_ 1 _ rfl; (with_reducible repeat (first | refine blk_drewN ?_ _ | refine blk_drew ?_ | refine blk_alloc ?_ _)); refine blk_put (cs := #[.int .i64 0, .int .i64 0, .string (⟨#[]⟩ : ByteArray)]) ?_ 0 _ rfl; exact pkK BK531.out) hb); replace HB := am (below_step (pkW HB.out) hb); (try clear hb)) | ((with_reducible refine gate_dst (N := 11) rfl ?_); refine box_event ?hg (N := 11) ?hd (cs := #[.int .i64 0, .int .i64 0, .string (⟨#[]⟩ : ByteArray)]) (t := 27) ?hr ?_; (case hd => rfl); (case hg => rfl); (case hr => first | (go_simp; done) | (go_simp; rfl)); intro gb536 hg w96 hbox hb; have BK536 := am (hbox); have GW536 := am ((by rw [hg]; exact (below_size (pkW HB.out)) : w.heap.size ≤ gb536)); have GE536 := am ((by rw [hg]; exact (below_size (pkW HB.out)) : w.heap.size ≤ gb536)); replace HB := am (below_step (pkW HB.out) hb); have NB512_536 := am ((by rw [hg]; exact Nat.ne_of_lt (blk_lt (g := gb512) (o := .cells #[.int .i64 t505, .int .i64 t506, .string t507] 27 (0, 0)) (pkK BK512.out)) : gb512 ≠ gb536)); have NB536_512 := am ((by rw [hg]; exact Nat.ne_of_gt (blk_lt (g := gb512) (o := .cells #[.int .i64 t505, .int .i64 t506, .string t507] 27 (0, 0)) (pkK BK512.out)) : gb536 ≠ gb512)); replace BK512 := am (blk_below (pkK BK512.out) hb); have NB513_536 := am ((by rw [hg]; exact Nat.ne_of_lt (blk_lt (g := gb513) (o := .cells #[.int .i64 t508, .int .i64 t509, .int .i64 t510, .string t511] 45 (0, 0)) (pkK BK513.out)) : gb513 ≠ gb536)); have NB536_513 := am ((by rw [hg]; exact Nat.ne_of_gt (blk_lt (g := gb513) (o := .cells #[.int .i64 t508, .int .i64 t509, .int .i64 t510, .string t511] 45 (0, 0)) (pkK BK513.out)) : gb536 ≠ gb513)); replace BK513 := am (blk_below (pkK BK513.out) hb); have NB518_536 := am ((by rw [hg]; exact Nat.ne_of_lt (blk_lt (g := gb518) (o := .cells #[.int .i64 t514, .int .i64 t515, .string t516] 27 (0, 0)) (pkK BK518.out)) : gb518 ≠ gb536)); have NB536_518 := am ((by rw [hg]; exact Nat.ne_of_gt (blk_lt (g := gb518) (o := .cells #[.int .i64 t514, .int .i64 t515, .string t516] 27 (0, 0)) (pkK BK518.out)) : gb536 ≠ gb518)); replace BK518 := am (blk_below (pkK BK518.out) hb); have NB523_536 := am ((by rw [hg]; exact Nat.ne_of_lt (blk_lt (g := gb523) (o := .cells #[.int .i64 t519, .int .i64 t520, .string t521] 27 (0, 0)) (pkK BK523.out)) : gb523 ≠ gb536)); have NB536_523 := am ((by rw [hg]; exact Nat.ne_of_gt (blk_lt (g := gb523) (o := .cells #[.int .i64 t519, .int .i64 t520, .string t521] 27 (0, 0)) (pkK BK523.out)) : gb536 ≠ gb523)); replace BK523 := am (blk_below (pkK BK523.out) hb); have NB531_536 := am ((by rw [hg]; exact Nat.ne_of_lt (blk_lt (g := gb531) (o := .cells #[.int .i64 t527, .int .i64 t528, .string t529] 27 (0, 0)) (pkK BK531.out)) : gb531 ≠ gb536)); have NB536_531 := am ((by rw [hg]; exact Nat.ne_of_gt (blk_lt (g := gb531) (o := .cells #[.int .i64 t527, .int .i64 t528, .string t529] 27 (0, 0)) (pkK BK531.out)) : gb536 ≠ gb531)); replace BK531 := am (blk_below (pkK BK531.out) hb); clear hb hbox hg; have hnb97 := NB536_512.out; have hnc97 := NB512_536.out; have hnb98 := NB536_513.out; have hnc98 := NB513_536.out; have hnb99 := NB536_518.out; have hnc99 := NB518_536.out; have hnb100 := NB536_523.out; have hnc100 := NB523_536.out; have hnb101 := NB536_531.out; have hnc101 := NB531_536.out; obtain ⟨hcz102_0, hcz102_1, hcz102_2, hfz102_0, hfz102_1, hfz102_2⟩ := bk3 BK536.out; obtain ⟨hcz103_0, hcz103_1, hcz103_2, hfz103_0, hfz103_1, hfz103_2⟩ := bk3 BK512.out; obtain ⟨hcz104_0, hcz104_1, hcz104_2, hcz104_3, hfz104_0, hfz104_1, hfz104_2, hfz104_3⟩ := bk4 BK513.out) | ((with_reducible refine gate_callee (f := 28) rfl ?_); refine goesL_ (some 86) rfl rfl Try.func28 (by kernel_rfl) rfl #[.agg #[.int .i64 t505, .int .i64 t506, .string t507], .agg #[.int .i64 2, .int .i64 t509, .int .i64 t510, .string t511]] rfl mpx ?_; (with_reducible refine (impl_Changed.calls kj46 t505 t506 t507 2 t509 t510 t511 t537 t538 t539 t540 _ A68.out).mono ?_); rintro e w105 ⟨rfl, hb⟩; refine ⟨_, rfl, ?_⟩; replace BK512 := am (blk_below (g := gb512) (o := .cells #[.int .i64 t505, .int .i64 t506, .string t507] 27 (0, 0)) (by (with_reducible repeat (first | refine blk_drewN ?_ _ | refine blk_drew ?_ | refine blk_alloc ?_ _)); refine blk_far ?_ NB512_536.out _; (with_reducible repeat (first | refine blk_drewN ?_ _ | refine blk_drew ?_ | refine blk_alloc ?_ _)); refine blk_far ?_ NB512_536.out _; (with_reducible repeat (first | refine blk_drewN ?_ _ | refine blk_drew ?_ | refine blk_alloc ?_ _)); refine blk_far ?_ NB512_536.out _; exact pkK BK512.out) hb); replace BK513 := am (blk_below (g := gb513) (o := .cells #[.int .i64 t508, .int .i64 t509, .int .i64 t510, .string t511] 45 (0, 0)) (by (with_reducible repeat (first | refine blk_drewN ?_ _ | refine blk_drew ?_ | refine blk_alloc ?_ _)); refine blk_far ?_ NB513_536.out _; (with_reducible repeat (first | refine blk_drewN ?_ _ | refine blk_drew ?_ | refine blk_alloc ?_ _)); refine blk_far ?_ NB513_536.out _; (with_reducible repeat (first | refine blk_drewN ?_ _ | refine blk_drew ?_ | refine blk_alloc ?_ _)); refine blk_far ?_ NB513_536.out _; exact pkK BK513.out) hb); replace BK518 := am (blk_below (g := gb518) (o := .cells #[.int .i64 t514, .int .i64 t515, .string t516] 27 (0, 0)) (by (with_reducible repeat (first | refine blk_drewN ?_ _ | refine blk_drew ?_ | refine blk_alloc ?_ _)); refine blk_far ?_ NB518_536.out _; (with_reducible repeat (first | refine blk_drewN ?_ _ | refine blk_drew ?_ | refine blk_alloc ?_ _)); refine blk_far ?_ NB518_536.out _; (with_reducible repeat (first | refine blk_drewN ?_ _ | refine blk_drew ?_ | refine blk_alloc ?_ _)); refine blk_far ?_ NB518_536.out _; exact pkK BK518.out) hb); replace BK523 := am (blk_below (g := gb523) (o := .cells #[.int .i64 t519, .int .i64 t520, .string t521] 27 (0, 0)) (by (with_reducible repeat (first | refine blk_drewN ?_ _ | refine blk_drew ?_ | refine blk_alloc ?_ _)); refine blk_far ?_ NB523_536.out _; (with_reducible repeat (first | refine blk_drewN ?_ _ | refine blk_drew ?_ | refine blk_alloc ?_ _)); refine blk_far ?_ NB523_536.out _; (with_reducible repeat (first | refine blk_drewN ?_ _ | refine blk_drew ?_ | refine blk_alloc ?_ _)); refine blk_far ?_ NB523_536.out _; exact pkK BK523.out) hb); replace BK531 := am (blk_below (g := gb531) (o := .cells #[.int .i64 t527, .int .i64 t528, .string t529] 27 (0, 0)) (by (with_reducible repeat (first | refine blk_drewN ?_ _ | refine blk_drew ?_ | refine blk_alloc ?_ _)); refine blk_far ?_ NB531_536.out _; (with_reducible repeat (first | refine blk_drewN ?_ _ | refine blk_drew ?_ | refine blk_alloc ?_ _)); refine blk_far ?_ NB531_536.out _; (with_reducible repeat (first | refine blk_drewN ?_ _ | refine blk_drew ?_ | refine blk_alloc ?_ _)); refine blk_far ?_ NB531_536.out _; exact pkK BK531.out) hb); replace BK536 := am (blk_below (g := gb536) (o := .cells #[.int .i64 t532, .int .i64 t533, .string t534] 27 (0, 0)) (by (with_reducible repeat (first | refine blk_drewN ?_ _ | refine blk_drew ?_ | refine blk_alloc ?_ _)); refine blk_put (cs := #[.int .i64 t532, .int .i64 t533, .string (⟨#[]⟩ : ByteArray)]) ?_ 2 _ rfl; (with_reducible repeat (first | refine blk_drewN ?_ _ | refine blk_drew ?_ | refine blk_alloc ?_ _)); refine blk_put (cs := #[.int .i64 t532, .int .i64 0, .string (⟨#[]⟩ : ByteArray)]) ?_ 1 _ rfl; (with_reducible repeat (first | refine blk_drewN ?_ _ | refine blk_drew ?_ | refine blk_alloc ?_ _)); refine blk_put (cs := #[.int .i64 0, .int .i64 0, .string (⟨#[]⟩ : ByteArray)]) ?_ 0 _ rfl; exact pkK BK536.out) hb); replace HB := am (below_step (pkW HB.out) hb); (try clear hb)) | ((with_reducible refine gate_dst (N := 13) rfl ?_); refine box_event ?hg (N := 13) ?hd (cs := #[.int .i64 0, .int .i64 0, .string (⟨#[]⟩ : ByteArray)]) (t := 27) ?hr ?_; (case hd => rfl); (case hg => rfl); (case hr => first | (go_simp; done) | (go_simp; rfl)); intro gb541 hg w106 hbox hb; have BK541 := am (hbox); have GW541 := am ((by rw [hg]; exact (below_size (pkW HB.out)) : w.heap.size ≤ gb541)); have GE541 := am ((by rw [hg]; exact (below_size (pkW HB.out)) : w.heap.size ≤ gb541)); replace HB := am (below_step (pkW HB.out) hb); have NB512_541 := am ((by rw [hg]; exact Nat.ne_of_lt (blk_lt (g := gb512) (o := .cells #[.int .i64 t505, .int .i64 t506, .string t507] 27 (0, 0)) (pkK BK512.out)) : gb512 ≠ gb541)); have NB541_512 := am ((by rw [hg]; exact Nat.ne_of_gt (blk_lt (g := gb512) (o := .cells #[.int .i64 t505, .int .i64 t506, .string t507] 27 (0, 0)) (pkK BK512.out)) : gb541 ≠ gb512)); replace BK512 := am (blk_below (pkK BK512.out) hb); have NB513_541 := am ((by rw [hg]; exact Nat.ne_of_lt (blk_lt (g := gb513) (o := .cells #[.int .i64 t508, .int .i64 t509, .int .i64 t510, .string t511] 45 (0, 0)) (pkK BK513.out)) : gb513 ≠ gb541)); have NB541_513 := am ((by rw [hg]; exact Nat.ne_of_gt (blk_lt (g := gb513) (o := .cells #[.int .i64 t508, .int .i64 t509, .int .i64 t510, .string t511] 45 (0, 0)) (pkK BK513.out)) : gb541 ≠ gb513)); replace BK513 := am (blk_below (pkK BK513.out) hb); have NB518_541 := am ((by rw [hg]; exact Nat.ne_of_lt (blk_lt (g := gb518) (o := .cells #[.int .i64 t514, .int .i64 t515, .string t516] 27 (0, 0)) (pkK BK518.out)) : gb518 ≠ gb541)); have NB541_518 := am ((by rw [hg]; exact Nat.ne_of_gt (blk_lt (g := gb518) (o := .cells #[.int .i64 t514, .int .i64 t515, .string t516] 27 (0, 0)) (pkK BK518.out)) : gb541 ≠ gb518)); replace BK518 := am (blk_below (pkK BK518.out) hb); have NB523_541 := am ((by rw [hg]; exact Nat.ne_of_lt (blk_lt (g := gb523) (o := .cells #[.int .i64 t519, .int .i64 t520, .string t521] 27 (0, 0)) (pkK BK523.out)) : gb523 ≠ gb541)); have NB541_523 := am ((by rw [hg]; exact Nat.ne_of_gt (blk_lt (g := gb523) (o := .cells #[.int .i64 t519, .int .i64 t520, .string t521] 27 (0, 0)) (pkK BK523.out)) : gb541 ≠ gb523)); replace BK523 := am (blk_below (pkK BK523.out) hb); have NB531_541 := am ((by rw [hg]; exact Nat.ne_of_lt (blk_lt (g := gb531) (o := .cells #[.int .i64 t527, .int .i64 t528, .string t529] 27 (0, 0)) (pkK BK531.out)) : gb531 ≠ gb541)); have NB541_531 := am ((by rw [hg]; exact Nat.ne_of_gt (blk_lt (g := gb531) (o := .cells #[.int .i64 t527, .int .i64 t528, .string t529] 27 (0, 0)) (pkK BK531.out)) : gb541 ≠ gb531)); replace BK531 := am (blk_below (pkK BK531.out) hb); have NB536_541 := am ((by rw [hg]; exact Nat.ne_of_lt (blk_lt (g := gb536) (o := .cells #[.int .i64 t532, .int .i64 t533, .string t534] 27 (0, 0)) (pkK BK536.out)) : gb536 ≠ gb541)); have NB541_536 := am ((by rw [hg]; exact Nat.ne_of_gt (blk_lt (g := gb536) (o := .cells #[.int .i64 t532, .int .i64 t533, .string t534] 27 (0, 0)) (pkK BK536.out)) : gb541 ≠ gb536)); replace BK536 := am (blk_below (pkK BK536.out) hb); clear hb hbox hg; have hnb107 := NB541_512.out; have hnc107 := NB512_541.out; have hnb108 := NB541_513.out; have hnc108 := NB513_541.out; have hnb109 := NB541_518.out; have hnc109 := NB518_541.out; have hnb110 := NB541_523.out; have hnc110 := NB523_541.out; have hnb111 := NB541_531.out; have hnc111 := NB531_541.out; have hnb112 := NB541_536.out; have hnc112 := NB536_541.out; obtain ⟨hcz113_0, hcz113_1, hcz113_2, hfz113_0, hfz113_1, hfz113_2⟩ := bk3 BK541.out; obtain ⟨hcz114_0, hcz114_1, hcz114_2, hcz114_3, hfz114_0, hfz114_1, hfz114_2, hfz114_3⟩ := bk4 BK513.out; obtain ⟨hcz115_0, hcz115_1, hcz115_2, hfz115_0, hfz115_1, hfz115_2⟩ := bk3 BK512.out) | ((with_reducible refine gate_callee (f := 28) rfl ?_); refine goesL_ (some 94) rfl rfl Try.func28 (by kernel_rfl) rfl #[.agg #[.int .i64 t509, .int .i64 t510, .string t511], .agg #[.int .i64 2, .int .i64 t505, .int .i64 t506, .string t507]] rfl mpx ?_; (with_reducible refine (impl_Changed.calls kj46 t509 t510 t511 2 t505 t506 t507 t542 t543 t544 t545 _ A69.out).mono ?_); rintro e w116 ⟨rfl, hb⟩; refine ⟨_, rfl, ?_⟩; replace BK512 := am (blk_below (g := gb512) (o := .cells #[.int .i64 t505, .int .i64 t506, .string t507] 27 (0, 0)) (by (with_reducible repeat (first | refine blk_drewN ?_ _ | refine blk_drew ?_ | refine blk_alloc ?_ _)); refine blk_far ?_ NB512_541.out _; (with_reducible repeat (first | refine blk_drewN ?_ _ | refine blk_drew ?_ | refine blk_alloc ?_ _)); refine blk_far ?_ NB512_541.out _; (with_reducible repeat (first | refine blk_drewN ?_ _ | refine blk_drew ?_ | refine blk_alloc ?_ _)); refine blk_far ?_ NB512_541.out _; exact pkK BK512.out) hb); replace BK513 := am (blk_below (g := gb513) (o := .cells #[.int .i64 t508, .int .i64 t509, .int .i64 t510, .string t511] 45 (0, 0)) (by (with_reducible repeat (first | refine blk_drewN ?_ _ | refine blk_drew ?_ | refine blk_alloc ?_ _)); refine blk_far ?_ NB513_541.out _; (with_reducible repeat (first | refine blk_drewN ?_ _ | refine blk_drew ?_ | refine blk_alloc ?_ _)); refine blk_far ?_ NB513_541.out _; (with_reducible repeat (first | refine blk_drewN ?_ _ | refine blk_drew ?_ | refine blk_alloc ?_ _)); refine blk_far ?_ NB513_541.out _; exact pkK BK513.out) hb); replace BK518 := am (blk_below (g := gb518) (o := .cells #[.int .i64 t514, .int .i64 t515, .string t516] 27 (0, 0)) (by (with_reducible repeat (first | refine blk_drewN ?_ _ | refine blk_drew ?_ | refine blk_alloc ?_ _)); refine blk_far ?_ NB518_541.out _; (with_reducible repeat (first | refine blk_drewN ?_ _ | refine blk_drew ?_ | refine blk_alloc ?_ _)); refine blk_far ?_ NB518_541.out _; (with_reducible repeat (first | refine blk_drewN ?_ _ | refine blk_drew ?_ | refine blk_alloc ?_ _)); refine blk_far ?_ NB518_541.out _; exact pkK BK518.out) hb); replace BK523 := am (blk_below (g := gb523) (o := .cells #[.int .i64 t519, .int .i64 t520, .string t521] 27 (0, 0)) (by (with_reducible repeat (first | refine blk_drewN ?_ _ | refine blk_drew ?_ | refine blk_alloc ?_ _)); refine blk_far ?_ NB523_541.out _; (with_reducible repeat (first | refine blk_drewN ?_ _ | refine blk_drew ?_ | refine blk_alloc ?_ _)); refine blk_far ?_ NB523_541.out _; (with_reducible repeat (first | refine blk_drewN ?_ _ | refine blk_drew ?_ | refine blk_alloc ?_ _)); refine blk_far ?_ NB523_541.out _; exact pkK BK523.out) hb); replace BK531 := am (blk_below (g := gb531) (o := .cells #[.int .i64 t527, .int .i64 t528, .string t529] 27 (0, 0)) (by (with_reducible repeat (first | refine blk_drewN ?_ _ | refine blk_drew ?_ | refine blk_alloc ?_ _)); refine blk_far ?_ NB531_541.out _; (with_reducible repeat (first | refine blk_drewN ?_ _ | refine blk_drew ?_ | refine blk_alloc ?_ _)); refine blk_far ?_ NB531_541.out _; (with_reducible repeat (first | refine blk_drewN ?_ _ | refine blk_drew ?_ | refine blk_alloc ?_ _)); refine blk_far ?_ NB531_541.out _; exact pkK BK531.out) hb); replace BK536 := am (blk_below (g := gb536) (o := .cells #[.int .i64 t532, .int .i64 t533, .string t534] 27 (0, 0)) (by (with_reducible repeat (first | refine blk_drewN ?_ _ | refine blk_drew ?_ | refine blk_alloc ?_ _)); refine blk_far ?_ NB536_541.out _; (with_reducible repeat (first | refine blk_drewN ?_ _ | refine blk_drew ?_ | refine blk_alloc ?_ _)); refine blk_far ?_ NB536_541.out _; (with_reducible repeat (first | refine blk_drewN ?_ _ | refine blk_drew ?_ | refine blk_alloc ?_ _)); refine blk_far ?_ NB536_541.out _; exact pkK BK536.out) hb); replace BK541 := am (blk_below (g := gb541) (o := .cells #[.int .i64 t537, .int .i64 t538, .string t539] 27 (0, 0)) (by (with_reducible repeat (first | refine blk_drewN ?_ _ | refine blk_drew ?_ | refine blk_alloc ?_ _)); refine blk_put (cs := #[.int .i64 t537, .int .i64 t538, .string (⟨#[]⟩ : ByteArray)]) ?_ 2 _ rfl; (with_reducible repeat (first | refine blk_drewN ?_ _ | refine blk_drew ?_ | refine blk_alloc ?_ _)); refine blk_put (cs := #[.int .i64 t537, .int .i64 0, .string (⟨#[]⟩ : ByteArray)]) ?_ 1 _ rfl; (with_reducible repeat (first | refine blk_drewN ?_ _ | refine blk_drew ?_ | refine blk_alloc ?_ _)); refine blk_put (cs := #[.int .i64 0, .int .i64 0, .string (⟨#[]⟩ : ByteArray)]) ?_ 0 _ rfl; exact pkK BK541.out) hb); replace HB := am (below_step (pkW HB.out) hb); (try clear hb)) | ((with_reducible refine gate_dst (N := 15) rfl ?_); refine box_event ?hg (N := 15) ?hd (cs := #[.int .i64 0, .int .i64 0, .string (⟨#[]⟩ : ByteArray)]) (t := 27) ?hr ?_; (case hd => rfl); (case hg => rfl); (case hr => first | (go_simp; done) | (go_simp; rfl)); intro gb546 hg w117 hbox hb; have BK546 := am (hbox); have GW546 := am ((by rw [hg]; exact (below_size (pkW HB.out)) : w.heap.size ≤ gb546)); have GE546 := am ((by rw [hg]; exact (below_size (pkW HB.out)) : w.heap.size ≤ gb546)); replace HB := am (below_step (pkW HB.out) hb); have NB512_546 := am ((by rw [hg]; exact Nat.ne_of_lt (blk_lt (g := gb512) (o := .cells #[.int .i64 t505, .int .i64 t506, .string t507] 27 (0, 0)) (pkK BK512.out)) : gb512 ≠ gb546)); have NB546_512 := am ((by rw [hg]; exact Nat.ne_of_gt (blk_lt (g := gb512) (o := .cells #[.int .i64 t505, .int .i64 t506, .string t507] 27 (0, 0)) (pkK BK512.out)) : gb546 ≠ gb512)); replace BK512 := am (blk_below (pkK BK512.out) hb); have NB513_546 := am ((by rw [hg]; exact Nat.ne_of_lt (blk_lt (g := gb513) (o := .cells #[.int .i64 t508, .int .i64 t509, .int .i64 t510, .string t511] 45 (0, 0)) (pkK BK513.out)) : gb513 ≠ gb546)); have NB546_513 := am ((by rw [hg]; exact Nat.ne_of_gt (blk_lt (g := gb513) (o := .cells #[.int .i64 t508, .int .i64 t509, .int .i64 t510, .string t511] 45 (0, 0)) (pkK BK513.out)) : gb546 ≠ gb513)); replace BK513 := am (blk_below (pkK BK513.out) hb); have NB518_546 := am ((by rw [hg]; exact Nat.ne_of_lt (blk_lt (g := gb518) (o := .cells #[.int .i64 t514, .int .i64 t515, .string t516] 27 (0, 0)) (pkK BK518.out)) : gb518 ≠ gb546)); have NB546_518 := am ((by rw [hg]; exact Nat.ne_of_gt (blk_lt (g := gb518) (o := .cells #[.int .i64 t514, .int .i64 t515, .string t516] 27 (0, 0)) (pkK BK518.out)) : gb546 ≠ gb518)); replace BK518 := am (blk_below (pkK BK518.out) hb); have NB523_546 := am ((by rw [hg]; exact Nat.ne_of_lt (blk_lt (g := gb523) (o := .cells #[.int .i64 t519, .int .i64 t520, .string t521] 27 (0, 0)) (pkK BK523.out)) : gb523 ≠ gb546)); have NB546_523 := am ((by rw [hg]; exact Nat.ne_of_gt (blk_lt (g := gb523) (o := .cells #[.int .i64 t519, .int .i64 t520, .string t521] 27 (0, 0)) (pkK BK523.out)) : gb546 ≠ gb523)); replace BK523 := am (blk_below (pkK BK523.out) hb); have NB531_546 := am ((by rw [hg]; exact Nat.ne_of_lt (blk_lt (g := gb531) (o := .cells #[.int .i64 t527, .int .i64 t528, .string t529] 27 (0, 0)) (pkK BK531.out)) : gb531 ≠ gb546)); have NB546_531 := am ((by rw [hg]; exact Nat.ne_of_gt (blk_lt (g := gb531) (o := .cells #[.int .i64 t527, .int .i64 t528, .string t529] 27 (0, 0)) (pkK BK531.out)) : gb546 ≠ gb531)); replace BK531 := am (blk_below (pkK BK531.out) hb); have NB536_546 := am ((by rw [hg]; exact Nat.ne_of_lt (blk_lt (g := gb536) (o := .cells #[.int .i64 t532, .int .i64 t533, .string t534] 27 (0, 0)) (pkK BK536.out)) : gb536 ≠ gb546)); have NB546_536 := am ((by rw [hg]; exact Nat.ne_of_gt (blk_lt (g := gb536) (o := .cells #[.int .i64 t532, .int .i64 t533, .string t534] 27 (0, 0)) (pkK BK536.out)) : gb546 ≠ gb536)); replace BK536 := am (blk_below (pkK BK536.out) hb); have NB541_546 := am ((by rw [hg]; exact Nat.ne_of_lt (blk_lt (g := gb541) (o := .cells #[.int .i64 t537, .int .i64 t538, .string t539] 27 (0, 0)) (pkK BK541.out)) : gb541 ≠ gb546)); have NB546_541 := am ((by rw [hg]; exact Nat.ne_of_gt (blk_lt (g := gb541) (o := .cells #[.int .i64 t537, .int .i64 t538, .string t539] 27 (0, 0)) (pkK BK541.out)) : gb546 ≠ gb541)); replace BK541 := am (blk_below (pkK BK541.out) hb); clear hb hbox hg; have hnb118 := NB546_512.out; have hnc118 := NB512_546.out; have hnb119 := NB546_513.out; have hnc119 := NB513_546.out; have hnb120 := NB546_518.out; have hnc120 := NB518_546.out; have hnb121 := NB546_523.out; have hnc121 := NB523_546.out; have hnb122 := NB546_531.out; have hnc122 := NB531_546.out; have hnb123 := NB546_536.out; have hnc123 := NB536_546.out; have hnb124 := NB546_541.out; have hnc124 := NB541_546.out; obtain ⟨hcz125_0, hcz125_1, hcz125_2, hfz125_0, hfz125_1, hfz125_2⟩ := bk3 BK546.out; obtain ⟨hcz126_0, hcz126_1, hcz126_2, hfz126_0, hfz126_1, hfz126_2⟩ := bk3 BK512.out; obtain ⟨hcz127_0, hcz127_1, hcz127_2, hcz127_3, hfz127_0, hfz127_1, hfz127_2, hfz127_3⟩ := bk4 BK513.out) | ((with_reducible refine gate_callee (f := 28) rfl ?_); refine goesL_ (some 102) rfl rfl Try.func28 (by kernel_rfl) rfl #[.agg #[.int .i64 t505, .int .i64 t506, .string t507], .agg #[.int .i64 1, .int .i64 t509, .int .i64 t510, .string t511]] rfl mpx ?_; (with_reducible refine (impl_Changed.calls kj46 t505 t506 t507 1 t509 t510 t511 t547 t548 t549 true _ A70.out).mono ?_); rintro e w128 ⟨rfl, hb⟩; refine ⟨_, rfl, ?_⟩; replace BK512 := am (blk_below (g := gb512) (o := .cells #[.int .i64 t505, .int .i64 t506, .string t507] 27 (0, 0)) (by (with_reducible repeat (first | refine blk_drewN ?_ _ | refine blk_drew ?_ | refine blk_alloc ?_ _)); refine blk_far ?_ NB512_546.out _; (with_reducible repeat (first | refine blk_drewN ?_ _ | refine blk_drew ?_ | refine blk_alloc ?_ _)); refine blk_far ?_ NB512_546.out _; (with_reducible repeat (first | refine blk_drewN ?_ _ | refine blk_drew ?_ | refine blk_alloc ?_ _)); refine blk_far ?_ NB512_546.out _; exact pkK BK512.out) hb); replace BK513 := am (blk_below (g := gb513) (o := .cells #[.int .i64 t508, .int .i64 t509, .int .i64 t510, .string t511] 45 (0, 0)) (by (with_reducible repeat (first | refine blk_drewN ?_ _ | refine blk_drew ?_ | refine blk_alloc ?_ _)); refine blk_far ?_ NB513_546.out _; (with_reducible repeat (first | refine blk_drewN ?_ _ | refine blk_drew ?_ | refine blk_alloc ?_ _)); refine blk_far ?_ NB513_546.out _; (with_reducible repeat (first | refine blk_drewN ?_ _ | refine blk_drew ?_ | refine blk_alloc ?_ _)); refine blk_far ?_ NB513_546.out _; exact pkK BK513.out) hb); replace BK518 := am (blk_below (g := gb518) (o := .cells #[.int .i64 t514, .int .i64 t515, .string t516] 27 (0, 0)) (by (with_reducible repeat (first | refine blk_drewN ?_ _ | refine blk_drew ?_ | refine blk_alloc ?_ _)); refine blk_far ?_ NB518_546.out _; (with_reducible repeat (first | refine blk_drewN ?_ _ | refine blk_drew ?_ | refine blk_alloc ?_ _)); refine blk_far ?_ NB518_546.out _; (with_reducible repeat (first | refine blk_drewN ?_ _ | refine blk_drew ?_ | refine blk_alloc ?_ _)); refine blk_far ?_ NB518_546.out _; exact pkK BK518.out) hb); replace BK523 := am (blk_below (g := gb523) (o := .cells #[.int .i64 t519, .int .i64 t520, .string t521] 27 (0, 0)) (by (with_reducible repeat (first | refine blk_drewN ?_ _ | refine blk_drew ?_ | refine blk_alloc ?_ _)); refine blk_far ?_ NB523_546.out _; (with_reducible repeat (first | refine blk_drewN ?_ _ | refine blk_drew ?_ | refine blk_alloc ?_ _)); refine blk_far ?_ NB523_546.out _; (with_reducible repeat (first | refine blk_drewN ?_ _ | refine blk_drew ?_ | refine blk_alloc ?_ _)); refine blk_far ?_ NB523_546.out _; exact pkK BK523.out) hb); replace BK531 := am (blk_below (g := gb531) (o := .cells #[.int .i64 t527, .int .i64 t528, .string t529] 27 (0, 0)) (by (with_reducible repeat (first | refine blk_drewN ?_ _ | refine blk_drew ?_ | refine blk_alloc ?_ _)); refine blk_far ?_ NB531_546.out _; (with_reducible repeat (first | refine blk_drewN ?_ _ | refine blk_drew ?_ | refine blk_alloc ?_ _)); refine blk_far ?_ NB531_546.out _; (with_reducible repeat (first | refine blk_drewN ?_ _ | refine blk_drew ?_ | refine blk_alloc ?_ _)); refine blk_far ?_ NB531_546.out _; exact pkK BK531.out) hb); replace BK536 := am (blk_below (g := gb536) (o := .cells #[.int .i64 t532, .int .i64 t533, .string t534] 27 (0, 0)) (by (with_reducible repeat (first | refine blk_drewN ?_ _ | refine blk_drew ?_ | refine blk_alloc ?_ _)); refine blk_far ?_ NB536_546.out _; (with_reducible repeat (first | refine blk_drewN ?_ _ | refine blk_drew ?_ | refine blk_alloc ?_ _)); refine blk_far ?_ NB536_546.out _; (with_reducible repeat (first | refine blk_drewN ?_ _ | refine blk_drew ?_ | refine blk_alloc ?_ _)); refine blk_far ?_ NB536_546.out _; exact pkK BK536.out) hb); replace BK541 := am (blk_below (g := gb541) (o := .cells #[.int .i64 t537, .int .i64 t538, .string t539] 27 (0, 0)) (by (with_reducible repeat (first | refine blk_drewN ?_ _ | refine blk_drew ?_ | refine blk_alloc ?_ _)); refine blk_far ?_ NB541_546.out _; (with_reducible repeat (first | refine blk_drewN ?_ _ | refine blk_drew ?_ | refine blk_alloc ?_ _)); refine blk_far ?_ NB541_546.out _; (with_reducible repeat (first | refine blk_drewN ?_ _ | refine blk_drew ?_ | refine blk_alloc ?_ _)); refine blk_far ?_ NB541_546.out _; exact pkK BK541.out) hb); replace BK546 := am (blk_below (g := gb546) (o := .cells #[.int .i64 t542, .int .i64 t543, .string t544] 27 (0, 0)) (by (with_reducible repeat (first | refine blk_drewN ?_ _ | refine blk_drew ?_ | refine blk_alloc ?_ _)); refine blk_put (cs := #[.int .i64 t542, .int .i64 t543, .string (⟨#[]⟩ : ByteArray)]) ?_ 2 _ rfl; (with_reducible repeat (first | refine blk_drewN ?_ _ | refine blk_drew ?_ | refine blk_alloc ?_ _)); refine blk_put (cs := #[.int .i64 t542, .int .i64 0, .string (⟨#[]⟩ : ByteArray)]) ?_ 1 _ rfl; (with_reducible repeat (first | refine blk_drewN ?_ _ | refine blk_drew ?_ | refine blk_alloc ?_ _)); refine blk_put (cs := #[.int .i64 0, .int .i64 0, .string (⟨#[]⟩ : ByteArray)]) ?_ 0 _ rfl; exact pkK BK546.out) hb); replace HB := am (below_step (pkW HB.out) hb); (try clear hb)) | ((with_reducible refine gate_dst (N := 17) rfl ?_); refine box_event ?hg (N := 17) ?hd (cs := #[.int .i64 0, .int .i64 0, .string (⟨#[]⟩ : ByteArray)]) (t := 27) ?hr ?_; (case hd => rfl); (case hg => rfl); (case hr => first | (go_simp; done) | (go_simp; rfl)); intro gb551 hg w129 hbox hb; have BK551 := am (hbox); have GW551 := am ((by rw [hg]; exact (below_size (pkW HB.out)) : w.heap.size ≤ gb551)); have GE551 := am ((by rw [hg]; exact (below_size (pkW HB.out)) : w.heap.size ≤ gb551)); replace HB := am (below_step (pkW HB.out) hb); have NB512_551 := am ((by rw [hg]; exact Nat.ne_of_lt (blk_lt (g := gb512) (o := .cells #[.int .i64 t505, .int .i64 t506, .string t507] 27 (0, 0)) (pkK BK512.out)) : gb512 ≠ gb551)); have NB551_512 := am ((by rw [hg]; exact Nat.ne_of_gt (blk_lt (g := gb512) (o := .cells #[.int .i64 t505, .int .i64 t506, .string t507] 27 (0, 0)) (pkK BK512.out)) : gb551 ≠ gb512)); replace BK512 := am (blk_below (pkK BK512.out) hb); have NB513_551 := am ((by rw [hg]; exact Nat.ne_of_lt (blk_lt (g := gb513) (o := .cells #[.int .i64 t508, .int .i64 t509, .int .i64 t510, .string t511] 45 (0, 0)) (pkK BK513.out)) : gb513 ≠ gb551)); have NB551_513 := am ((by rw [hg]; exact Nat.ne_of_gt (blk_lt (g := gb513) (o := .cells #[.int .i64 t508, .int .i64 t509, .int .i64 t510, .string t511] 45 (0, 0)) (pkK BK513.out)) : gb551 ≠ gb513)); replace BK513 := am (blk_below (pkK BK513.out) hb); have NB518_551 := am ((by rw [hg]; exact Nat.ne_of_lt (blk_lt (g := gb518) (o := .cells #[.int .i64 t514, .int .i64 t515, .string t516] 27 (0, 0)) (pkK BK518.out)) : gb518 ≠ gb551)); have NB551_518 := am ((by rw [hg]; exact Nat.ne_of_gt (blk_lt (g := gb518) (o := .cells #[.int .i64 t514, .int .i64 t515, .string t516] 27 (0, 0)) (pkK BK518.out)) : gb551 ≠ gb518)); replace BK518 := am (blk_below (pkK BK518.out) hb); have NB523_551 := am ((by rw [hg]; exact Nat.ne_of_lt (blk_lt (g := gb523) (o := .cells #[.int .i64 t519, .int .i64 t520, .string t521] 27 (0, 0)) (pkK BK523.out)) : gb523 ≠ gb551)); have NB551_523 := am ((by rw [hg]; exact Nat.ne_of_gt (blk_lt (g := gb523) (o := .cells #[.int .i64 t519, .int .i64 t520, .string t521] 27 (0, 0)) (pkK BK523.out)) : gb551 ≠ gb523)); replace BK523 := am (blk_below (pkK BK523.out) hb); have NB531_551 := am ((by rw [hg]; exact Nat.ne_of_lt (blk_lt (g := gb531) (o := .cells #[.int .i64 t527, .int .i64 t528, .string t529] 27 (0, 0)) (pkK BK531.out)) : gb531 ≠ gb551)); have NB551_531 := am ((by rw [hg]; exact Nat.ne_of_gt (blk_lt (g := gb531) (o := .cells #[.int .i64 t527, .int .i64 t528, .string t529] 27 (0, 0)) (pkK BK531.out)) : gb551 ≠ gb531)); replace BK531 := am (blk_below (pkK BK531.out) hb); have NB536_551 := am ((by rw [hg]; exact Nat.ne_of_lt (blk_lt (g := gb536) (o := .cells #[.int .i64 t532, .int .i64 t533, .string t534] 27 (0, 0)) (pkK BK536.out)) : gb536 ≠ gb551)); have NB551_536 := am ((by rw [hg]; exact Nat.ne_of_gt (blk_lt (g := gb536) (o := .cells #[.int .i64 t532, .int .i64 t533, .string t534] 27 (0, 0)) (pkK BK536.out)) : gb551 ≠ gb536)); replace BK536 := am (blk_below (pkK BK536.out) hb); have NB541_551 := am ((by rw [hg]; exact Nat.ne_of_lt (blk_lt (g := gb541) (o := .cells #[.int .i64 t537, .int .i64 t538, .string t539] 27 (0, 0)) (pkK BK541.out)) : gb541 ≠ gb551)); have NB551_541 := am ((by rw [hg]; exact Nat.ne_of_gt (blk_lt (g := gb541) (o := .cells #[.int .i64 t537, .int .i64 t538, .string t539] 27 (0, 0)) (pkK BK541.out)) : gb551 ≠ gb541)); replace BK541 := am (blk_below (pkK BK541.out) hb); have NB546_551 := am ((by rw [hg]; exact Nat.ne_of_lt (blk_lt (g := gb546) (o := .cells #[.int .i64 t542, .int .i64 t543, .string t544] 27 (0, 0)) (pkK BK546.out)) : gb546 ≠ gb551)); have NB551_546 := am ((by rw [hg]; exact Nat.ne_of_gt (blk_lt (g := gb546) (o := .cells #[.int .i64 t542, .int .i64 t543, .string t544] 27 (0, 0)) (pkK BK546.out)) : gb551 ≠ gb546)); replace BK546 := am (blk_below (pkK BK546.out) hb); clear hb hbox hg; have hnb130 := NB551_512.out; have hnc130 := NB512_551.out; have hnb131 := NB551_513.out; have hnc131 := NB513_551.out; have hnb132 := NB551_518.out; have hnc132 := NB518_551.out; have hnb133 := NB551_523.out; have hnc133 := NB523_551.out; have hnb134 := NB551_531.out; have hnc134 := NB531_551.out; have hnb135 := NB551_536.out; have hnc135 := NB536_551.out; have hnb136 := NB551_541.out; have hnc136 := NB541_551.out; have hnb137 := NB551_546.out; have hnc137 := NB546_551.out; obtain ⟨hcz138_0, hcz138_1, hcz138_2, hfz138_0, hfz138_1, hfz138_2⟩ := bk3 BK551.out; obtain ⟨hcz139_0, hcz139_1, hcz139_2, hfz139_0, hfz139_1, hfz139_2⟩ := bk3 BK531.out; obtain ⟨hcz140_0, hcz140_1, hcz140_2, hfz140_0, hfz140_1, hfz140_2⟩ := bk3 BK536.out; obtain ⟨hcz141_0, hcz141_1, hcz141_2, hfz141_0, hfz141_1, hfz141_2⟩ := bk3 BK512.out) | (go_at_call 18; (with_reducible refine (spec_MsgLess.calls kj46 t527 t528 t529 t505 t506 t507 false _ A74.out).mono ?_); rintro e w142 ⟨rfl, hb⟩; replace BK512 := am (blk_below (g := gb512) (o := .cells #[.int .i64 t505, .int .i64 t506, .string t507] 27 (0, 0)) (by (with_reducible repeat (first | refine blk_drewN ?_ _ | refine blk_drew ?_ | refine blk_alloc ?_ _)); refine blk_far ?_ NB512_551.out _; (with_reducible repeat (first | refine blk_drewN ?_ _ | refine blk_drew ?_ | refine blk_alloc ?_ _)); refine blk_far ?_ NB512_551.out _; (with_reducible repeat (first | refine blk_drewN ?_ _ | refine blk_drew ?_ | refine blk_alloc ?_ _)); refine blk_far ?_ NB512_551.out _; exact pkK BK512.out) hb); replace BK513 := am (blk_below (g := gb513) (o := .cells #[.int .i64 t508, .int .i64 t509, .int .i64 t510, .string t511] 45 (0, 0)) (by (with_reducible repeat (first | refine blk_drewN ?_ _ | refine blk_drew ?_ | refine blk_alloc ?_ _)); refine blk_far ?_ NB513_551.out _; (with_reducible repeat (first | refine blk_drewN ?_ _ | refine blk_drew ?_ | refine blk_alloc ?_ _)); refine blk_far ?_ NB513_551.out _; (with_reducible repeat (first | refine blk_drewN ?_ _ | refine blk_drew ?_ | refine blk_alloc ?_ _)); refine blk_far ?_ NB513_551.out _; exact pkK BK513.out) hb); replace BK518 := am (blk_below (g := gb518) (o := .cells #[.int .i64 t514, .int .i64 t515, .string t516] 27 (0, 0)) (by (with_reducible repeat (first | refine blk_drewN ?_ _ | refine blk_drew ?_ | refine blk_alloc ?_ _)); refine blk_far ?_ NB518_551.out _; (with_reducible repeat (first | refine blk_drewN ?_ _ | refine blk_drew ?_ | refine blk_alloc ?_ _)); refine blk_far ?_ NB518_551.out _; (with_reducible repeat (first | refine blk_drewN ?_ _ | refine blk_drew ?_ | refine blk_alloc ?_ _)); refine blk_far ?_ NB518_551.out _; exact pkK BK518.out) hb); replace BK523 := am (blk_below (g := gb523) (o := .cells #[.int .i64 t519, .int .i64 t520, .string t521] 27 (0, 0)) (by (with_reducible repeat (first | refine blk_drewN ?_ _ | refine blk_drew ?_ | refine blk_alloc ?_ _)); refine blk_far ?_ NB523_551.out _; (with_reducible repeat (first | refine blk_drewN ?_ _ | refine blk_drew ?_ | refine blk_alloc ?_ _)); refine blk_far ?_ NB523_551.out _; (with_reducible repeat (first | refine blk_drewN ?_ _ | refine blk_drew ?_ | refine blk_alloc ?_ _)); refine blk_far ?_ NB523_551.out _; exact pkK BK523.out) hb); replace BK531 := am (blk_below (g := gb531) (o := .cells #[.int .i64 t527, .int .i64 t528, .string t529] 27 (0, 0)) (by (with_reducible repeat (first | refine blk_drewN ?_ _ | refine blk_drew ?_ | refine blk_alloc ?_ _)); refine blk_far ?_ NB531_551.out _; (with_reducible repeat (first | refine blk_drewN ?_ _ | refine blk_drew ?_ | refine blk_alloc ?_ _)); refine blk_far ?_ NB531_551.out _; (with_reducible repeat (first | refine blk_drewN ?_ _ | refine blk_drew ?_ | refine blk_alloc ?_ _)); refine blk_far ?_ NB531_551.out _; exact pkK BK531.out) hb); replace BK536 := am (blk_below (g := gb536) (o := .cells #[.int .i64 t532, .int .i64 t533, .string t534] 27 (0, 0)) (by (with_reducible repeat (first | refine blk_drewN ?_ _ | refine blk_drew ?_ | refine blk_alloc ?_ _)); refine blk_far ?_ NB536_551.out _; (with_reducible repeat (first | refine blk_drewN ?_ _ | refine blk_drew ?_ | refine blk_alloc ?_ _)); refine blk_far ?_ NB536_551.out _; (with_reducible repeat (first | refine blk_drewN ?_ _ | refine blk_drew ?_ | refine blk_alloc ?_ _)); refine blk_far ?_ NB536_551.out _; exact pkK BK536.out) hb); replace BK541 := am (blk_below (g := gb541) (o := .cells #[.int .i64 t537, .int .i64 t538, .string t539] 27 (0, 0)) (by (with_reducible repeat (first | refine blk_drewN ?_ _ | refine blk_drew ?_ | refine blk_alloc ?_ _)); refine blk_far ?_ NB541_551.out _; (with_reducible repeat (first | refine blk_drewN ?_ _ | refine blk_drew ?_ | refine blk_alloc ?_ _)); refine blk_far ?_ NB541_551.out _; (with_reducible repeat (first | refine blk_drewN ?_ _ | refine blk_drew ?_ | refine blk_alloc ?_ _)); refine blk_far ?_ NB541_551.out _; exact pkK BK541.out) hb); replace BK546 := am (blk_below (g := gb546) (o := .cells #[.int .i64 t542, .int .i64 t543, .string t544] 27 (0, 0)) (by (with_reducible repeat (first | refine blk_drewN ?_ _ | refine blk_drew ?_ | refine blk_alloc ?_ _)); refine blk_far ?_ NB546_551.out _; (with_reducible repeat (first | refine blk_drewN ?_ _ | refine blk_drew ?_ | refine blk_alloc ?_ _)); refine blk_far ?_ NB546_551.out _; (with_reducible repeat (first | refine blk_drewN ?_ _ | refine blk_drew ?_ | refine blk_alloc ?_ _)); refine blk_far ?_ NB546_551.out _; exact pkK BK546.out) hb); replace BK551 := am (blk_below (g := gb551) (o := .cells #[.int .i64 t547, .int .i64 t548, .string t549] 27 (0, 0)) (by (with_reducible repeat (first | refine blk_drewN ?_ _ | refine blk_drew ?_ | refine blk_alloc ?_ _)); refine blk_put (cs := #[.int .i64 t547, .int .i64 t548, .string (⟨#[]⟩ : ByteArray)]) ?_ 2 _ rfl; (with_reducible repeat (first | refine blk_drewN ?_ _ | refine blk_drew ?_ | refine blk_alloc ?_ _)); refine blk_put (cs := #[.int .i64 t547, .int .i64 0, .string (⟨#[]⟩ : ByteArray)]) ?_ 1 _ rfl; (with_reducible repeat (first | refine blk_drewN ?_ _ | refine blk_drew ?_ | refine blk_alloc ?_ _)); refine blk_put (cs := #[.int .i64 0, .int .i64 0, .string (⟨#[]⟩ : ByteArray)]) ?_ 0 _ rfl; exact pkK BK551.out) hb); replace HB := am (below_step (pkW HB.out) hb); (try clear hb); obtain ⟨hcz143_0, hcz143_1, hcz143_2, hfz143_0, hfz143_1, hfz143_2⟩ := bk3 BK541.out; obtain ⟨hcz144_0, hcz144_1, hcz144_2, hfz144_0, hfz144_1, hfz144_2⟩ := bk3 BK546.out; obtain ⟨hcz145_0, hcz145_1, hcz145_2, hfz145_0, hfz145_1, hfz145_2⟩ := bk3 BK551.out; obtain ⟨hcz146_0, hcz146_1, hcz146_2, hcz146_3, hfz146_0, hfz146_1, hfz146_2, hfz146_3⟩ := bk4 BK513.out))
               go_ret
               exact ⟨rfe, pkW HB.out⟩
              ·replace c78 := Bool.eq_false_iff.mpr c78
               subst c78
               replace H : (some false) = some r := by rw [if_neg (show ¬ (false = true) by decide)] at H; exact H
               exact absurd (Option.some.inj H) (by rw [HQ_.out]; simp)
             ·rw [if_neg c77] at H
              have c77b0 : (t537 == t542 && (t538 == t543 && (t539.toList == t544.toList))) = false := by simpa using c77
              (try (have c77b1 : decide (t537 = t542 && (t538 == t543 && (t539.toList == t544.toList))) = false := by simpa using c77))
              (try (have c77b2 : (t537 == t542 && (t538 == t543 && (t539.toList == t544.toList))) = false := by first | exact bq_t c77 | exact bq_f c77 | simpa using c77))
              (try (have c77b3 : ¬ (t537 = t542 && (t538 == t543 && (t539.toList == t544.toList))) := by simpa using c77))
              clear c77
              exact absurd (Option.some.inj H) (by rw [HQ_.out]; simp)
            ·rw [if_neg c76] at H
             have c76b0 : (t540 == t545) = false := by simpa using c76
             (try (have c76b1 : decide (t540 = t545) = false := by simpa using c76))
             (try (have c76b2 : (t540 == t545) = false := by first | exact bq_t c76 | exact bq_f c76 | simpa using c76))
             (try (have c76b3 : ¬ (t540 = t545) := by simpa using c76))
             clear c76
             exact absurd (Option.some.inj H) (by rw [HQ_.out]; simp)
          ·rw [if_neg c73] at H
           have c73b0 : (t527 == t532 && (t528 == t533 && (t529.toList == t534.toList))) = false := by simpa using c73
           (try (have c73b1 : decide (t527 = t532 && (t528 == t533 && (t529.toList == t534.toList))) = false := by simpa using c73))
           (try (have c73b2 : (t527 == t532 && (t528 == t533 && (t529.toList == t534.toList))) = false := by first | exact bq_t c73 | exact bq_f c73 | simpa using c73))
           (try (have c73b3 : ¬ (t527 = t532 && (t528 == t533 && (t529.toList == t534.toList))) := by simpa using c73))
           clear c73
           exact absurd (Option.some.inj H) (by rw [HQ_.out]; simp)
         ·replace c72 := Bool.eq_false_iff.mpr c72
          subst c72
          replace H : (some false) = some r := by rw [if_neg (show ¬ (false = true) by decide)] at H; exact H
          exact absurd (Option.some.inj H) (by rw [HQ_.out]; simp)
        ·replace c71 := Bool.eq_false_iff.mpr c71
         subst c71
         replace H : (some false) = some r := by rw [if_neg (show ¬ (false = true) by decide)] at H; exact H
         exact absurd (Option.some.inj H) (by rw [HQ_.out]; simp)
end Go.Proofs.Ytalehmhjddnmoaa.Z
