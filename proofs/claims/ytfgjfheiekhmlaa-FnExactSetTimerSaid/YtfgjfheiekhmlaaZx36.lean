/- The Go functions laws_FnExactSetTimer as Lean functions, each with a proof that its code comes to just these answers; conditions: those of each theorem. -/
import Derived.Test.YtfgjfheiekhmlaaZx0
import Derived.Test.YtfgjfheiekhmlaaZx2
import Derived.Test.YtfgjfheiekhmlaaZx4
import Derived.Test.YtfgjfheiekhmlaaZx8
import Derived.Test.YtfgjfheiekhmlaaZx12
import Derived.Test.YtfgjfheiekhmlaaZx13
import Derived.Test.YtfgjfheiekhmlaaZx15
import Derived.Test.YtfgjfheiekhmlaaZx29
namespace Go.Proofs.Ytfgjfheiekhmlaa.Z
open Go.RowKit Go.Proofs.YtfgjfheiekhmlaaW.PrintWords Go.Proofs.YtfgjfheiekhmlaaW.PrintLast Go.Proofs.YtfgjfheiekhmlaaW.PrintMore
attribute [local go_sem] max2_int min2_int max_two min_two max_three min_three max_four min_four   -- for this text's walks alone
set_option linter.unusedVariables false
set_option linter.unusedSimpArgs false
mutual
def laws_FnExactSetTimer.j0 : Nat → Int → Int → Int → Int → Bool → Int → List (S68) → Int → List (S46) → Int → List (S46) → Int → List (S46) → Option (Bool)
 | 0, _, _, _, _, _, _, _, _, _, _, _, _, _ => none
 | k + 1, x1, x2, x9, x12, x48, x615000, x615001, x626000, x626001, x631000, x631001, x637000, x637001 => if x48 = true then (some false) else ((laws_toClock.f k x615000 x615001).bind fun bt638 => ((laws_eqClock.f k x631000 x631001 bt638.1 bt638.2).bind fun t642 => (if t642 = true then ((laws_markClock.f k x631000 x631001 1).bind fun bt643 => (if bt643.1 < 0 then (laws_FnExactSetTimer.j1 k x1 x2 x9 true x615000 x615001 x626000 x626001 x637000 x637001) else ((laws_eqClock.f k x637000 x637001 x626000 x626001).bind fun t645 => (if t645 = true then (laws_FnExactSetTimer.j1 k x1 x2 x9 (x12 != x9) x615000 x615001 x626000 x626001 x637000 x637001) else (laws_FnExactSetTimer.j1 k x1 x2 x9 true x615000 x615001 x626000 x626001 x637000 x637001))))) else (some false))))
def laws_FnExactSetTimer.j1 : Nat → Int → Int → Int → Bool → Int → List (S68) → Int → List (S46) → Int → List (S46) → Option (Bool)
 | 0, _, _, _, _, _, _, _, _, _, _ => none
 | k + 1, x1, x2, x9, x69, x615000, x615001, x626000, x626001, x637000, x637001 => if x69 = true then (some false) else ((laws_markClock.f k x637000 x637001 1).bind fun bt646 => ((laws_heldClock.f k x637000 bt646.2 1).bind fun t648 => (if t648 < 0 then (some false) else (if t648 = bt646.1 then ((laws_toClock.f k x615000 x615001).bind fun bt649 => ((impl_SetTimer.f k bt649.1 bt649.2 x1 x2).bind fun bt653 => ((laws_eqClock.f k bt653.1 bt653.2.1 x626000 x626001).bind fun t659 => (if t659 = true then (laws_FnExactSetTimer.j2 k bt646.1 (bt653.2.2 != x9) x637000 bt646.2) else (laws_FnExactSetTimer.j2 k bt646.1 true x637000 bt646.2))))) else (some false)))))
def laws_FnExactSetTimer.j2 : Nat → Int → Bool → Int → List (S46) → Option (Bool)
 | 0, _, _, _, _ => none
 | k + 1, x14, x97, x637000, x637001 => if x97 = true then (some false) else ((laws_heldClock.f k x637000 x637001 1).bind fun t660 => (if t660 < 0 then (some false) else (if t660 = x14 then (some true) else (some false))))
end
def laws_FnExactSetTimer.f (k : Nat) (a0_0 : Int) (l0_1 : List (S68)) (a1 : Int) (a2 : Int) : Option (Bool) := (laws_szClock.f a0_0 l0_1 1048576).bind fun t615 => (if t615 < 0 then (some true) else ((laws_toClock.f k a0_0 l0_1).bind fun bt616 => ((spec_SetTimer.f k bt616.1 bt616.2 a1 a2).bind fun bt620 => ((laws_toClock.f k a0_0 l0_1).bind fun bt626 => ((impl_SetTimer.f k bt626.1 bt626.2 a1 a2).bind fun bt631 => ((laws_eqClock.f k bt631.1 bt631.2.1 bt620.1 bt620.2.1).bind fun t637 => (if t637 = true then (laws_FnExactSetTimer.j0 k a1 a2 bt620.2.2 bt631.2.2 (bt631.2.2 != bt620.2.2) a0_0 l0_1 bt620.1 bt620.2.1 bt626.1 bt626.2 bt631.1 bt631.2.1) else (laws_FnExactSetTimer.j0 k a1 a2 bt620.2.2 bt631.2.2 true a0_0 l0_1 bt620.1 bt620.2.1 bt626.1 bt626.2 bt631.1 bt631.2.1))))))))
theorem laws_FnExactSetTimer.mono_l : ∀ k, (∀ y0 y1 y2 y3 y4 y5 y6 y7 y8 y9 y10 y11 y12, LeO (laws_FnExactSetTimer.j0 k y0 y1 y2 y3 y4 y5 y6 y7 y8 y9 y10 y11 y12) (laws_FnExactSetTimer.j0 (k + 1) y0 y1 y2 y3 y4 y5 y6 y7 y8 y9 y10 y11 y12)) ∧ (∀ y0 y1 y2 y3 y4 y5 y6 y7 y8 y9, LeO (laws_FnExactSetTimer.j1 k y0 y1 y2 y3 y4 y5 y6 y7 y8 y9) (laws_FnExactSetTimer.j1 (k + 1) y0 y1 y2 y3 y4 y5 y6 y7 y8 y9)) ∧ (∀ y0 y1 y2 y3, LeO (laws_FnExactSetTimer.j2 k y0 y1 y2 y3) (laws_FnExactSetTimer.j2 (k + 1) y0 y1 y2 y3))
 | 0 => ⟨fun _ _ _ _ _ _ _ _ _ _ _ _ _ r h => by simp [laws_FnExactSetTimer.j0] at h, fun _ _ _ _ _ _ _ _ _ _ r h => by simp [laws_FnExactSetTimer.j1] at h, fun _ _ _ _ r h => by simp [laws_FnExactSetTimer.j2] at h⟩
 | k + 1 => by
  obtain ⟨ih0, ih1, ih2⟩ := laws_FnExactSetTimer.mono_l k
  refine ⟨?_, ?_, ?_⟩
  ·intro y0 y1 y2 y3 y4 y5 y6 y7 y8 y9 y10 y11 y12
   unfold laws_FnExactSetTimer.j0
   repeat' first
   | (with_reducible exact ih0 _ _ _ _ _ _ _ _ _ _ _ _ _)
   | (with_reducible exact ih1 _ _ _ _ _ _ _ _ _ _)
   | (with_reducible exact ih2 _ _ _ _)
   | (with_reducible exact impl_SetTimer.mono _ _ _ _ _)
   | (with_reducible exact laws_eqClock.mono _ _ _ _ _)
   | (with_reducible exact laws_heldClock.mono _ _ _ _)
   | (with_reducible exact laws_markClock.mono _ _ _ _)
   | (with_reducible exact laws_toClock.mono _ _ _)
   | (with_reducible exact spec_SetTimer.mono _ _ _ _ _)
   | (with_reducible exact LeO.refl _)
   | (with_reducible exact LeO.none _)
   | (with_reducible refine LeO.ite ?_ ?_)
   | (with_reducible refine LeO.bind ?_ (fun _ => ?_))
  ·intro y0 y1 y2 y3 y4 y5 y6 y7 y8 y9
   unfold laws_FnExactSetTimer.j1
   repeat' first
   | (with_reducible exact ih0 _ _ _ _ _ _ _ _ _ _ _ _ _)
   | (with_reducible exact ih1 _ _ _ _ _ _ _ _ _ _)
   | (with_reducible exact ih2 _ _ _ _)
   | (with_reducible exact impl_SetTimer.mono _ _ _ _ _)
   | (with_reducible exact laws_eqClock.mono _ _ _ _ _)
   | (with_reducible exact laws_heldClock.mono _ _ _ _)
   | (with_reducible exact laws_markClock.mono _ _ _ _)
   | (with_reducible exact laws_toClock.mono _ _ _)
   | (with_reducible exact spec_SetTimer.mono _ _ _ _ _)
   | (with_reducible exact LeO.refl _)
   | (with_reducible exact LeO.none _)
   | (with_reducible refine LeO.ite ?_ ?_)
   | (with_reducible refine LeO.bind ?_ (fun _ => ?_))
  ·intro y0 y1 y2 y3
   unfold laws_FnExactSetTimer.j2
   repeat' first
   | (with_reducible exact ih0 _ _ _ _ _ _ _ _ _ _ _ _ _)
   | (with_reducible exact ih1 _ _ _ _ _ _ _ _ _ _)
   | (with_reducible exact ih2 _ _ _ _)
   | (with_reducible exact impl_SetTimer.mono _ _ _ _ _)
   | (with_reducible exact laws_eqClock.mono _ _ _ _ _)
   | (with_reducible exact laws_heldClock.mono _ _ _ _)
   | (with_reducible exact laws_markClock.mono _ _ _ _)
   | (with_reducible exact laws_toClock.mono _ _ _)
   | (with_reducible exact spec_SetTimer.mono _ _ _ _ _)
   | (with_reducible exact LeO.refl _)
   | (with_reducible exact LeO.none _)
   | (with_reducible refine LeO.ite ?_ ?_)
   | (with_reducible refine LeO.bind ?_ (fun _ => ?_))
theorem laws_FnExactSetTimer.mono : ∀ a0 a1 a2 a3 k, LeO (laws_FnExactSetTimer.f k a0 a1 a2 a3) (laws_FnExactSetTimer.f (k + 1) a0 a1 a2 a3) := by
 intro a0 a1 a2 a3 k
 obtain ⟨ih0, ih1, ih2⟩ := laws_FnExactSetTimer.mono_l k
 unfold laws_FnExactSetTimer.f
 repeat' first
   | (with_reducible exact ih0 _ _ _ _ _ _ _ _ _ _ _ _ _)
   | (with_reducible exact ih1 _ _ _ _ _ _ _ _ _ _)
   | (with_reducible exact ih2 _ _ _ _)
   | (with_reducible exact impl_SetTimer.mono _ _ _ _ _)
   | (with_reducible exact laws_eqClock.mono _ _ _ _ _)
   | (with_reducible exact laws_heldClock.mono _ _ _ _)
   | (with_reducible exact laws_markClock.mono _ _ _ _)
   | (with_reducible exact laws_toClock.mono _ _ _)
   | (with_reducible exact spec_SetTimer.mono _ _ _ _ _)
   | (with_reducible exact LeO.refl _)
   | (with_reducible exact LeO.none _)
   | (with_reducible refine LeO.ite ?_ ?_)
   | (with_reducible refine LeO.bind ?_ (fun _ => ?_))
set_option maxHeartbeats 8000000 in
set_option maxRecDepth 100000 in
theorem laws_FnExactSetTimer.calls (k : Nat) (a0_0 : Int) (A0_1 : Option Addr) (c0_1 : Nat) (l0_1 : List (S68)) (a1 : Int) (a2 : Int) (r : Bool) (w : World) (hr0_1 : Kd.C k68 w A0_1 l0_1.length l0_1) (hc0_1 : l0_1.length ≤ c0_1) (HQ_ : Aside0 (r = true)) (h : laws_FnExactSetTimer.f k a0_0 l0_1 a1 a2 = some r) :
  Calls Try.prog 7 #[.agg #[.int .i64 a0_0, .slice A0_1 l0_1.length c0_1], .int .i64 a1, .int .i64 a2] w fun e w' => e = .returned (.bool r) ∧ Below w.heap.size w w' := by
 have hu24 := Try.underlying24
 have hu29 := Try.underlying29
 have HR0_1 := am hr0_1
 have HC0_1 := am hc0_1
 clear hr0_1 hc0_1
 have HB := am (Below.refl w.heap.size w)
 have H : ((laws_szClock.f a0_0 l0_1 1048576).bind fun t615 => (if t615 < 0 then (some true) else ((laws_toClock.f k a0_0 l0_1).bind fun bt616 => ((spec_SetTimer.f k bt616.1 bt616.2 a1 a2).bind fun bt620 => ((laws_toClock.f k a0_0 l0_1).bind fun bt626 => ((impl_SetTimer.f k bt626.1 bt626.2 a1 a2).bind fun bt631 => ((laws_eqClock.f k bt631.1 bt631.2.1 bt620.1 bt620.2.1).bind fun t637 => (if t637 = true then (laws_FnExactSetTimer.j0 k a1 a2 bt620.2.2 bt631.2.2 (bt631.2.2 != bt620.2.2) a0_0 l0_1 bt620.1 bt620.2.1 bt626.1 bt626.2 bt631.1 bt631.2.1) else (laws_FnExactSetTimer.j0 k a1 a2 bt620.2.2 bt631.2.2 true a0_0 l0_1 bt620.1 bt620.2.1 bt626.1 bt626.2 bt631.1 bt631.2.1))))))))) = some r := h
 clear h
 replace H := Option.bind_eq_some_iff.mp H
 obtain ⟨t615, A40, H⟩ := H
 replace H : (if t615 < 0 then (some true) else ((laws_toClock.f k a0_0 l0_1).bind fun bt616 => ((spec_SetTimer.f k bt616.1 bt616.2 a1 a2).bind fun bt620 => ((laws_toClock.f k a0_0 l0_1).bind fun bt626 => ((impl_SetTimer.f k bt626.1 bt626.2 a1 a2).bind fun bt631 => ((laws_eqClock.f k bt631.1 bt631.2.1 bt620.1 bt620.2.1).bind fun t637 => (if t637 = true then (laws_FnExactSetTimer.j0 k a1 a2 bt620.2.2 bt631.2.2 (bt631.2.2 != bt620.2.2) a0_0 l0_1 bt620.1 bt620.2.1 bt626.1 bt626.2 bt631.1 bt631.2.1) else (laws_FnExactSetTimer.j0 k a1 a2 bt620.2.2 bt631.2.2 true a0_0 l0_1 bt620.1 bt620.2.1 bt626.1 bt626.2 bt631.1 bt631.2.1)))))))) = some r := H
 have A4 := am A40
 clear A40
 by_cases c5 : t615 < 0
 ·rw [if_pos c5] at H
  have c5b0 : decide (t615 < 0) = true := decide_eq_true c5
  clear c5
  obtain rfl := Option.some.inj H
  go_enter Try.func7, Try.ntmps7
  go_wp2_with (first | ((with_reducible refine gate_dst (N := 3) rfl ?_); refine box_event ?hg (N := 3) ?hd (cs := #[.int .i64 a0_0, .slice A0_1 l0_1.length c0_1]) (t := 24) ?hr ?_; (case hd => rfl); (case hg => rfl); (case hr => first | (go_simp; done) | (go_simp; rfl)); intro gb614 hg w6 hbox hb; have BK614 := am (hbox); have GW614 := am ((by rw [hg]; exact (below_size (pkB HB.out)) : w.heap.size ≤ gb614)); have GE614 := am ((by rw [hg]; exact (below_size (pkB HB.out)) : w.heap.size ≤ gb614)); replace HB := am (below_step (pkB HB.out) hb); clear hb hbox hg; obtain ⟨hcz7_0, hcz7_1, hfz7_0, hfz7_1⟩ := bk2 BK614.out) | ((with_reducible refine gate_callee (f := 9) rfl ?_); refine goesL_ (some 20) rfl rfl Try.func9 (by kernel_rfl) rfl #[.agg #[.int .i64 a0_0, .slice A0_1 l0_1.length c0_1], .int .i64 1048576] rfl mpx ?_; (with_reducible refine (laws_szClock.calls a0_0 _ _ l0_1 1048576 t615 _ ?side1 ?side2 A4.out).mono ?_); (case side1 => exact pkC (Kd.C_below HR0_1.out HB.out)); (case side2 => exact HC0_1.out); rintro e w8 ⟨rfl, hb⟩; refine ⟨_, rfl, ?_⟩; replace BK614 := am (blk_below (pkK BK614.out) hb); replace HB := am (below_step (pkW HB.out) hb); (try clear hb)))
  go_ret
  exact ⟨rfe, pkW HB.out⟩
 ·rw [if_neg c5] at H
  have c5b0 : decide (t615 < 0) = false := decide_eq_false c5
  clear c5
  replace H := Option.bind_eq_some_iff.mp H
  obtain ⟨⟨t616, t617⟩, A90, H⟩ := H
  replace H : ((spec_SetTimer.f k t616 t617 a1 a2).bind fun bt620 => ((laws_toClock.f k a0_0 l0_1).bind fun bt626 => ((impl_SetTimer.f k bt626.1 bt626.2 a1 a2).bind fun bt631 => ((laws_eqClock.f k bt631.1 bt631.2.1 bt620.1 bt620.2.1).bind fun t637 => (if t637 = true then (laws_FnExactSetTimer.j0 k a1 a2 bt620.2.2 bt631.2.2 (bt631.2.2 != bt620.2.2) a0_0 l0_1 bt620.1 bt620.2.1 bt626.1 bt626.2 bt631.1 bt631.2.1) else (laws_FnExactSetTimer.j0 k a1 a2 bt620.2.2 bt631.2.2 true a0_0 l0_1 bt620.1 bt620.2.1 bt626.1 bt626.2 bt631.1 bt631.2.1)))))) = some r := H
  have A9 := am A90
  clear A90
  replace H := Option.bind_eq_some_iff.mp H
  obtain ⟨⟨t620, t621, t624⟩, A100, H⟩ := H
  replace H : ((laws_toClock.f k a0_0 l0_1).bind fun bt626 => ((impl_SetTimer.f k bt626.1 bt626.2 a1 a2).bind fun bt631 => ((laws_eqClock.f k bt631.1 bt631.2.1 t620 t621).bind fun t637 => (if t637 = true then (laws_FnExactSetTimer.j0 k a1 a2 t624 bt631.2.2 (bt631.2.2 != t624) a0_0 l0_1 t620 t621 bt626.1 bt626.2 bt631.1 bt631.2.1) else (laws_FnExactSetTimer.j0 k a1 a2 t624 bt631.2.2 true a0_0 l0_1 t620 t621 bt626.1 bt626.2 bt631.1 bt631.2.1))))) = some r := H
  have A10 := am A100
  clear A100
  replace H := Option.bind_eq_some_iff.mp H
  obtain ⟨⟨t626, t627⟩, A110, H⟩ := H
  replace H : ((impl_SetTimer.f k t626 t627 a1 a2).bind fun bt631 => ((laws_eqClock.f k bt631.1 bt631.2.1 t620 t621).bind fun t637 => (if t637 = true then (laws_FnExactSetTimer.j0 k a1 a2 t624 bt631.2.2 (bt631.2.2 != t624) a0_0 l0_1 t620 t621 t626 t627 bt631.1 bt631.2.1) else (laws_FnExactSetTimer.j0 k a1 a2 t624 bt631.2.2 true a0_0 l0_1 t620 t621 t626 t627 bt631.1 bt631.2.1)))) = some r := H
  have A11 := am A110
  clear A110
  replace H := Option.bind_eq_some_iff.mp H
  obtain ⟨⟨t631, t632, t635⟩, A120, H⟩ := H
  replace H : ((laws_eqClock.f k t631 t632 t620 t621).bind fun t637 => (if t637 = true then (laws_FnExactSetTimer.j0 k a1 a2 t624 t635 (t635 != t624) a0_0 l0_1 t620 t621 t626 t627 t631 t632) else (laws_FnExactSetTimer.j0 k a1 a2 t624 t635 true a0_0 l0_1 t620 t621 t626 t627 t631 t632))) = some r := H
  have A12 := am A120
  clear A120
  have HC13 := am H
  clear H
  go_enter Try.func7, Try.ntmps7
  go_upto_region 8 with (first | ((with_reducible refine gate_dst (N := 3) rfl ?_); refine box_event ?hg (N := 3) ?hd (cs := #[.int .i64 a0_0, .slice A0_1 l0_1.length c0_1]) (t := 24) ?hr ?_; (case hd => rfl); (case hg => rfl); (case hr => first | (go_simp; done) | (go_simp; rfl)); intro gb614 hg w14 hbox hb; have BK614 := am (hbox); have GW614 := am ((by rw [hg]; exact (below_size (pkB HB.out)) : w.heap.size ≤ gb614)); have GE614 := am ((by rw [hg]; exact (below_size (pkB HB.out)) : w.heap.size ≤ gb614)); replace HB := am (below_step (pkB HB.out) hb); clear hb hbox hg; obtain ⟨hcz15_0, hcz15_1, hfz15_0, hfz15_1⟩ := bk2 BK614.out) | ((with_reducible refine gate_callee (f := 9) rfl ?_); refine goesL_ (some 20) rfl rfl Try.func9 (by kernel_rfl) rfl #[.agg #[.int .i64 a0_0, .slice A0_1 l0_1.length c0_1], .int .i64 1048576] rfl mpx ?_; (with_reducible refine (laws_szClock.calls a0_0 _ _ l0_1 1048576 t615 _ ?side1 ?side2 A4.out).mono ?_); (case side1 => exact pkC (Kd.C_below HR0_1.out HB.out)); (case side2 => exact HC0_1.out); rintro e w16 ⟨rfl, hb⟩; refine ⟨_, rfl, ?_⟩; replace BK614 := am (blk_below (pkK BK614.out) hb); replace HB := am (below_step (pkW HB.out) hb); (try clear hb); obtain ⟨hcz17_0, hcz17_1, hfz17_0, hfz17_1⟩ := bk2 BK614.out) | ((with_reducible refine gate_callee (f := 11) rfl ?_); refine goesL_ (some 25) rfl rfl Try.func11 (by kernel_rfl) rfl #[.agg #[.int .i64 a0_0, .slice A0_1 l0_1.length c0_1]] rfl mpx ?_; (with_reducible refine (laws_toClock.calls k a0_0 _ _ l0_1 t616 t617 _ ?side1 ?side2 A9.out).mono ?_); (case side1 => exact pkC (Kd.C_below HR0_1.out HB.out)); (case side2 => exact HC0_1.out); rintro e w18 ⟨v618, rfl, ho0, hb⟩; refine ⟨_, rfl, ?_⟩; have HO619 := am (Kd.R_lower ho0 (below_size (pkW HB.out))); replace BK614 := am (blk_below (pkK BK614.out) hb); replace HB := am (below_step (pkW HB.out) hb); (try clear hb ho0); obtain ⟨Ao19, co19, eo19⟩ := Kd.R_slice HO619.out; subst eo19) | ((with_reducible refine gate_callee (f := 28) rfl ?_); refine goesL_ (some 28) rfl rfl Try.func28 (by kernel_rfl) rfl #[.agg #[.int .i64 t616, .slice Ao19 t617.length co19], .int .i64 a1, .int .i64 a2] rfl mpx ?_; (with_reducible refine (spec_SetTimer.calls k t616 _ _ t617 a1 a2 t620 t621 t624 _ ?side1 ?side2 A10.out).mono ?_); (case side1 => exact pkC (Kd.R_reads' HO619.out).2.2); (case side2 => exact (Kd.R_reads' HO619.out).2.1); rintro e w20 ⟨v622, rfl, ho0, hb⟩; refine ⟨_, rfl, ?_⟩; have HO623 := am (Kd.R_lower (Kd.R_new' ho0 (Kd.R_lt (pkR HO619.out))) (below_size (pkW HB.out))); replace HO619 := am (Kd.R_elder' (pkR HO619.out) (Kd.R_base ho0) hb); replace BK614 := am (blk_below (pkK BK614.out) hb); replace HB := am (below_step (pkW HB.out) hb); (try clear hb ho0)) | ((with_reducible refine gate_dst (N := 8) rfl ?_); refine box_event ?hg (N := 8) ?hd (cs := #[.int .i64 0, .slice none 0 0]) (t := 29) ?hr ?_; (case hd => rfl); (case hg => rfl); (case hr => first | (go_simp; done) | (go_simp; rfl)); intro gb625 hg w21 hbox hb; replace HO619 := am (Kd.R_below (pkR HO619.out) hb); replace HO623 := am (Kd.R_below (pkR HO623.out) hb); have BK625 := am (hbox); have GW625 := am ((by rw [hg]; exact (below_size (pkW HB.out)) : w.heap.size ≤ gb625)); have GE625 := am ((by rw [hg]; exact (below_size (pkW HB.out)) : w.heap.size ≤ gb625)); replace HB := am (below_step (pkW HB.out) hb); have NB614_625 := am ((by rw [hg]; exact Nat.ne_of_lt (blk_lt (g := gb614) (o := .cells #[.int .i64 a0_0, .slice A0_1 l0_1.length c0_1] 24 (0, 0)) (pkK BK614.out)) : gb614 ≠ gb625)); have NB625_614 := am ((by rw [hg]; exact Nat.ne_of_gt (blk_lt (g := gb614) (o := .cells #[.int .i64 a0_0, .slice A0_1 l0_1.length c0_1] 24 (0, 0)) (pkK BK614.out)) : gb625 ≠ gb614)); replace BK614 := am (blk_below (pkK BK614.out) hb); clear hb hbox hg; have hnb22 := NB625_614.out; have hnc22 := NB614_625.out; obtain ⟨hcz23_0, hcz23_1, hfz23_0, hfz23_1⟩ := bk2 BK625.out; obtain ⟨Ao24, co24, eo24⟩ := Kd.R_slice HO623.out; subst eo24; obtain ⟨hcz25_0, hcz25_1, hfz25_0, hfz25_1⟩ := bk2 BK614.out) | ((with_reducible refine gate_callee (f := 11) rfl ?_); refine goesL_ (some 32) rfl rfl Try.func11 (by kernel_rfl) rfl #[.agg #[.int .i64 a0_0, .slice A0_1 l0_1.length c0_1]] rfl mpx ?_; (with_reducible refine (laws_toClock.calls k a0_0 _ _ l0_1 t626 t627 _ ?side1 ?side2 A11.out).mono ?_); (case side1 => exact Kd.C_below HR0_1.out (pkW HB.out)); (case side2 => exact HC0_1.out); rintro e w26 ⟨v628, rfl, ho0, hb⟩; refine ⟨_, rfl, ?_⟩; have HO629 := am (Kd.R_lower (Kd.R_new' (Kd.R_new' ho0 (Kd.R_lt (by (with_reducible repeat (first | apply Kd.R_alloc | apply Kd.R_drewN | apply Kd.R_drew)); exact (Kd.R_mono (Kd.R_far (p := ⟨gb625, 1, none⟩) (Kd.R_far (p := ⟨gb625, 0, none⟩) (Kd.R_types HO619.out BK625.out (by decide)) (fun _ hk => hk.2) (.int .i64 t620)) (fun _ hk => hk.2) (.slice Ao24 t621.length co24)) (fun _ h_ => h_.1))))) (Kd.R_lt (by (with_reducible repeat (first | apply Kd.R_alloc | apply Kd.R_drewN | apply Kd.R_drew)); exact (Kd.R_mono (Kd.R_far (p := ⟨gb625, 1, none⟩) (Kd.R_far (p := ⟨gb625, 0, none⟩) (Kd.R_types HO623.out BK625.out (by decide)) (fun _ hk => hk.2) (.int .i64 t620)) (fun _ hk => hk.2) (.slice Ao24 t621.length co24)) (fun _ h_ => h_.1))))) (below_size (pkW HB.out))); replace HO619 := am (Kd.R_elder' (by (with_reducible repeat (first | apply Kd.R_alloc | apply Kd.R_drewN | apply Kd.R_drew)); exact (Kd.R_mono (Kd.R_far (p := ⟨gb625, 1, none⟩) (Kd.R_far (p := ⟨gb625, 0, none⟩) (Kd.R_types HO619.out BK625.out (by decide)) (fun _ hk => hk.2) (.int .i64 t620)) (fun _ hk => hk.2) (.slice Ao24 t621.length co24)) (fun _ h_ => h_.1))) (Kd.R_base ho0) hb); replace HO623 := am (Kd.R_elder' (by (with_reducible repeat (first | apply Kd.R_alloc | apply Kd.R_drewN | apply Kd.R_drew)); exact (Kd.R_mono (Kd.R_far (p := ⟨gb625, 1, none⟩) (Kd.R_far (p := ⟨gb625, 0, none⟩) (Kd.R_types HO623.out BK625.out (by decide)) (fun _ hk => hk.2) (.int .i64 t620)) (fun _ hk => hk.2) (.slice Ao24 t621.length co24)) (fun _ h_ => h_.1))) (Kd.R_base ho0) hb); replace BK614 := am (blk_below (g := gb614) (o := .cells #[.int .i64 a0_0, .slice A0_1 l0_1.length c0_1] 24 (0, 0)) (by (with_reducible repeat (first | refine blk_drewN ?_ _ | refine blk_drew ?_ | refine blk_alloc ?_ _)); refine blk_far ?_ NB614_625.out _; (with_reducible repeat (first | refine blk_drewN ?_ _ | refine blk_drew ?_ | refine blk_alloc ?_ _)); refine blk_far ?_ NB614_625.out _; exact pkK BK614.out) hb); replace BK625 := am (blk_below (g := gb625) (o := .cells #[.int .i64 t620, .slice Ao24 t621.length co24] 29 (0, 0)) (by (with_reducible repeat (first | refine blk_drewN ?_ _ | refine blk_drew ?_ | refine blk_alloc ?_ _)); refine blk_put (cs := #[.int .i64 t620, .slice none 0 0]) ?_ 1 _ rfl; (with_reducible repeat (first | refine blk_drewN ?_ _ | refine blk_drew ?_ | refine blk_alloc ?_ _)); refine blk_put (cs := #[.int .i64 0, .slice none 0 0]) ?_ 0 _ rfl; exact pkK BK625.out) hb); replace HB := am (below_step (pkW HB.out) hb); (try clear hb ho0)) | ((with_reducible refine gate_dst (N := 10) rfl ?_); refine box_event ?hg (N := 10) ?hd (cs := #[.int .i64 0, .slice none 0 0]) (t := 29) ?hr ?_; (case hd => rfl); (case hg => rfl); (case hr => first | (go_simp; done) | (go_simp; rfl)); intro gb630 hg w27 hbox hb; replace HO619 := am (Kd.R_below (pkR HO619.out) hb); replace HO623 := am (Kd.R_below (pkR HO623.out) hb); replace HO629 := am (Kd.R_below (pkR HO629.out) hb); have BK630 := am (hbox); have GW630 := am ((by rw [hg]; exact (below_size (pkW HB.out)) : w.heap.size ≤ gb630)); have GE630 := am ((by rw [hg]; exact (below_size (pkW HB.out)) : w.heap.size ≤ gb630)); replace HB := am (below_step (pkW HB.out) hb); have NB614_630 := am ((by rw [hg]; exact Nat.ne_of_lt (blk_lt (g := gb614) (o := .cells #[.int .i64 a0_0, .slice A0_1 l0_1.length c0_1] 24 (0, 0)) (pkK BK614.out)) : gb614 ≠ gb630)); have NB630_614 := am ((by rw [hg]; exact Nat.ne_of_gt (blk_lt (g := gb614) (o := .cells #[.int .i64 a0_0, .slice A0_1 l0_1.length c0_1] 24 (0, 0)) (pkK BK614.out)) : gb630 ≠ gb614)); replace BK614 := am (blk_below (pkK BK614.out) hb); have NB625_630 := am ((by rw [hg]; exact Nat.ne_of_lt (blk_lt (g := gb625) (o := .cells #[.int .i64 t620, .slice Ao24 t621.length co24] 29 (0, 0)) (pkK BK625.out)) : gb625 ≠ gb630)); have NB630_625 := am ((by rw [hg]; exact Nat.ne_of_gt (blk_lt (g := gb625) (o := .cells #[.int .i64 t620, .slice Ao24 t621.length co24] 29 (0, 0)) (pkK BK625.out)) : gb630 ≠ gb625)); replace BK625 := am (blk_below (pkK BK625.out) hb); clear hb hbox hg; have hnb28 := NB630_614.out; have hnc28 := NB614_630.out; have hnb29 := NB630_625.out; have hnc29 := NB625_630.out; obtain ⟨hcz30_0, hcz30_1, hfz30_0, hfz30_1⟩ := bk2 BK630.out; obtain ⟨Ao31, co31, eo31⟩ := Kd.R_slice HO629.out; subst eo31) | ((with_reducible refine gate_callee (f := 29) rfl ?_); refine goesL_ (some 37) rfl rfl Try.func29 (by kernel_rfl) rfl #[.agg #[.int .i64 t626, .slice Ao31 t627.length co31], .int .i64 a1, .int .i64 a2] rfl mpx ?_; (with_reducible refine (impl_SetTimer.calls k t626 _ _ t627 a1 a2 t631 t632 t635 _ ?side1 ?side2 A12.out).mono ?_); (case side1 => refine (Kd.R_reads' (e := 46) (base := w.heap.size) (ok := fun k_ => ((True ∧ some k_ ≠ (.slice Ao19 t617.length co19 : Value).ownBlock) ∧ some k_ ≠ (.slice Ao24 t621.length co24 : Value).ownBlock)) (n := t627.length) (c := co31) ?_).2.2; exact (by (with_reducible repeat (first | apply Kd.R_alloc | apply Kd.R_drewN | apply Kd.R_drew)); exact (Kd.R_mono (Kd.R_far (p := ⟨gb630, 1, none⟩) (Kd.R_far (p := ⟨gb630, 0, none⟩) (Kd.R_types HO629.out BK630.out (by decide)) (fun _ hk => hk.2) (.int .i64 t626)) (fun _ hk => hk.2) (.slice Ao31 t627.length co31)) (fun _ h_ => h_.1)))); (case side2 => exact (Kd.R_reads' HO629.out).2.1); rintro e w32 ⟨v633, rfl, ho0, hb⟩; refine ⟨_, rfl, ?_⟩; have HO634 := am (Kd.R_lower (Kd.R_new' (Kd.R_new' (Kd.R_new' ho0 (Kd.R_lt (by (with_reducible repeat (first | apply Kd.R_alloc | apply Kd.R_drewN | apply Kd.R_drew)); exact (Kd.R_mono (Kd.R_far (p := ⟨gb630, 1, none⟩) (Kd.R_far (p := ⟨gb630, 0, none⟩) (Kd.R_types HO619.out BK630.out (by decide)) (fun _ hk => hk.2) (.int .i64 t626)) (fun _ hk => hk.2) (.slice Ao31 t627.length co31)) (fun _ h_ => h_.1))))) (Kd.R_lt (by (with_reducible repeat (first | apply Kd.R_alloc | apply Kd.R_drewN | apply Kd.R_drew)); exact (Kd.R_mono (Kd.R_far (p := ⟨gb630, 1, none⟩) (Kd.R_far (p := ⟨gb630, 0, none⟩) (Kd.R_types HO623.out BK630.out (by decide)) (fun _ hk => hk.2) (.int .i64 t626)) (fun _ hk => hk.2) (.slice Ao31 t627.length co31)) (fun _ h_ => h_.1))))) (Kd.R_lt (by (with_reducible repeat (first | apply Kd.R_alloc | apply Kd.R_drewN | apply Kd.R_drew)); exact (Kd.R_mono (Kd.R_far (p := ⟨gb630, 1, none⟩) (Kd.R_far (p := ⟨gb630, 0, none⟩) (Kd.R_types HO629.out BK630.out (by decide)) (fun _ hk => hk.2) (.int .i64 t626)) (fun _ hk => hk.2) (.slice Ao31 t627.length co31)) (fun _ h_ => h_.1))))) (below_size (pkW HB.out))); replace HO619 := am (Kd.R_elder' (by (with_reducible repeat (first | apply Kd.R_alloc | apply Kd.R_drewN | apply Kd.R_drew)); exact (Kd.R_mono (Kd.R_far (p := ⟨gb630, 1, none⟩) (Kd.R_far (p := ⟨gb630, 0, none⟩) (Kd.R_types HO619.out BK630.out (by decide)) (fun _ hk => hk.2) (.int .i64 t626)) (fun _ hk => hk.2) (.slice Ao31 t627.length co31)) (fun _ h_ => h_.1))) (Kd.R_base ho0) hb); replace HO623 := am (Kd.R_elder' (by (with_reducible repeat (first | apply Kd.R_alloc | apply Kd.R_drewN | apply Kd.R_drew)); exact (Kd.R_mono (Kd.R_far (p := ⟨gb630, 1, none⟩) (Kd.R_far (p := ⟨gb630, 0, none⟩) (Kd.R_types HO623.out BK630.out (by decide)) (fun _ hk => hk.2) (.int .i64 t626)) (fun _ hk => hk.2) (.slice Ao31 t627.length co31)) (fun _ h_ => h_.1))) (Kd.R_base ho0) hb); replace HO629 := am (Kd.R_elder' (by (with_reducible repeat (first | apply Kd.R_alloc | apply Kd.R_drewN | apply Kd.R_drew)); exact (Kd.R_mono (Kd.R_far (p := ⟨gb630, 1, none⟩) (Kd.R_far (p := ⟨gb630, 0, none⟩) (Kd.R_types HO629.out BK630.out (by decide)) (fun _ hk => hk.2) (.int .i64 t626)) (fun _ hk => hk.2) (.slice Ao31 t627.length co31)) (fun _ h_ => h_.1))) (Kd.R_base ho0) hb); replace BK614 := am (blk_below (g := gb614) (o := .cells #[.int .i64 a0_0, .slice A0_1 l0_1.length c0_1] 24 (0, 0)) (by (with_reducible repeat (first | refine blk_drewN ?_ _ | refine blk_drew ?_ | refine blk_alloc ?_ _)); refine blk_far ?_ NB614_630.out _; (with_reducible repeat (first | refine blk_drewN ?_ _ | refine blk_drew ?_ | refine blk_alloc ?_ _)); refine blk_far ?_ NB614_630.out _; exact pkK BK614.out) hb); replace BK625 := am (blk_below (g := gb625) (o := .cells #[.int .i64 t620, .slice Ao24 t621.length co24] 29 (0, 0)) (by (with_reducible repeat (first | refine blk_drewN ?_ _ | refine blk_drew ?_ | refine blk_alloc ?_ _)); refine blk_far ?_ NB625_630.out _; (with_reducible repeat (first | refine blk_drewN ?_ _ | refine blk_drew ?_ | refine blk_alloc ?_ _)); refine blk_far ?_ NB625_630.out _; exact pkK BK625.out) hb); replace BK630 := am (blk_below (g := gb630) (o := .cells #[.int .i64 t626, .slice Ao31 t627.length co31] 29 (0, 0)) (by (with_reducible repeat (first | refine blk_drewN ?_ _ | refine blk_drew ?_ | refine blk_alloc ?_ _)); refine blk_put (cs := #[.int .i64 t626, .slice none 0 0]) ?_ 1 _ rfl; (with_reducible repeat (first | refine blk_drewN ?_ _ | refine blk_drew ?_ | refine blk_alloc ?_ _)); refine blk_put (cs := #[.int .i64 0, .slice none 0 0]) ?_ 0 _ rfl; exact pkK BK630.out) hb); replace HB := am (below_step (pkW HB.out) hb); (try clear hb ho0)) | ((with_reducible refine gate_dst (N := 11) rfl ?_); refine box_event ?hg (N := 11) ?hd (cs := #[.int .i64 0, .slice none 0 0]) (t := 29) ?hr ?_; (case hd => rfl); (case hg => rfl); (case hr => first | (go_simp; done) | (go_simp; rfl)); intro gb636 hg w33 hbox hb; replace HO619 := am (Kd.R_below (pkR HO619.out) hb); replace HO623 := am (Kd.R_below (pkR HO623.out) hb); replace HO629 := am (Kd.R_below (pkR HO629.out) hb); replace HO634 := am (Kd.R_below (pkR HO634.out) hb); have BK636 := am (hbox); have GW636 := am ((by rw [hg]; exact (below_size (pkW HB.out)) : w.heap.size ≤ gb636)); have GE636 := am ((by rw [hg]; exact (below_size (pkW HB.out)) : w.heap.size ≤ gb636)); replace HB := am (below_step (pkW HB.out) hb); have NB614_636 := am ((by rw [hg]; exact Nat.ne_of_lt (blk_lt (g := gb614) (o := .cells #[.int .i64 a0_0, .slice A0_1 l0_1.length c0_1] 24 (0, 0)) (pkK BK614.out)) : gb614 ≠ gb636)); have NB636_614 := am ((by rw [hg]; exact Nat.ne_of_gt (blk_lt (g := gb614) (o := .cells #[.int .i64 a0_0, .slice A0_1 l0_1.length c0_1] 24 (0, 0)) (pkK BK614.out)) : gb636 ≠ gb614)); replace BK614 := am (blk_below (pkK BK614.out) hb); have NB625_636 := am ((by rw [hg]; exact Nat.ne_of_lt (blk_lt (g := gb625) (o := .cells #[.int .i64 t620, .slice Ao24 t621.length co24] 29 (0, 0)) (pkK BK625.out)) : gb625 ≠ gb636)); have NB636_625 := am ((by rw [hg]; exact Nat.ne_of_gt (blk_lt (g := gb625) (o := .cells #[.int .i64 t620, .slice Ao24 t621.length co24] 29 (0, 0)) (pkK BK625.out)) : gb636 ≠ gb625)); replace BK625 := am (blk_below (pkK BK625.out) hb); have NB630_636 := am ((by rw [hg]; exact Nat.ne_of_lt (blk_lt (g := gb630) (o := .cells #[.int .i64 t626, .slice Ao31 t627.length co31] 29 (0, 0)) (pkK BK630.out)) : gb630 ≠ gb636)); have NB636_630 := am ((by rw [hg]; exact Nat.ne_of_gt (blk_lt (g := gb630) (o := .cells #[.int .i64 t626, .slice Ao31 t627.length co31] 29 (0, 0)) (pkK BK630.out)) : gb636 ≠ gb630)); replace BK630 := am (blk_below (pkK BK630.out) hb); clear hb hbox hg; have hnb34 := NB636_614.out; have hnc34 := NB614_636.out; have hnb35 := NB636_625.out; have hnc35 := NB625_636.out; have hnb36 := NB636_630.out; have hnc36 := NB630_636.out; obtain ⟨hcz37_0, hcz37_1, hfz37_0, hfz37_1⟩ := bk2 BK636.out; obtain ⟨Ao38, co38, eo38⟩ := Kd.R_slice HO634.out; subst eo38))
  (try simp only [Act.put, List.setIfInBounds_toArray, List.set_cons_zero, List.set_cons_succ])
  go_cut [48] (fun v48 wc => ∃ (kq : Nat) (x48_12 : Bool), v48 = .bool x48_12 ∧ Aside0 (laws_FnExactSetTimer.j0 kq a1 a2 t624 t635 x48_12 a0_0 l0_1 t620 t621 t626 t627 t631 t632 = some r) ∧ Aside0 (kq ≤ k) ∧ Aside0 (Kd.R k46 46 wc w.heap.size (fun k_ => some k_ ≠ ((.slice Ao31 t627.length co31) : Value).ownBlock ∧ some k_ ≠ ((.slice Ao38 t632.length co38) : Value).ownBlock) (.slice Ao24 t621.length co24) t621) ∧ Aside0 (Kd.Q k46 46 wc w.heap.size (fun k_ => some k_ ≠ ((.slice Ao24 t621.length co24) : Value).ownBlock ∧ some k_ ≠ ((.slice Ao38 t632.length co38) : Value).ownBlock) (.slice Ao31 t627.length co31) t627) ∧ Aside0 (Kd.Q k46 46 wc w.heap.size (fun k_ => some k_ ≠ ((.slice Ao24 t621.length co24) : Value).ownBlock ∧ some k_ ≠ ((.slice Ao31 t627.length co31) : Value).ownBlock) (.slice Ao38 t632.length co38) t632) ∧ Aside0 (wc.heap[gb614]? = some (.cells #[.int .i64 a0_0, (.slice A0_1 l0_1.length c0_1)] 24 (0, 0))) ∧ Aside0 (wc.heap[gb625]? = some (.cells #[.int .i64 t620, (.slice Ao24 t621.length co24)] 29 (0, 0))) ∧ Aside0 (wc.heap[gb630]? = some (.cells #[.int .i64 t626, (.slice Ao31 t627.length co31)] 29 (0, 0))) ∧ Aside0 (wc.heap[gb636]? = some (.cells #[.int .i64 t631, (.slice Ao38 t632.length co38)] 29 (0, 0))) ∧ Aside0 (Below w.heap.size w wc))
  case first =>
   have H := HC13.out
   clear HC13
   replace H := Option.bind_eq_some_iff.mp H
   obtain ⟨t637, A390, H⟩ := H
   replace H : (if t637 = true then (laws_FnExactSetTimer.j0 k a1 a2 t624 t635 (t635 != t624) a0_0 l0_1 t620 t621 t626 t627 t631 t632) else (laws_FnExactSetTimer.j0 k a1 a2 t624 t635 true a0_0 l0_1 t620 t621 t626 t627 t631 t632)) = some r := H
   have A39 := am A390
   clear A390
   by_cases c40 : t637 = true
   ·subst c40
    replace H : (laws_FnExactSetTimer.j0 k a1 a2 t624 t635 (t635 != t624) a0_0 l0_1 t620 t621 t626 t627 t631 t632) = some r := by rw [if_pos rfl] at H; exact H
    have H' := am H
    clear H
    have hnb41 := NB636_614.out
    have hnc41 := NB614_636.out
    have hnb42 := NB636_625.out
    have hnc42 := NB625_636.out
    have hnb43 := NB636_630.out
    have hnc43 := NB630_636.out
    obtain ⟨hcz44_0, hcz44_1, hfz44_0, hfz44_1⟩ := bk2 BK636.out
    have hnb45 := NB625_614.out
    have hnc45 := NB614_625.out
    have hnb46 := NB625_630.out
    have hnc46 := NB630_625.out
    obtain ⟨hcz47_0, hcz47_1, hfz47_0, hfz47_1⟩ := bk2 BK625.out
    go_wp2_with (first | ((with_reducible refine gate_callee (f := 13) rfl ?_); refine goesL_ (some 42) rfl rfl Try.func13 (by kernel_rfl) rfl #[.agg #[.int .i64 t631, .slice Ao38 t632.length co38], .agg #[.int .i64 t620, .slice Ao24 t621.length co24]] rfl mpx ?_; (with_reducible refine (laws_eqClock.calls k t631 _ _ t632 t620 _ _ t621 true _ ?side1 ?side2 ?side3 ?side4 A39.out).mono ?_); (case side1 => refine (Kd.R_reads' (e := 46) (base := w.heap.size) (ok := fun k_ => (((True ∧ some k_ ≠ (.slice Ao19 t617.length co19 : Value).ownBlock) ∧ some k_ ≠ (.slice Ao24 t621.length co24 : Value).ownBlock) ∧ some k_ ≠ (.slice Ao31 t627.length co31 : Value).ownBlock)) (n := t632.length) (c := co38) ?_).2.2; exact (by (with_reducible repeat (first | apply Kd.R_alloc | apply Kd.R_drewN | apply Kd.R_drew)); exact (Kd.R_mono (Kd.R_far (p := ⟨gb636, 1, none⟩) (Kd.R_far (p := ⟨gb636, 0, none⟩) (Kd.R_types HO634.out BK636.out (by decide)) (fun _ hk => hk.2) (.int .i64 t631)) (fun _ hk => hk.2) (.slice Ao38 t632.length co38)) (fun _ h_ => h_.1)))); (case side2 => exact (Kd.R_reads' HO634.out).2.1); (case side3 => refine (Kd.R_reads' (e := 46) (base := w.heap.size) (ok := fun k_ => (((True ∧ some k_ ≠ (.slice Ao19 t617.length co19 : Value).ownBlock) ∧ some k_ ≠ (.slice Ao31 t627.length co31 : Value).ownBlock) ∧ some k_ ≠ (.slice Ao38 t632.length co38 : Value).ownBlock)) (n := t621.length) (c := co24) ?_).2.2; exact (by (with_reducible repeat (first | apply Kd.R_alloc | apply Kd.R_drewN | apply Kd.R_drew)); exact (Kd.R_mono (Kd.R_far (p := ⟨gb636, 1, none⟩) (Kd.R_far (p := ⟨gb636, 0, none⟩) (Kd.R_types HO623.out BK636.out (by decide)) (fun _ hk => hk.2) (.int .i64 t631)) (fun _ hk => hk.2) (.slice Ao38 t632.length co38)) (fun _ h_ => h_.1)))); (case side4 => exact (Kd.R_reads' HO623.out).2.1); rintro e w48 ⟨rfl, hb⟩; refine ⟨_, rfl, ?_⟩; replace HO619 := am (Kd.R_below (by (with_reducible repeat (first | apply Kd.R_alloc | apply Kd.R_drewN | apply Kd.R_drew)); exact (Kd.R_mono (Kd.R_far (p := ⟨gb636, 1, none⟩) (Kd.R_far (p := ⟨gb636, 0, none⟩) (Kd.R_types HO619.out BK636.out (by decide)) (fun _ hk => hk.2) (.int .i64 t631)) (fun _ hk => hk.2) (.slice Ao38 t632.length co38)) (fun _ h_ => h_.1))) hb); replace HO623 := am (Kd.R_below (by (with_reducible repeat (first | apply Kd.R_alloc | apply Kd.R_drewN | apply Kd.R_drew)); exact (Kd.R_mono (Kd.R_far (p := ⟨gb636, 1, none⟩) (Kd.R_far (p := ⟨gb636, 0, none⟩) (Kd.R_types HO623.out BK636.out (by decide)) (fun _ hk => hk.2) (.int .i64 t631)) (fun _ hk => hk.2) (.slice Ao38 t632.length co38)) (fun _ h_ => h_.1))) hb); replace HO629 := am (Kd.R_below (by (with_reducible repeat (first | apply Kd.R_alloc | apply Kd.R_drewN | apply Kd.R_drew)); exact (Kd.R_mono (Kd.R_far (p := ⟨gb636, 1, none⟩) (Kd.R_far (p := ⟨gb636, 0, none⟩) (Kd.R_types HO629.out BK636.out (by decide)) (fun _ hk => hk.2) (.int .i64 t631)) (fun _ hk => hk.2) (.slice Ao38 t632.length co38)) (fun _ h_ => h_.1))) hb); replace HO634 := am (Kd.R_below (by (with_reducible repeat (first | apply Kd.R_alloc | apply Kd.R_drewN | apply Kd.R_drew)); exact (Kd.R_mono (Kd.R_far (p := ⟨gb636, 1, none⟩) (Kd.R_far (p := ⟨gb636, 0, none⟩) (Kd.R_types HO634.out BK636.out (by decide)) (fun _ hk => hk.2) (.int .i64 t631)) (fun _ hk => hk.2) (.slice Ao38 t632.length co38)) (fun _ h_ => h_.1))) hb); replace BK614 := am (blk_below (g := gb614) (o := .cells #[.int .i64 a0_0, .slice A0_1 l0_1.length c0_1] 24 (0, 0)) (by (with_reducible repeat (first | refine blk_drewN ?_ _ | refine blk_drew ?_ | refine blk_alloc ?_ _)); refine blk_far ?_ NB614_636.out _; (with_reducible repeat (first | refine blk_drewN ?_ _ | refine blk_drew ?_ | refine blk_alloc ?_ _)); refine blk_far ?_ NB614_636.out _; exact pkK BK614.out) hb); replace BK625 := am (blk_below (g := gb625) (o := .cells #[.int .i64 t620, .slice Ao24 t621.length co24] 29 (0, 0)) (by (with_reducible repeat (first | refine blk_drewN ?_ _ | refine blk_drew ?_ | refine blk_alloc ?_ _)); refine blk_far ?_ NB625_636.out _; (with_reducible repeat (first | refine blk_drewN ?_ _ | refine blk_drew ?_ | refine blk_alloc ?_ _)); refine blk_far ?_ NB625_636.out _; exact pkK BK625.out) hb); replace BK630 := am (blk_below (g := gb630) (o := .cells #[.int .i64 t626, .slice Ao31 t627.length co31] 29 (0, 0)) (by (with_reducible repeat (first | refine blk_drewN ?_ _ | refine blk_drew ?_ | refine blk_alloc ?_ _)); refine blk_far ?_ NB630_636.out _; (with_reducible repeat (first | refine blk_drewN ?_ _ | refine blk_drew ?_ | refine blk_alloc ?_ _)); refine blk_far ?_ NB630_636.out _; exact pkK BK630.out) hb); replace BK636 := am (blk_below (g := gb636) (o := .cells #[.int .i64 t631, .slice Ao38 t632.length co38] 29 (0, 0)) (by (with_reducible repeat (first | refine blk_drewN ?_ _ | refine blk_drew ?_ | refine blk_alloc ?_ _)); refine blk_put (cs := #[.int .i64 t631, .slice none 0 0]) ?_ 1 _ rfl; (with_reducible repeat (first | refine blk_drewN ?_ _ | refine blk_drew ?_ | refine blk_alloc ?_ _)); refine blk_put (cs := #[.int .i64 0, .slice none 0 0]) ?_ 0 _ rfl; exact pkK BK636.out) hb); replace HB := am (below_step (pkW HB.out) hb); (try clear hb)))
    go_meet
    case rel => exact ⟨_, ((t635 != t624)), rfx, H', ⟨by first | omega | exact Nat.le_refl _⟩, ⟨by (with_reducible repeat (first | apply Kd.R_alloc | apply Kd.R_drewN | apply Kd.R_drew)); exact Kd.R_mono HO623.out (fun _ hk => ⟨hk.1.2, hk.2⟩)⟩, ⟨Kd.Q_of_R (by (with_reducible repeat (first | apply Kd.R_alloc | apply Kd.R_drewN | apply Kd.R_drew)); exact Kd.R_mono HO629.out (fun _ hk => ⟨hk.1.2, hk.2⟩))⟩, ⟨Kd.Q_of_R (by (with_reducible repeat (first | apply Kd.R_alloc | apply Kd.R_drewN | apply Kd.R_drew)); exact Kd.R_mono HO634.out (fun _ hk => ⟨hk.1.2, hk.2⟩))⟩, ⟨pkK BK614.out⟩, ⟨pkK BK625.out⟩, ⟨pkK BK630.out⟩, ⟨pkK BK636.out⟩, ⟨pkW HB.out⟩⟩
   ·replace c40 := Bool.eq_false_iff.mpr c40
    subst c40
    replace H : (laws_FnExactSetTimer.j0 k a1 a2 t624 t635 true a0_0 l0_1 t620 t621 t626 t627 t631 t632) = some r := by rw [if_neg (show ¬ (false = true) by decide)] at H; exact H
    cases k with
    | zero => exact absurd H (by simp [laws_FnExactSetTimer.j0])
    | succ k_ => (simp only [laws_FnExactSetTimer.j0, if_pos] at H; exact absurd (Option.some.inj H) (by rw [HQ_.out]; simp))
  case rest =>
   clear HC13
   try clear c1
   try clear c2
   try clear p2
   try clear c3
   try clear c4
   try clear c5
   try clear c5b0
   try clear c7
   try clear c9
   try clear c11
   try clear c13
   try clear c22
   try clear c28
   try clear c29
   try clear c34
   try clear c35
   try clear c36
   try clear c40
   try clear c41
   try clear c42
   try clear c43
   try clear c45
   try clear c46
   try clear hcz15_0
   try clear hcz15_1
   try clear hcz17_0
   try clear hcz17_1
   try clear hcz23_0
   try clear hcz23_1
   try clear hcz25_0
   try clear hcz25_1
   try clear hcz30_0
   try clear hcz30_1
   try clear hcz37_0
   try clear hcz37_1
   try clear hcz44_0
   try clear hcz44_1
   try clear hcz47_0
   try clear hcz47_1
   try clear hcz7_0
   try clear hcz7_1
   try clear hfz15_0
   try clear hfz15_1
   try clear hfz17_0
   try clear hfz17_1
   try clear hfz23_0
   try clear hfz23_1
   try clear hfz25_0
   try clear hfz25_1
   try clear hfz30_0
   try clear hfz30_1
   try clear hfz37_0
   try clear hfz37_1
   try clear hfz44_0
   try clear hfz44_1
   try clear hfz47_0
   try clear hfz47_1
   try clear hfz7_0
   try clear hfz7_1
   obtain ⟨kq, x48_12, rfl, HA, HJ12, HO_626001, HO_631001, HO_637001, BK614, BK625, BK630, BK636, HB⟩ := hcut
   cases kq with
   | zero => exact absurd HA.out (by simp [laws_FnExactSetTimer.j0])
   | succ kj12 =>
    have H := HA.out
    clear HA
    simp only [laws_FnExactSetTimer.j0] at H
    by_cases c49 : x48_12 = true
    ·subst c49
     replace H : (some false) = some r := by rw [if_pos rfl] at H; exact H
     exact absurd (Option.some.inj H) (by rw [HQ_.out]; simp)
    ·replace c49 := Bool.eq_false_iff.mpr c49
     subst c49
     replace H : ((laws_toClock.f kj12 a0_0 l0_1).bind fun bt638 => ((laws_eqClock.f kj12 t626 t627 bt638.1 bt638.2).bind fun t642 => (if t642 = true then ((laws_markClock.f kj12 t626 t627 1).bind fun bt643 => (if bt643.1 < 0 then (laws_FnExactSetTimer.j1 kj12 a1 a2 t624 true a0_0 l0_1 t620 t621 t631 t632) else ((laws_eqClock.f kj12 t631 t632 t620 t621).bind fun t645 => (if t645 = true then (laws_FnExactSetTimer.j1 kj12 a1 a2 t624 (t635 != t624) a0_0 l0_1 t620 t621 t631 t632) else (laws_FnExactSetTimer.j1 kj12 a1 a2 t624 true a0_0 l0_1 t620 t621 t631 t632))))) else (some false)))) = some r := by rw [if_neg (show ¬ (false = true) by decide)] at H; exact H
     replace H := Option.bind_eq_some_iff.mp H
     obtain ⟨⟨t638, t639⟩, A500, H⟩ := H
     replace H : ((laws_eqClock.f kj12 t626 t627 t638 t639).bind fun t642 => (if t642 = true then ((laws_markClock.f kj12 t626 t627 1).bind fun bt643 => (if bt643.1 < 0 then (laws_FnExactSetTimer.j1 kj12 a1 a2 t624 true a0_0 l0_1 t620 t621 t631 t632) else ((laws_eqClock.f kj12 t631 t632 t620 t621).bind fun t645 => (if t645 = true then (laws_FnExactSetTimer.j1 kj12 a1 a2 t624 (t635 != t624) a0_0 l0_1 t620 t621 t631 t632) else (laws_FnExactSetTimer.j1 kj12 a1 a2 t624 true a0_0 l0_1 t620 t621 t631 t632))))) else (some false))) = some r := H
     have A50 := am A500
     clear A500
     replace H := Option.bind_eq_some_iff.mp H
     obtain ⟨t642, A510, H⟩ := H
     replace H : (if t642 = true then ((laws_markClock.f kj12 t626 t627 1).bind fun bt643 => (if bt643.1 < 0 then (laws_FnExactSetTimer.j1 kj12 a1 a2 t624 true a0_0 l0_1 t620 t621 t631 t632) else ((laws_eqClock.f kj12 t631 t632 t620 t621).bind fun t645 => (if t645 = true then (laws_FnExactSetTimer.j1 kj12 a1 a2 t624 (t635 != t624) a0_0 l0_1 t620 t621 t631 t632) else (laws_FnExactSetTimer.j1 kj12 a1 a2 t624 true a0_0 l0_1 t620 t621 t631 t632))))) else (some false)) = some r := H
     have A51 := am A510
     clear A510
     by_cases c52 : t642 = true
     ·subst c52
      replace H : ((laws_markClock.f kj12 t626 t627 1).bind fun bt643 => (if bt643.1 < 0 then (laws_FnExactSetTimer.j1 kj12 a1 a2 t624 true a0_0 l0_1 t620 t621 t631 t632) else ((laws_eqClock.f kj12 t631 t632 t620 t621).bind fun t645 => (if t645 = true then (laws_FnExactSetTimer.j1 kj12 a1 a2 t624 (t635 != t624) a0_0 l0_1 t620 t621 t631 t632) else (laws_FnExactSetTimer.j1 kj12 a1 a2 t624 true a0_0 l0_1 t620 t621 t631 t632))))) = some r := by rw [if_pos rfl] at H; exact H
      replace H := Option.bind_eq_some_iff.mp H
      obtain ⟨⟨t643, t644⟩, A530, H⟩ := H
      replace H : (if t643 < 0 then (laws_FnExactSetTimer.j1 kj12 a1 a2 t624 true a0_0 l0_1 t620 t621 t631 t632) else ((laws_eqClock.f kj12 t631 t632 t620 t621).bind fun t645 => (if t645 = true then (laws_FnExactSetTimer.j1 kj12 a1 a2 t624 (t635 != t624) a0_0 l0_1 t620 t621 t631 t632) else (laws_FnExactSetTimer.j1 kj12 a1 a2 t624 true a0_0 l0_1 t620 t621 t631 t632)))) = some r := H
      have A53 := am A530
      clear A530
      have HC54 := am H
      clear H
      try go_wp2
      replace HO_626001 := am (Kd.R_drew HO_626001.out)
      replace HO_631001 := am (Kd.Q_drew HO_631001.out)
      replace HO_637001 := am (Kd.Q_drew HO_637001.out)
      replace BK614 := am (blk_drew BK614.out)
      replace BK625 := am (blk_drew BK625.out)
      replace BK630 := am (blk_drew BK630.out)
      replace BK636 := am (blk_drew BK636.out)
      replace HB := am (below_drew1 HB.out)
      refine start_ (n := 5) (S := fun w' => w'.cell? ⟨gb630, 0, none⟩ = some (.int .i64 t626) ∧ w'.cell? ⟨gb630, 1, none⟩ = some (.slice Ao31 t627.length co31) ∧ w'.cell? ⟨gb614, 0, none⟩ = some (.int .i64 a0_0) ∧ w'.cell? ⟨gb614, 1, none⟩ = some (.slice A0_1 l0_1.length c0_1)) (ds := []) #[false, false, false, false, false] (by kernel_rfl) rfl rfl ⟨(blk_cell BK630.out 0).trans rfl, (blk_cell BK630.out 1).trans rfl, (blk_cell BK614.out 0).trans rfl, (blk_cell BK614.out 1).trans rfl⟩ (fun hHeld => ?_)
      generalize wc.drew = w55 at HO_626001 HO_631001 HO_637001 BK614 BK625 BK630 BK636 HB hHeld ⊢
      refine take_ (i := 0) (N := some 49) (v := ?_) (a' := ?_) #[true, false, false, false, false] rfl rfl (by kernel_rfl) (fun _ _ _ h => h) (Or.inl ⟨by rfl, ?_⟩) hHeld ?_ ?_
      rotate_left
      ·rintro w' ⟨s0, s1, s2, s3⟩
       go_simp
       with_reducible rfl
      rotate_left
      ·simp only [Act.put, List.setIfInBounds_toArray, List.set_cons_zero, List.set_cons_succ, i64_w, i32_w]
       rfl
      refine take_ (i := 1) (N := some 50) (v := ?_) (a' := ?_) #[true, true, false, false, false] rfl rfl (by kernel_rfl) (fun _ _ _ h => h) (Or.inl ⟨by rfl, ?_⟩) hHeld ?_ ?_
      rotate_left
      ·rintro w' ⟨s0, s1, s2, s3⟩
       go_simp
       with_reducible rfl
      rotate_left
      ·simp only [Act.put, List.setIfInBounds_toArray, List.set_cons_zero, List.set_cons_succ, i64_w, i32_w]
       rfl
      refine one_ (i := 2) (N := some 51) #[true, true, true, false, false] rfl rfl (by kernel_rfl) (by decide) (fun K hK => ?_)
      refine goes_ Try.func11 (by kernel_rfl) rfl #[.agg #[.int .i64 a0_0, .slice A0_1 l0_1.length c0_1]] (by rfl) rfl rfl mpx ?_
      with_reducible refine (laws_toClock.calls kj12 a0_0 _ _ l0_1 t638 t639 _ ?side1 ?side2 A50.out).mono ?_
      (case side1 => exact pkC (Kd.C_below HR0_1.out HB.out))
      (case side2 => exact HC0_1.out)
      rintro e w56 ⟨v640, rfl, ho0, hb⟩
      refine ⟨_, rfl, ?_⟩
      have HO641 := am (Kd.R_lower (Kd.R_new' (Kd.R_new' (Kd.R_new' ho0 (Kd.R_lt (pkR HO_626001.out))) (Kd.Q_lt (pkQ HO_631001.out))) (Kd.Q_lt (pkQ HO_637001.out))) (below_size (pkW HB.out)))
      replace HO_626001 := am (Kd.R_elder' (pkR HO_626001.out) (Kd.R_base ho0) hb)
      replace HO_631001 := am (Kd.Q_elder' (pkQ HO_631001.out) (Kd.R_base ho0) hb)
      replace HO_637001 := am (Kd.Q_elder' (pkQ HO_637001.out) (Kd.R_base ho0) hb)
      replace BK614 := am (blk_below (pkK BK614.out) hb)
      replace BK625 := am (blk_below (pkK BK625.out) hb)
      replace BK630 := am (blk_below (pkK BK630.out) hb)
      replace BK636 := am (blk_below (pkK BK636.out) hb)
      replace HB := am (below_step (pkW HB.out) hb)
      (try clear hb); (try clear ho0)
      obtain ⟨Ao57, co57, eo57⟩ := Kd.R_slice HO641.out
      (first | subst eo57 | (injection eo57 with f1_ f2_ f3_; have f4_ := f1_.symm; have f5_ := f3_.symm; clear f1_ f2_ f3_; subst f4_; subst f5_))
      refine hK.out _ _ ⟨(blk_cell BK630.out 0).trans rfl, (blk_cell BK630.out 1).trans rfl, (blk_cell BK614.out 0).trans rfl, (blk_cell BK614.out 1).trans rfl⟩ (fun hHeld => ?_)
      clear hK K
      refine norm_ (a' := ?_) ?_ ?_
      rotate_left
      ·show Act.put _ (some 51) _ = _
       simp only [Act.put, List.setIfInBounds_toArray, List.set_cons_zero, List.set_cons_succ, i64_w, i32_w]
       rfl
      refine one_ (i := 3) (N := some 52) #[true, true, true, true, false] rfl rfl (by kernel_rfl) (by decide) (fun K hK => ?_)
      refine goes_ Try.func13 (by kernel_rfl) rfl #[.agg #[.int .i64 t626, .slice Ao31 t627.length co31], .agg #[.int .i64 t638, .slice Ao57 t639.length co57]] (by rfl) rfl rfl mpx ?_
      with_reducible refine (laws_eqClock.calls kj12 t626 _ _ t627 t638 _ _ t639 true _ ?side1 ?side2 ?side3 ?side4 A51.out).mono ?_
      (case side1 => repeat (first | exact (Kd.Q_reads' HO_631001.out).2.2 | (with_reducible refine Kd.C_alloc ?_ _) | (with_reducible refine Kd.C_drewN ?_ _) | (with_reducible refine Kd.C_drew ?_)))
      (case side2 => exact (Kd.Q_reads' HO_631001.out).2.1)
      (case side3 => exact pkC (Kd.R_reads' HO641.out).2.2)
      (case side4 => exact (Kd.R_reads' HO641.out).2.1)
      rintro e w58 ⟨rfl, hb⟩
      refine ⟨_, rfl, ?_⟩
      replace HO_626001 := am (Kd.R_below (pkR HO_626001.out) hb)
      replace HO_631001 := am (Kd.Q_below (pkQ HO_631001.out) hb)
      replace HO_637001 := am (Kd.Q_below (pkQ HO_637001.out) hb)
      replace HO641 := am (Kd.R_below (pkR HO641.out) hb)
      replace BK614 := am (blk_below (pkK BK614.out) hb)
      replace BK625 := am (blk_below (pkK BK625.out) hb)
      replace BK630 := am (blk_below (pkK BK630.out) hb)
      replace BK636 := am (blk_below (pkK BK636.out) hb)
      replace HB := am (below_step (pkW HB.out) hb)
      (try clear hb)
      refine hK.out _ _ ⟨(blk_cell BK630.out 0).trans rfl, (blk_cell BK630.out 1).trans rfl, (blk_cell BK614.out 0).trans rfl, (blk_cell BK614.out 1).trans rfl⟩ (fun hHeld => ?_)
      clear hK K
      refine norm_ (a' := ?_) ?_ ?_
      rotate_left
      ·show Act.put _ (some 52) _ = _
       simp only [Act.put, List.setIfInBounds_toArray, List.set_cons_zero, List.set_cons_succ, i64_w, i32_w]
       rfl
      refine pure_ (i := 4) (N := some 53) (v := ?_) (a' := ?_) #[true, true, true, true, true] rfl rfl (by kernel_rfl) (fun _ _ _ h => h) (Or.inl ⟨by rfl, ?_⟩) ?_ ?_
      rotate_left
      ·intro w'
       go_simp
       with_reducible rfl
      rotate_left
      ·simp only [Act.put, List.setIfInBounds_toArray, List.set_cons_zero, List.set_cons_succ, i64_w, i32_w]
       rfl
      refine done_ (by kernel_rfl) ?_
      have hnb59 := NB630_614.out
      have hnc59 := NB614_630.out
      have hnb60 := NB630_625.out
      have hnc60 := NB625_630.out
      have hnb61 := NB630_636.out
      have hnc61 := NB636_630.out
      obtain ⟨hcz62_0, hcz62_1, hfz62_0, hfz62_1⟩ := bk2 BK630.out
      go_upto_region 14 with (first | ((with_reducible refine gate_callee (f := 16) rfl ?_); refine goesL_ (some 56) rfl rfl Try.func16 (by kernel_rfl) rfl #[.agg #[.int .i64 t626, .slice Ao31 t627.length co31], .int .i64 1] rfl mpx ?_; (with_reducible refine (laws_markClock.calls kj12 t626 (fun k_ => some k_ = (.slice Ao31 t627.length co31 : Value).ownBlock) (.slice Ao31 t627.length co31) t627 1 t643 t644 w _ ?side1 ?side2 A53.out).mono ?_); (case side1 => repeat (first | (with_reducible first | exact HB.out | apply below_alloc | apply pw_below_drewN | apply below_drew1 | refine below_set ?_ GE614.out | refine below_set ?_ GE625.out | refine below_set ?_ GE630.out | refine below_set ?_ GE636.out) | exact HB.out)); (case side2 => exact Kd.Q_tight rfl HO_631001.out); rintro e w63 ⟨rfl, hy0, hb, hkp⟩; refine ⟨_, rfl, ?_⟩; replace HO_626001 := am (Kd.R_mono (ok' := fun k_ => some k_ ≠ (.slice Ao31 t627.length co31 : Value).ownBlock ∧ some k_ ≠ (.slice Ao38 t632.length co38 : Value).ownBlock ∧ some k_ ≠ (.slice Ao57 t639.length co57 : Value).ownBlock) (Kd.R_keptB (HO_626001.out) hkp (fun k_ hk_ hs_ => (hk_.1.1) hs_)) (fun k_ hk_ => ⟨hk_.1.1.1, hk_.1.1.2, hk_.1.2⟩)); replace HO_637001 := am (Kd.Q_mono (ok' := fun k_ => some k_ ≠ (.slice Ao24 t621.length co24 : Value).ownBlock ∧ some k_ ≠ (.slice Ao31 t627.length co31 : Value).ownBlock ∧ some k_ ≠ (.slice Ao57 t639.length co57 : Value).ownBlock) (Kd.Q_keptB (HO_637001.out) hkp (fun k_ hk_ hs_ => (hk_.1.2) hs_)) (fun k_ hk_ => ⟨hk_.1.1.1, hk_.1.1.2, hk_.1.2⟩)); replace BK614 := am (blk_kept (pkK BK614.out) hkp (fun hs_ => (fun e_ => (Kd.Q_ne HO_631001.out BK614.out (by decide)) e_) hs_)); replace BK625 := am (blk_kept (pkK BK625.out) hkp (fun hs_ => (fun e_ => (Kd.Q_ne HO_631001.out BK625.out (by decide)) e_) hs_)); replace BK630 := am (blk_kept (pkK BK630.out) hkp (fun hs_ => (fun e_ => (Kd.Q_ne HO_631001.out BK630.out (by decide)) e_) hs_)); replace BK636 := am (blk_kept (pkK BK636.out) hkp (fun hs_ => (fun e_ => (Kd.Q_ne HO_631001.out BK636.out (by decide)) e_) hs_)); replace HO_631001 := am (Kd.Q_reok rfl hy0 (fun k_ e_ => HO_631001.out.1 k_ e_)); replace HO641 := am (Kd.R_mono (ok' := fun k_ => some k_ ≠ (.slice Ao24 t621.length co24 : Value).ownBlock ∧ some k_ ≠ (.slice Ao31 t627.length co31 : Value).ownBlock ∧ some k_ ≠ (.slice Ao38 t632.length co38 : Value).ownBlock) (Kd.R_keptB (HO641.out) hkp (fun k_ hk_ hs_ => (hk_.1.2) hs_)) (fun k_ hk_ => ⟨hk_.1.1.1.2, hk_.1.1.2, hk_.1.2⟩)); replace HB := am (hb); (try clear hb); (try clear hkp); (try clear hy0)))
      (try simp only [Act.put, List.setIfInBounds_toArray, List.set_cons_zero, List.set_cons_succ])
      go_cut [69] (fun v69 wc => ∃ (kq : Nat) (x69_53 : Bool), v69 = .bool x69_53 ∧ Aside0 (laws_FnExactSetTimer.j1 kq a1 a2 t624 x69_53 a0_0 l0_1 t620 t621 t631 t632 = some r) ∧ Aside0 (kq ≤ kj12) ∧ Aside0 (Kd.R k46 46 wc w.heap.size (fun k_ => some k_ ≠ ((.slice Ao31 t627.length co31) : Value).ownBlock ∧ some k_ ≠ ((.slice Ao38 t632.length co38) : Value).ownBlock) (.slice Ao24 t621.length co24) t621) ∧ Aside0 (Kd.Q k46 46 wc w.heap.size (fun k_ => some k_ ≠ ((.slice Ao24 t621.length co24) : Value).ownBlock ∧ some k_ ≠ ((.slice Ao38 t632.length co38) : Value).ownBlock) (.slice Ao31 t627.length co31) t644) ∧ Aside0 (Kd.Q k46 46 wc w.heap.size (fun k_ => some k_ ≠ ((.slice Ao24 t621.length co24) : Value).ownBlock ∧ some k_ ≠ ((.slice Ao31 t627.length co31) : Value).ownBlock) (.slice Ao38 t632.length co38) t632) ∧ Aside0 (wc.heap[gb614]? = some (.cells #[.int .i64 a0_0, (.slice A0_1 l0_1.length c0_1)] 24 (0, 0))) ∧ Aside0 (wc.heap[gb625]? = some (.cells #[.int .i64 t620, (.slice Ao24 t621.length co24)] 29 (0, 0))) ∧ Aside0 (wc.heap[gb630]? = some (.cells #[.int .i64 t626, (.slice Ao31 t627.length co31)] 29 (0, 0))) ∧ Aside0 (wc.heap[gb636]? = some (.cells #[.int .i64 t631, (.slice Ao38 t632.length co38)] 29 (0, 0))) ∧ Aside0 (Below w.heap.size w wc))
      case first =>
       have H := HC54.out
       clear HC54
       by_cases c64 : t643 < 0
       ·rw [if_pos c64] at H
        have c64b0 : decide (t643 < 0) = true := decide_eq_true c64
        clear c64
        (first | rw [c64b0] | (simp only [i64_w, i32_w]; rw [c64b0]) | skip)
        cases kj12 with
        | zero => exact absurd H (by simp [laws_FnExactSetTimer.j1])
        | succ k_ => (simp only [laws_FnExactSetTimer.j1, if_pos] at H; exact absurd (Option.some.inj H) (by rw [HQ_.out]; simp))
       ·rw [if_neg c64] at H
        have c64b0 : decide (t643 < 0) = false := decide_eq_false c64
        clear c64
        (first | rw [c64b0] | (simp only [i64_w, i32_w]; rw [c64b0]) | skip)
        replace H := Option.bind_eq_some_iff.mp H
        obtain ⟨t645, A650, H⟩ := H
        replace H : (if t645 = true then (laws_FnExactSetTimer.j1 kj12 a1 a2 t624 (t635 != t624) a0_0 l0_1 t620 t621 t631 t632) else (laws_FnExactSetTimer.j1 kj12 a1 a2 t624 true a0_0 l0_1 t620 t621 t631 t632)) = some r := H
        have A65 := am A650
        clear A650
        by_cases c66 : t645 = true
        ·subst c66
         replace H : (laws_FnExactSetTimer.j1 kj12 a1 a2 t624 (t635 != t624) a0_0 l0_1 t620 t621 t631 t632) = some r := by rw [if_pos rfl] at H; exact H
         have H' := am H
         clear H
         have hnb67 := NB636_614.out
         have hnc67 := NB614_636.out
         have hnb68 := NB636_625.out
         have hnc68 := NB625_636.out
         have hnb69 := NB636_630.out
         have hnc69 := NB630_636.out
         obtain ⟨hcz70_0, hcz70_1, hfz70_0, hfz70_1⟩ := bk2 BK636.out
         have hnb71 := NB625_614.out
         have hnc71 := NB614_625.out
         have hnb72 := NB625_630.out
         have hnc72 := NB630_625.out
         obtain ⟨hcz73_0, hcz73_1, hfz73_0, hfz73_1⟩ := bk2 BK625.out
         go_wp2_with (first | (go_at_call 13; (with_reducible refine (laws_eqClock.calls kj12 t631 _ _ t632 t620 _ _ t621 true _ ?side1 ?side2 ?side3 ?side4 A65.out).mono ?_); (case side1 => repeat (first | exact (Kd.Q_reads' HO_637001.out).2.2 | (with_reducible refine Kd.C_alloc ?_ _) | (with_reducible refine Kd.C_drewN ?_ _) | (with_reducible refine Kd.C_drew ?_))); (case side2 => exact (Kd.Q_reads' HO_637001.out).2.1); (case side3 => exact pkC (Kd.R_reads' HO_626001.out).2.2); (case side4 => exact (Kd.R_reads' HO_626001.out).2.1); rintro e w74 ⟨rfl, hb⟩; replace HO_626001 := am (Kd.R_below (pkR HO_626001.out) hb); replace HO_631001 := am (Kd.Q_below (pkQ HO_631001.out) hb); replace HO_637001 := am (Kd.Q_below (pkQ HO_637001.out) hb); replace HO641 := am (Kd.R_below (pkR HO641.out) hb); replace BK614 := am (blk_below (pkK BK614.out) hb); replace BK625 := am (blk_below (pkK BK625.out) hb); replace BK630 := am (blk_below (pkK BK630.out) hb); replace BK636 := am (blk_below (pkK BK636.out) hb); replace HB := am (below_step (pkW HB.out) hb); (try clear hb)))
         go_meet
         case rel => exact ⟨_, ((t635 != t624)), rfx, H', ⟨by have := HJ12.out; first | omega | exact Nat.le_refl _⟩, ⟨by (with_reducible repeat (first | apply Kd.R_alloc | apply Kd.R_drewN | apply Kd.R_drew)); exact Kd.R_mono HO_626001.out (fun _ hk => ⟨hk.1, hk.2.1⟩)⟩, ⟨by (with_reducible repeat (first | apply Kd.Q_alloc | apply Kd.Q_drewN | apply Kd.Q_drew)); exact Kd.Q_mono HO_631001.out (fun _ hk => ⟨hk.1.1, hk.1.2⟩)⟩, ⟨by (with_reducible repeat (first | apply Kd.Q_alloc | apply Kd.Q_drewN | apply Kd.Q_drew)); exact Kd.Q_mono HO_637001.out (fun _ hk => ⟨hk.1, hk.2.1⟩)⟩, ⟨pkK BK614.out⟩, ⟨pkK BK625.out⟩, ⟨pkK BK630.out⟩, ⟨pkK BK636.out⟩, ⟨pkW HB.out⟩⟩
        ·replace c66 := Bool.eq_false_iff.mpr c66
         subst c66
         replace H : (laws_FnExactSetTimer.j1 kj12 a1 a2 t624 true a0_0 l0_1 t620 t621 t631 t632) = some r := by rw [if_neg (show ¬ (false = true) by decide)] at H; exact H
         cases kj12 with
         | zero => exact absurd H (by simp [laws_FnExactSetTimer.j1])
         | succ k_ => (simp only [laws_FnExactSetTimer.j1, if_pos] at H; exact absurd (Option.some.inj H) (by rw [HQ_.out]; simp))
      case rest =>
       clear HC54
       try clear c1
       try clear c2
       try clear p2
       try clear c3
       try clear c4
       try clear c5
       try clear c5b0
       try clear c6
       try clear c7
       try clear c9
       try clear c11
       try clear c13
       try clear c16
       try clear c22
       try clear c28
       try clear c29
       try clear c34
       try clear c35
       try clear c36
       try clear c40
       try clear c41
       try clear c42
       try clear c43
       try clear c45
       try clear c46
       try clear c49
       try clear c52
       try clear c59
       try clear c60
       try clear c61
       try clear c64
       try clear c64b0
       try clear c66
       try clear c67
       try clear c68
       try clear c69
       try clear c71
       try clear c72
       try clear hcz15_0
       try clear hcz15_1
       try clear hcz17_0
       try clear hcz17_1
       try clear hcz23_0
       try clear hcz23_1
       try clear hcz25_0
       try clear hcz25_1
       try clear hcz30_0
       try clear hcz30_1
       try clear hcz37_0
       try clear hcz37_1
       try clear hcz44_0
       try clear hcz44_1
       try clear hcz47_0
       try clear hcz47_1
       try clear hcz62_0
       try clear hcz62_1
       try clear hcz70_0
       try clear hcz70_1
       try clear hcz73_0
       try clear hcz73_1
       try clear hcz7_0
       try clear hcz7_1
       try clear hfz15_0
       try clear hfz15_1
       try clear hfz17_0
       try clear hfz17_1
       try clear hfz23_0
       try clear hfz23_1
       try clear hfz25_0
       try clear hfz25_1
       try clear hfz30_0
       try clear hfz30_1
       try clear hfz37_0
       try clear hfz37_1
       try clear hfz44_0
       try clear hfz44_1
       try clear hfz47_0
       try clear hfz47_1
       try clear hfz62_0
       try clear hfz62_1
       try clear hfz70_0
       try clear hfz70_1
       try clear hfz73_0
       try clear hfz73_1
       try clear hfz7_0
       try clear hfz7_1
       try clear p2
       obtain ⟨kq, x69_53, rfl, HA, HJ53, HO_626001, HO_631001, HO_637001, BK614, BK625, BK630, BK636, HB⟩ := hcut
       have hl631001_53 := (Kd.Q_reads' HO_631001.out).1
       rw [hl631001_53] at HO_631001
       (try simp only [hl631001_53])
       (try simp only [hl631001_53] at BK614)
       (try simp only [hl631001_53] at BK625)
       (try simp only [hl631001_53] at BK630)
       (try simp only [hl631001_53] at BK636)
       (try simp only [hl631001_53] at HO_626001)
       (try simp only [hl631001_53] at HO_637001)
       cases kq with
       | zero => exact absurd HA.out (by simp [laws_FnExactSetTimer.j1])
       | succ kj53 =>
        have H := HA.out
        clear HA
        simp only [laws_FnExactSetTimer.j1] at H
        by_cases c75 : x69_53 = true
        ·subst c75
         replace H : (some false) = some r := by rw [if_pos rfl] at H; exact H
         exact absurd (Option.some.inj H) (by rw [HQ_.out]; simp)
        ·replace c75 := Bool.eq_false_iff.mpr c75
         subst c75
         replace H : ((laws_markClock.f kj53 t631 t632 1).bind fun bt646 => ((laws_heldClock.f kj53 t631 bt646.2 1).bind fun t648 => (if t648 < 0 then (some false) else (if t648 = bt646.1 then ((laws_toClock.f kj53 a0_0 l0_1).bind fun bt649 => ((impl_SetTimer.f kj53 bt649.1 bt649.2 a1 a2).bind fun bt653 => ((laws_eqClock.f kj53 bt653.1 bt653.2.1 t620 t621).bind fun t659 => (if t659 = true then (laws_FnExactSetTimer.j2 kj53 bt646.1 (bt653.2.2 != t624) t631 bt646.2) else (laws_FnExactSetTimer.j2 kj53 bt646.1 true t631 bt646.2))))) else (some false))))) = some r := by rw [if_neg (show ¬ (false = true) by decide)] at H; exact H
         replace H := Option.bind_eq_some_iff.mp H
         obtain ⟨⟨t646, t647⟩, A760, H⟩ := H
         replace H : ((laws_heldClock.f kj53 t631 t647 1).bind fun t648 => (if t648 < 0 then (some false) else (if t648 = t646 then ((laws_toClock.f kj53 a0_0 l0_1).bind fun bt649 => ((impl_SetTimer.f kj53 bt649.1 bt649.2 a1 a2).bind fun bt653 => ((laws_eqClock.f kj53 bt653.1 bt653.2.1 t620 t621).bind fun t659 => (if t659 = true then (laws_FnExactSetTimer.j2 kj53 t646 (bt653.2.2 != t624) t631 t647) else (laws_FnExactSetTimer.j2 kj53 t646 true t631 t647))))) else (some false)))) = some r := H
         have A76 := am A760
         clear A760
         replace H := Option.bind_eq_some_iff.mp H
         obtain ⟨t648, A770, H⟩ := H
         replace H : (if t648 < 0 then (some false) else (if t648 = t646 then ((laws_toClock.f kj53 a0_0 l0_1).bind fun bt649 => ((impl_SetTimer.f kj53 bt649.1 bt649.2 a1 a2).bind fun bt653 => ((laws_eqClock.f kj53 bt653.1 bt653.2.1 t620 t621).bind fun t659 => (if t659 = true then (laws_FnExactSetTimer.j2 kj53 t646 (bt653.2.2 != t624) t631 t647) else (laws_FnExactSetTimer.j2 kj53 t646 true t631 t647))))) else (some false))) = some r := H
         have A77 := am A770
         clear A770
         by_cases c78 : t648 < 0
         ·rw [if_pos c78] at H
          have c78b0 : decide (t648 < 0) = true := decide_eq_true c78
          clear c78
          exact absurd (Option.some.inj H) (by rw [HQ_.out]; simp)
         ·rw [if_neg c78] at H
          have c78b0 : decide (t648 < 0) = false := decide_eq_false c78
          clear c78
          by_cases c79 : t648 = t646
          ·rw [if_pos c79] at H
           have c79b0 : (t648 == t646) = true := beq_iff_eq.mpr c79
           have c79b1 : (t648 != t646) = false := bne_eq_false_iff_eq.mpr c79
           clear c79
           replace H := Option.bind_eq_some_iff.mp H
           obtain ⟨⟨t649, t650⟩, A800, H⟩ := H
           replace H : ((impl_SetTimer.f kj53 t649 t650 a1 a2).bind fun bt653 => ((laws_eqClock.f kj53 bt653.1 bt653.2.1 t620 t621).bind fun t659 => (if t659 = true then (laws_FnExactSetTimer.j2 kj53 t646 (bt653.2.2 != t624) t631 t647) else (laws_FnExactSetTimer.j2 kj53 t646 true t631 t647)))) = some r := H
           have A80 := am A800
           clear A800
           replace H := Option.bind_eq_some_iff.mp H
           obtain ⟨⟨t653, t654, t657⟩, A810, H⟩ := H
           replace H : ((laws_eqClock.f kj53 t653 t654 t620 t621).bind fun t659 => (if t659 = true then (laws_FnExactSetTimer.j2 kj53 t646 (t657 != t624) t631 t647) else (laws_FnExactSetTimer.j2 kj53 t646 true t631 t647))) = some r := H
           have A81 := am A810
           clear A810
           have HC82 := am H
           clear H
           have hnb83 := NB636_614.out
           have hnc83 := NB614_636.out
           have hnb84 := NB636_625.out
           have hnc84 := NB625_636.out
           have hnb85 := NB636_630.out
           have hnc85 := NB630_636.out
           obtain ⟨hcz86_0, hcz86_1, hfz86_0, hfz86_1⟩ := bk2 BK636.out
           go_upto_region 25 with (first | ((with_reducible refine gate_callee (f := 16) rfl ?_); refine goesL_ (some 72) rfl rfl Try.func16 (by kernel_rfl) rfl #[.agg #[.int .i64 t631, .slice Ao38 t632.length co38], .int .i64 1] rfl mpx ?_; (with_reducible refine (laws_markClock.calls kj53 t631 (fun k_ => some k_ = (.slice Ao38 t632.length co38 : Value).ownBlock) (.slice Ao38 t632.length co38) t632 1 t646 t647 w _ ?side1 ?side2 A76.out).mono ?_); (case side1 => repeat (first | (with_reducible first | exact HB.out | apply below_alloc | apply pw_below_drewN | apply below_drew1 | refine below_set ?_ GE614.out | refine below_set ?_ GE625.out | refine below_set ?_ GE630.out | refine below_set ?_ GE636.out) | exact HB.out)); (case side2 => exact Kd.Q_tight rfl HO_637001.out); rintro e w87 ⟨rfl, hy0, hb, hkp⟩; refine ⟨_, rfl, ?_⟩; replace HO_626001 := am (Kd.R_mono (ok' := fun k_ => some k_ ≠ (.slice Ao31 t644.length co31 : Value).ownBlock ∧ some k_ ≠ (.slice Ao38 t632.length co38 : Value).ownBlock) (Kd.R_keptB (HO_626001.out) hkp (fun k_ hk_ hs_ => (hk_.2) hs_)) (fun k_ hk_ => ⟨hk_.1.1, hk_.1.2⟩)); replace HO_631001 := am (Kd.Q_mono (ok' := fun k_ => some k_ ≠ (.slice Ao24 t621.length co24 : Value).ownBlock ∧ some k_ ≠ (.slice Ao38 t632.length co38 : Value).ownBlock) (Kd.Q_keptB (HO_631001.out) hkp (fun k_ hk_ hs_ => (hk_.2) hs_)) (fun k_ hk_ => ⟨hk_.1.1, hk_.1.2⟩)); replace BK614 := am (blk_kept (pkK BK614.out) hkp (fun hs_ => (fun e_ => (Kd.Q_ne HO_637001.out BK614.out (by decide)) e_) hs_)); replace BK625 := am (blk_kept (pkK BK625.out) hkp (fun hs_ => (fun e_ => (Kd.Q_ne HO_637001.out BK625.out (by decide)) e_) hs_)); replace BK630 := am (blk_kept (pkK BK630.out) hkp (fun hs_ => (fun e_ => (Kd.Q_ne HO_637001.out BK630.out (by decide)) e_) hs_)); replace BK636 := am (blk_kept (pkK BK636.out) hkp (fun hs_ => (fun e_ => (Kd.Q_ne HO_637001.out BK636.out (by decide)) e_) hs_)); replace HO_637001 := am (Kd.Q_reok rfl hy0 (fun k_ e_ => HO_637001.out.1 k_ e_)); replace HB := am (hb); (try clear hb); (try clear hkp); (try clear hy0); obtain ⟨hcz88_0, hcz88_1, hfz88_0, hfz88_1⟩ := bk2 BK636.out) | ((with_reducible refine gate_callee (f := 17) rfl ?_); refine goesL_ (some 75) rfl rfl Try.func17 (by kernel_rfl) rfl #[.agg #[.int .i64 t631, .slice Ao38 t647.length co38], .int .i64 1] rfl (by (try simp only [List.map_toArray, List.map_cons, List.map_nil]); first | done | (rw [show t647.length = t632.length from (Kd.Q_reads' HO_637001.out).1.symm] <;> rfl) | rfl | (simp only [List.length_drop, List.length_take]; rfl) | (go_simp; done) | (simp [*]; done)) ?_; (with_reducible refine (laws_heldClock.calls kj53 t631 _ _ t647 1 t648 _ ?side1 ?side2 A77.out).mono ?_); (case side1 => repeat (first | exact (Kd.Q_reads' HO_637001.out).2.2 | (with_reducible refine Kd.C_alloc ?_ _) | (with_reducible refine Kd.C_drewN ?_ _) | (with_reducible refine Kd.C_drew ?_))); (case side2 => rw [show t647.length = t632.length from (Kd.Q_reads' HO_637001.out).1.symm]; exact (Kd.Q_reads' HO_637001.out).2.1); rintro e w89 ⟨rfl, hb⟩; refine ⟨_, rfl, ?_⟩; replace HO_626001 := am (Kd.R_below (pkR HO_626001.out) hb); replace HO_631001 := am (Kd.Q_below (pkQ HO_631001.out) hb); replace HO_637001 := am (Kd.Q_below (pkQ HO_637001.out) hb); replace BK614 := am (blk_below (pkK BK614.out) hb); replace BK625 := am (blk_below (pkK BK625.out) hb); replace BK630 := am (blk_below (pkK BK630.out) hb); replace BK636 := am (blk_below (pkK BK636.out) hb); replace HB := am (below_step (pkW HB.out) hb); (try clear hb); have hnb90 := NB614_625.out; have hnc90 := NB625_614.out; have hnb91 := NB614_630.out; have hnc91 := NB630_614.out; obtain ⟨hcz92_0, hcz92_1, hfz92_0, hfz92_1⟩ := bk2 BK614.out) | ((with_reducible refine gate_callee (f := 11) rfl ?_); refine goesL_ (some 83) rfl rfl Try.func11 (by kernel_rfl) rfl #[.agg #[.int .i64 a0_0, .slice A0_1 l0_1.length c0_1]] rfl mpx ?_; (with_reducible refine (laws_toClock.calls kj53 a0_0 _ _ l0_1 t649 t650 _ ?side1 ?side2 A80.out).mono ?_); (case side1 => exact pkC (Kd.C_below HR0_1.out HB.out)); (case side2 => exact HC0_1.out); rintro e w93 ⟨v651, rfl, ho0, hb⟩; refine ⟨_, rfl, ?_⟩; have HO652 := am (Kd.R_lower (Kd.R_new' (Kd.R_new' (Kd.R_new' ho0 (Kd.R_lt (pkR HO_626001.out))) (Kd.Q_lt (pkQ HO_631001.out))) (Kd.Q_lt (pkQ HO_637001.out))) (below_size (pkW HB.out))); replace HO_626001 := am (Kd.R_elder' (pkR HO_626001.out) (Kd.R_base ho0) hb); replace HO_631001 := am (Kd.Q_elder' (pkQ HO_631001.out) (Kd.R_base ho0) hb); replace HO_637001 := am (Kd.Q_elder' (pkQ HO_637001.out) (Kd.R_base ho0) hb); replace BK614 := am (blk_below (pkK BK614.out) hb); replace BK625 := am (blk_below (pkK BK625.out) hb); replace BK630 := am (blk_below (pkK BK630.out) hb); replace BK636 := am (blk_below (pkK BK636.out) hb); replace HB := am (below_step (pkW HB.out) hb); (try clear hb ho0); obtain ⟨Ao94, co94, eo94⟩ := Kd.R_slice HO652.out; subst eo94) | ((with_reducible refine gate_callee (f := 29) rfl ?_); refine goesL_ (some 86) rfl rfl Try.func29 (by kernel_rfl) rfl #[.agg #[.int .i64 t649, .slice Ao94 t650.length co94], .int .i64 a1, .int .i64 a2] rfl mpx ?_; (with_reducible refine (impl_SetTimer.calls kj53 t649 _ _ t650 a1 a2 t653 t654 t657 _ ?side1 ?side2 A81.out).mono ?_); (case side1 => exact pkC (Kd.R_reads' HO652.out).2.2); (case side2 => exact (Kd.R_reads' HO652.out).2.1); rintro e w95 ⟨v655, rfl, ho0, hb⟩; refine ⟨_, rfl, ?_⟩; have HO656 := am (Kd.R_lower (Kd.R_new' (Kd.R_new' (Kd.R_new' (Kd.R_new' ho0 (Kd.R_lt (pkR HO_626001.out))) (Kd.Q_lt (pkQ HO_631001.out))) (Kd.Q_lt (pkQ HO_637001.out))) (Kd.R_lt (pkR HO652.out))) (below_size (pkW HB.out))); replace HO_626001 := am (Kd.R_elder' (pkR HO_626001.out) (Kd.R_base ho0) hb); replace HO_631001 := am (Kd.Q_elder' (pkQ HO_631001.out) (Kd.R_base ho0) hb); replace HO_637001 := am (Kd.Q_elder' (pkQ HO_637001.out) (Kd.R_base ho0) hb); replace HO652 := am (Kd.R_elder' (pkR HO652.out) (Kd.R_base ho0) hb); replace BK614 := am (blk_below (pkK BK614.out) hb); replace BK625 := am (blk_below (pkK BK625.out) hb); replace BK630 := am (blk_below (pkK BK630.out) hb); replace BK636 := am (blk_below (pkK BK636.out) hb); replace HB := am (below_step (pkW HB.out) hb); (try clear hb ho0)) | ((with_reducible refine gate_dst (N := 16) rfl ?_); refine box_event ?hg (N := 16) ?hd (cs := #[.int .i64 0, .slice none 0 0]) (t := 29) ?hr ?_; (case hd => rfl); (case hg => rfl); (case hr => first | (go_simp; done) | (go_simp; rfl)); intro gb658 hg w96 hbox hb; replace HO_626001 := am (Kd.R_below (pkR HO_626001.out) hb); replace HO_631001 := am (Kd.Q_below (pkQ HO_631001.out) hb); replace HO_637001 := am (Kd.Q_below (pkQ HO_637001.out) hb); replace HO652 := am (Kd.R_below (pkR HO652.out) hb); replace HO656 := am (Kd.R_below (pkR HO656.out) hb); have BK658 := am (hbox); have GW658 := am ((by rw [hg]; exact (below_size (pkW HB.out)) : w.heap.size ≤ gb658)); have GE658 := am ((by rw [hg]; exact (below_size (pkW HB.out)) : w.heap.size ≤ gb658)); replace HB := am (below_step (pkW HB.out) hb); have NB614_658 := am ((by rw [hg]; exact Nat.ne_of_lt (blk_lt (g := gb614) (o := .cells #[.int .i64 a0_0, .slice A0_1 l0_1.length c0_1] 24 (0, 0)) (pkK BK614.out)) : gb614 ≠ gb658)); have NB658_614 := am ((by rw [hg]; exact Nat.ne_of_gt (blk_lt (g := gb614) (o := .cells #[.int .i64 a0_0, .slice A0_1 l0_1.length c0_1] 24 (0, 0)) (pkK BK614.out)) : gb658 ≠ gb614)); replace BK614 := am (blk_below (pkK BK614.out) hb); have NB625_658 := am ((by rw [hg]; exact Nat.ne_of_lt (blk_lt (g := gb625) (o := .cells #[.int .i64 t620, .slice Ao24 t621.length co24] 29 (0, 0)) (pkK BK625.out)) : gb625 ≠ gb658)); have NB658_625 := am ((by rw [hg]; exact Nat.ne_of_gt (blk_lt (g := gb625) (o := .cells #[.int .i64 t620, .slice Ao24 t621.length co24] 29 (0, 0)) (pkK BK625.out)) : gb658 ≠ gb625)); replace BK625 := am (blk_below (pkK BK625.out) hb); have NB630_658 := am ((by rw [hg]; exact Nat.ne_of_lt (blk_lt (g := gb630) (o := .cells #[.int .i64 t626, .slice Ao31 t644.length co31] 29 (0, 0)) (pkK BK630.out)) : gb630 ≠ gb658)); have NB658_630 := am ((by rw [hg]; exact Nat.ne_of_gt (blk_lt (g := gb630) (o := .cells #[.int .i64 t626, .slice Ao31 t644.length co31] 29 (0, 0)) (pkK BK630.out)) : gb658 ≠ gb630)); replace BK630 := am (blk_below (pkK BK630.out) hb); have NB636_658 := am ((by rw [hg]; exact Nat.ne_of_lt (blk_lt (g := gb636) (o := .cells #[.int .i64 t631, .slice Ao38 t632.length co38] 29 (0, 0)) (pkK BK636.out)) : gb636 ≠ gb658)); have NB658_636 := am ((by rw [hg]; exact Nat.ne_of_gt (blk_lt (g := gb636) (o := .cells #[.int .i64 t631, .slice Ao38 t632.length co38] 29 (0, 0)) (pkK BK636.out)) : gb658 ≠ gb636)); replace BK636 := am (blk_below (pkK BK636.out) hb); clear hb hbox hg; have hnb97 := NB658_614.out; have hnc97 := NB614_658.out; have hnb98 := NB658_625.out; have hnc98 := NB625_658.out; have hnb99 := NB658_630.out; have hnc99 := NB630_658.out; have hnb100 := NB658_636.out; have hnc100 := NB636_658.out; obtain ⟨hcz101_0, hcz101_1, hfz101_0, hfz101_1⟩ := bk2 BK658.out; obtain ⟨Ao102, co102, eo102⟩ := Kd.R_slice HO656.out; subst eo102))
           (try simp only [Act.put, List.setIfInBounds_toArray, List.set_cons_zero, List.set_cons_succ])
           go_cut [97] (fun v97 wc => ∃ (kq : Nat) (x97_81 : Bool), v97 = .bool x97_81 ∧ Aside0 (laws_FnExactSetTimer.j2 kq t646 x97_81 t631 t647 = some r) ∧ Aside0 (kq ≤ kj53) ∧ Aside0 (Kd.R k46 46 wc w.heap.size (fun k_ => some k_ ≠ ((.slice Ao31 t644.length co31) : Value).ownBlock ∧ some k_ ≠ ((.slice Ao38 t632.length co38) : Value).ownBlock ∧ some k_ ≠ ((.slice Ao102 t654.length co102) : Value).ownBlock) (.slice Ao24 t621.length co24) t621) ∧ Aside0 (Kd.Q k46 46 wc w.heap.size (fun k_ => some k_ ≠ ((.slice Ao24 t621.length co24) : Value).ownBlock ∧ some k_ ≠ ((.slice Ao38 t632.length co38) : Value).ownBlock ∧ some k_ ≠ ((.slice Ao102 t654.length co102) : Value).ownBlock) (.slice Ao31 t644.length co31) t644) ∧ Aside0 (Kd.Q k46 46 wc w.heap.size (fun k_ => some k_ ≠ ((.slice Ao24 t621.length co24) : Value).ownBlock ∧ some k_ ≠ ((.slice Ao31 t644.length co31) : Value).ownBlock ∧ some k_ ≠ ((.slice Ao102 t654.length co102) : Value).ownBlock) (.slice Ao38 t632.length co38) t647) ∧ Aside0 (Kd.R k46 46 wc w.heap.size (fun k_ => some k_ ≠ ((.slice Ao24 t621.length co24) : Value).ownBlock ∧ some k_ ≠ ((.slice Ao31 t644.length co31) : Value).ownBlock ∧ some k_ ≠ ((.slice Ao38 t632.length co38) : Value).ownBlock) (.slice Ao102 t654.length co102) t654) ∧ Aside0 (wc.heap[gb614]? = some (.cells #[.int .i64 a0_0, (.slice A0_1 l0_1.length c0_1)] 24 (0, 0))) ∧ Aside0 (wc.heap[gb625]? = some (.cells #[.int .i64 t620, (.slice Ao24 t621.length co24)] 29 (0, 0))) ∧ Aside0 (wc.heap[gb630]? = some (.cells #[.int .i64 t626, (.slice Ao31 t644.length co31)] 29 (0, 0))) ∧ Aside0 (wc.heap[gb636]? = some (.cells #[.int .i64 t631, (.slice Ao38 t632.length co38)] 29 (0, 0))) ∧ Aside0 (wc.heap[gb658]? = some (.cells #[.int .i64 t653, (.slice Ao102 t654.length co102)] 29 (0, 0))) ∧ Aside0 (Below w.heap.size w wc))
           case first =>
            have H := HC82.out
            clear HC82
            replace H := Option.bind_eq_some_iff.mp H
            obtain ⟨t659, A1030, H⟩ := H
            replace H : (if t659 = true then (laws_FnExactSetTimer.j2 kj53 t646 (t657 != t624) t631 t647) else (laws_FnExactSetTimer.j2 kj53 t646 true t631 t647)) = some r := H
            have A103 := am A1030
            clear A1030
            by_cases c104 : t659 = true
            ·subst c104
             replace H : (laws_FnExactSetTimer.j2 kj53 t646 (t657 != t624) t631 t647) = some r := by rw [if_pos rfl] at H; exact H
             have H' := am H
             clear H
             have hnb105 := NB658_614.out
             have hnc105 := NB614_658.out
             have hnb106 := NB658_625.out
             have hnc106 := NB625_658.out
             have hnb107 := NB658_630.out
             have hnc107 := NB630_658.out
             have hnb108 := NB658_636.out
             have hnc108 := NB636_658.out
             obtain ⟨hcz109_0, hcz109_1, hfz109_0, hfz109_1⟩ := bk2 BK658.out
             have hnb110 := NB625_614.out
             have hnc110 := NB614_625.out
             have hnb111 := NB625_630.out
             have hnc111 := NB630_625.out
             have hnb112 := NB625_636.out
             have hnc112 := NB636_625.out
             obtain ⟨hcz113_0, hcz113_1, hfz113_0, hfz113_1⟩ := bk2 BK625.out
             go_wp2_with (first | ((with_reducible refine gate_callee (f := 13) rfl ?_); refine goesL_ (some 91) rfl rfl Try.func13 (by kernel_rfl) rfl #[.agg #[.int .i64 t653, .slice Ao102 t654.length co102], .agg #[.int .i64 t620, .slice Ao24 t621.length co24]] rfl mpx ?_; (with_reducible refine (laws_eqClock.calls kj53 t653 _ _ t654 t620 _ _ t621 true _ ?side1 ?side2 ?side3 ?side4 A103.out).mono ?_); (case side1 => refine (Kd.R_reads' (e := 46) (base := w.heap.size) (ok := fun k_ => ((((True ∧ some k_ ≠ (.slice Ao24 t621.length co24 : Value).ownBlock) ∧ some k_ ≠ (.slice Ao31 t644.length co31 : Value).ownBlock) ∧ some k_ ≠ (.slice Ao38 t632.length co38 : Value).ownBlock) ∧ some k_ ≠ (.slice Ao94 t650.length co94 : Value).ownBlock)) (n := t654.length) (c := co102) ?_).2.2; exact (by (with_reducible repeat (first | apply Kd.R_alloc | apply Kd.R_drewN | apply Kd.R_drew)); exact (Kd.R_mono (Kd.R_far (p := ⟨gb658, 1, none⟩) (Kd.R_far (p := ⟨gb658, 0, none⟩) (Kd.R_types HO656.out BK658.out (by decide)) (fun _ hk => hk.2) (.int .i64 t653)) (fun _ hk => hk.2) (.slice Ao102 t654.length co102)) (fun _ h_ => h_.1)))); (case side2 => exact (Kd.R_reads' HO656.out).2.1); (case side3 => refine (Kd.R_reads' (e := 46) (base := w.heap.size) (ok := fun k_ => (((some k_ ≠ (.slice Ao31 t644.length co31 : Value).ownBlock ∧ some k_ ≠ (.slice Ao38 t632.length co38 : Value).ownBlock) ∧ some k_ ≠ (.slice Ao94 t650.length co94 : Value).ownBlock) ∧ some k_ ≠ (.slice Ao102 t654.length co102 : Value).ownBlock)) (n := t621.length) (c := co24) ?_).2.2; exact (by (with_reducible repeat (first | apply Kd.R_alloc | apply Kd.R_drewN | apply Kd.R_drew)); exact (Kd.R_mono (Kd.R_far (p := ⟨gb658, 1, none⟩) (Kd.R_far (p := ⟨gb658, 0, none⟩) (Kd.R_types HO_626001.out BK658.out (by decide)) (fun _ hk => hk.2) (.int .i64 t653)) (fun _ hk => hk.2) (.slice Ao102 t654.length co102)) (fun _ h_ => h_.1)))); (case side4 => exact (Kd.R_reads' HO_626001.out).2.1); rintro e w114 ⟨rfl, hb⟩; refine ⟨_, rfl, ?_⟩; replace HO_626001 := am (Kd.R_below (by (with_reducible repeat (first | apply Kd.R_alloc | apply Kd.R_drewN | apply Kd.R_drew)); exact (Kd.R_mono (Kd.R_far (p := ⟨gb658, 1, none⟩) (Kd.R_far (p := ⟨gb658, 0, none⟩) (Kd.R_types HO_626001.out BK658.out (by decide)) (fun _ hk => hk.2) (.int .i64 t653)) (fun _ hk => hk.2) (.slice Ao102 t654.length co102)) (fun _ h_ => h_.1))) hb); replace HO_631001 := am (Kd.Q_below (by (with_reducible repeat (first | apply Kd.Q_alloc | apply Kd.Q_drewN | apply Kd.Q_drew)); exact (Kd.Q_mono (Kd.Q_far (p := ⟨gb658, 1, none⟩) (Kd.Q_far (p := ⟨gb658, 0, none⟩) (Kd.Q_types HO_631001.out BK658.out (by decide)) (fun _ hk => hk.2) (.int .i64 t653)) (fun _ hk => hk.2) (.slice Ao102 t654.length co102)) (fun _ h_ => h_.1))) hb); replace HO_637001 := am (Kd.Q_below (by (with_reducible repeat (first | apply Kd.Q_alloc | apply Kd.Q_drewN | apply Kd.Q_drew)); exact (Kd.Q_mono (Kd.Q_far (p := ⟨gb658, 1, none⟩) (Kd.Q_far (p := ⟨gb658, 0, none⟩) (Kd.Q_types HO_637001.out BK658.out (by decide)) (fun _ hk => hk.2) (.int .i64 t653)) (fun _ hk => hk.2) (.slice Ao102 t654.length co102)) (fun _ h_ => h_.1))) hb); replace HO652 := am (Kd.R_below (by (with_reducible repeat (first | apply Kd.R_alloc | apply Kd.R_drewN | apply Kd.R_drew)); exact (Kd.R_mono (Kd.R_far (p := ⟨gb658, 1, none⟩) (Kd.R_far (p := ⟨gb658, 0, none⟩) (Kd.R_types HO652.out BK658.out (by decide)) (fun _ hk => hk.2) (.int .i64 t653)) (fun _ hk => hk.2) (.slice Ao102 t654.length co102)) (fun _ h_ => h_.1))) hb); replace HO656 := am (Kd.R_below (by (with_reducible repeat (first | apply Kd.R_alloc | apply Kd.R_drewN | apply Kd.R_drew)); exact (Kd.R_mono (Kd.R_far (p := ⟨gb658, 1, none⟩) (Kd.R_far (p := ⟨gb658, 0, none⟩) (Kd.R_types HO656.out BK658.out (by decide)) (fun _ hk => hk.2) (.int .i64 t653)) (fun _ hk => hk.2) (.slice Ao102 t654.length co102)) (fun _ h_ => h_.1))) hb); replace BK614 := am (blk_below (g := gb614) (o := .cells #[.int .i64 a0_0, .slice A0_1 l0_1.length c0_1] 24 (0, 0)) (by (with_reducible repeat (first | refine blk_drewN ?_ _ | refine blk_drew ?_ | refine blk_alloc ?_ _)); refine blk_far ?_ NB614_658.out _; (with_reducible repeat (first | refine blk_drewN ?_ _ | refine blk_drew ?_ | refine blk_alloc ?_ _)); refine blk_far ?_ NB614_658.out _; exact pkK BK614.out) hb); replace BK625 := am (blk_below (g := gb625) (o := .cells #[.int .i64 t620, .slice Ao24 t621.length co24] 29 (0, 0)) (by (with_reducible repeat (first | refine blk_drewN ?_ _ | refine blk_drew ?_ | refine blk_alloc ?_ _)); refine blk_far ?_ NB625_658.out _; (with_reducible repeat (first | refine blk_drewN ?_ _ | refine blk_drew ?_ | refine blk_alloc ?_ _)); refine blk_far ?_ NB625_658.out _; exact pkK BK625.out) hb); replace BK630 := am (blk_below (g := gb630) (o := .cells #[.int .i64 t626, .slice Ao31 t644.length co31] 29 (0, 0)) (by (with_reducible repeat (first | refine blk_drewN ?_ _ | refine blk_drew ?_ | refine blk_alloc ?_ _)); refine blk_far ?_ NB630_658.out _; (with_reducible repeat (first | refine blk_drewN ?_ _ | refine blk_drew ?_ | refine blk_alloc ?_ _)); refine blk_far ?_ NB630_658.out _; exact pkK BK630.out) hb); replace BK636 := am (blk_below (g := gb636) (o := .cells #[.int .i64 t631, .slice Ao38 t632.length co38] 29 (0, 0)) (by (with_reducible repeat (first | refine blk_drewN ?_ _ | refine blk_drew ?_ | refine blk_alloc ?_ _)); refine blk_far ?_ NB636_658.out _; (with_reducible repeat (first | refine blk_drewN ?_ _ | refine blk_drew ?_ | refine blk_alloc ?_ _)); refine blk_far ?_ NB636_658.out _; exact pkK BK636.out) hb); replace BK658 := am (blk_below (g := gb658) (o := .cells #[.int .i64 t653, .slice Ao102 t654.length co102] 29 (0, 0)) (by (with_reducible repeat (first | refine blk_drewN ?_ _ | refine blk_drew ?_ | refine blk_alloc ?_ _)); refine blk_put (cs := #[.int .i64 t653, .slice none 0 0]) ?_ 1 _ rfl; (with_reducible repeat (first | refine blk_drewN ?_ _ | refine blk_drew ?_ | refine blk_alloc ?_ _)); refine blk_put (cs := #[.int .i64 0, .slice none 0 0]) ?_ 0 _ rfl; exact pkK BK658.out) hb); replace HB := am (below_step (pkW HB.out) hb); (try clear hb)))
             go_meet
             case rel => exact ⟨_, ((t657 != t624)), rfx, H', ⟨by have := HJ12.out; have := HJ53.out; first | omega | exact Nat.le_refl _⟩, ⟨by (try simp only [hl631001_53]); (with_reducible repeat (first | apply Kd.R_alloc | apply Kd.R_drewN | apply Kd.R_drew)); exact Kd.R_mono HO_626001.out (fun _ hk => ⟨hk.1.1.1, ⟨hk.1.1.2, hk.2⟩⟩)⟩, ⟨by (try simp only [hl631001_53]); (with_reducible repeat (first | apply Kd.Q_alloc | apply Kd.Q_drewN | apply Kd.Q_drew)); exact Kd.Q_mono HO_631001.out (fun _ hk => ⟨hk.1.1.1, ⟨hk.1.1.2, hk.2⟩⟩)⟩, ⟨by (try simp only [hl631001_53]); (with_reducible repeat (first | apply Kd.Q_alloc | apply Kd.Q_drewN | apply Kd.Q_drew)); exact Kd.Q_mono HO_637001.out (fun _ hk => ⟨hk.1.1.1, ⟨hk.1.1.2, hk.2⟩⟩)⟩, ⟨by (try simp only [hl631001_53]); (with_reducible repeat (first | apply Kd.R_alloc | apply Kd.R_drewN | apply Kd.R_drew)); exact Kd.R_mono HO656.out (fun _ hk => ⟨hk.1.1.1.2, ⟨hk.1.1.2, hk.1.2⟩⟩)⟩, ⟨by (try simp only [hl631001_53]); exact pkK BK614.out⟩, ⟨by (try simp only [hl631001_53]); exact pkK BK625.out⟩, ⟨by (try simp only [hl631001_53]); exact pkK BK630.out⟩, ⟨by (try simp only [hl631001_53]); exact pkK BK636.out⟩, ⟨by (try simp only [hl631001_53]); exact pkK BK658.out⟩, ⟨pkW HB.out⟩⟩
            ·replace c104 := Bool.eq_false_iff.mpr c104
             subst c104
             replace H : (laws_FnExactSetTimer.j2 kj53 t646 true t631 t647) = some r := by rw [if_neg (show ¬ (false = true) by decide)] at H; exact H
             cases kj53 with
             | zero => exact absurd H (by simp [laws_FnExactSetTimer.j2])
             | succ k_ => (simp only [laws_FnExactSetTimer.j2, if_pos] at H; exact absurd (Option.some.inj H) (by rw [HQ_.out]; simp))
           case rest =>
            clear HC82
            try clear c1
            try clear c2
            try clear p2
            try clear c3
            try clear c4
            try clear c5
            try clear c5b0
            try clear c6
            try clear c7
            try clear c8
            try clear c9
            try clear c10
            try clear c11
            try clear c13
            try clear c16
            try clear c17
            try clear c22
            try clear c28
            try clear c29
            try clear c34
            try clear c35
            try clear c36
            try clear c40
            try clear c41
            try clear c42
            try clear c43
            try clear c45
            try clear c46
            try clear c49
            try clear c52
            try clear c59
            try clear c60
            try clear c61
            try clear c64
            try clear c64b0
            try clear c66
            try clear c67
            try clear c68
            try clear c69
            try clear c71
            try clear c72
            try clear c75
            try clear c78
            try clear c78b0
            try clear c79
            try clear c79b0
            try clear c79b1
            try clear c83
            try clear c84
            try clear c85
            try clear c90
            try clear c91
            try clear c97
            try clear c98
            try clear c99
            try clear c100
            try clear c104
            try clear c105
            try clear c106
            try clear c107
            try clear c108
            try clear c110
            try clear c111
            try clear c112
            try clear hcz101_0
            try clear hcz101_1
            try clear hcz109_0
            try clear hcz109_1
            try clear hcz113_0
            try clear hcz113_1
            try clear hcz15_0
            try clear hcz15_1
            try clear hcz17_0
            try clear hcz17_1
            try clear hcz23_0
            try clear hcz23_1
            try clear hcz25_0
            try clear hcz25_1
            try clear hcz30_0
            try clear hcz30_1
            try clear hcz37_0
            try clear hcz37_1
            try clear hcz44_0
            try clear hcz44_1
            try clear hcz47_0
            try clear hcz47_1
            try clear hcz62_0
            try clear hcz62_1
            try clear hcz70_0
            try clear hcz70_1
            try clear hcz73_0
            try clear hcz73_1
            try clear hcz7_0
            try clear hcz7_1
            try clear hcz86_0
            try clear hcz86_1
            try clear hcz88_0
            try clear hcz88_1
            try clear hcz92_0
            try clear hcz92_1
            try clear hfz101_0
            try clear hfz101_1
            try clear hfz109_0
            try clear hfz109_1
            try clear hfz113_0
            try clear hfz113_1
            try clear hfz15_0
            try clear hfz15_1
            try clear hfz17_0
            try clear hfz17_1
            try clear hfz23_0
            try clear hfz23_1
            try clear hfz25_0
            try clear hfz25_1
            try clear hfz30_0
            try clear hfz30_1
            try clear hfz37_0
            try clear hfz37_1
            try clear hfz44_0
            try clear hfz44_1
            try clear hfz47_0
            try clear hfz47_1
            try clear hfz62_0
            try clear hfz62_1
            try clear hfz70_0
            try clear hfz70_1
            try clear hfz73_0
            try clear hfz73_1
            try clear hfz7_0
            try clear hfz7_1
            try clear hfz86_0
            try clear hfz86_1
            try clear hfz88_0
            try clear hfz88_1
            try clear hfz92_0
            try clear hfz92_1
            try clear p2
            obtain ⟨kq, x97_81, rfl, HA, HJ81, HO_626001, HO_631001, HO_637001, HO_659001, BK614, BK625, BK630, BK636, BK658, HB⟩ := hcut
            have hl637001_81 := (Kd.Q_reads' HO_637001.out).1
            rw [hl637001_81] at HO_637001
            (try simp only [hl637001_81])
            (try simp only [hl637001_81] at BK614)
            (try simp only [hl637001_81] at BK625)
            (try simp only [hl637001_81] at BK630)
            (try simp only [hl637001_81] at BK636)
            (try simp only [hl637001_81] at BK658)
            (try simp only [hl637001_81] at HO_626001)
            (try simp only [hl637001_81] at HO_631001)
            (try simp only [hl637001_81] at HO_659001)
            cases kq with
            | zero => exact absurd HA.out (by simp [laws_FnExactSetTimer.j2])
            | succ kj81 =>
             have H := HA.out
             clear HA
             simp only [laws_FnExactSetTimer.j2] at H
             by_cases c115 : x97_81 = true
             ·subst c115
              replace H : (some false) = some r := by rw [if_pos rfl] at H; exact H
              exact absurd (Option.some.inj H) (by rw [HQ_.out]; simp)
             ·replace c115 := Bool.eq_false_iff.mpr c115
              subst c115
              replace H : ((laws_heldClock.f kj81 t631 t647 1).bind fun t660 => (if t660 < 0 then (some false) else (if t660 = t646 then (some true) else (some false)))) = some r := by rw [if_neg (show ¬ (false = true) by decide)] at H; exact H
              replace H := Option.bind_eq_some_iff.mp H
              obtain ⟨t660, A1160, H⟩ := H
              replace H : (if t660 < 0 then (some false) else (if t660 = t646 then (some true) else (some false))) = some r := H
              have A116 := am A1160
              clear A1160
              by_cases c117 : t660 < 0
              ·rw [if_pos c117] at H
               have c117b0 : decide (t660 < 0) = true := decide_eq_true c117
               clear c117
               exact absurd (Option.some.inj H) (by rw [HQ_.out]; simp)
              ·rw [if_neg c117] at H
               have c117b0 : decide (t660 < 0) = false := decide_eq_false c117
               clear c117
               by_cases c118 : t660 = t646
               ·rw [if_pos c118] at H
                have c118b0 : (t660 == t646) = true := beq_iff_eq.mpr c118
                have c118b1 : (t660 != t646) = false := bne_eq_false_iff_eq.mpr c118
                clear c118
                obtain rfl := Option.some.inj H
                have hnb119 := NB636_614.out
                have hnc119 := NB614_636.out
                have hnb120 := NB636_625.out
                have hnc120 := NB625_636.out
                have hnb121 := NB636_630.out
                have hnc121 := NB630_636.out
                have hnb122 := NB636_658.out
                have hnc122 := NB658_636.out
                obtain ⟨hcz123_0, hcz123_1, hfz123_0, hfz123_1⟩ := bk2 BK636.out
                go_wp2_with (first | ((with_reducible refine gate_callee (f := 17) rfl ?_); refine goesL_ (some 100) rfl rfl Try.func17 (by kernel_rfl) rfl #[.agg #[.int .i64 t631, .slice Ao38 t647.length co38], .int .i64 1] rfl mpx ?_; (with_reducible refine (laws_heldClock.calls kj81 t631 _ _ t647 1 t660 _ ?side1 ?side2 A116.out).mono ?_); (case side1 => repeat (first | exact (Kd.Q_reads' HO_637001.out).2.2 | (with_reducible refine Kd.C_alloc ?_ _) | (with_reducible refine Kd.C_drewN ?_ _) | (with_reducible refine Kd.C_drew ?_))); (case side2 => exact (Kd.Q_reads' HO_637001.out).2.1); rintro e w124 ⟨rfl, hb⟩; refine ⟨_, rfl, ?_⟩; replace HO_626001 := am (Kd.R_below (pkR HO_626001.out) hb); replace HO_631001 := am (Kd.Q_below (pkQ HO_631001.out) hb); replace HO_637001 := am (Kd.Q_below (pkQ HO_637001.out) hb); replace HO_659001 := am (Kd.R_below (pkR HO_659001.out) hb); replace BK614 := am (blk_below (pkK BK614.out) hb); replace BK625 := am (blk_below (pkK BK625.out) hb); replace BK630 := am (blk_below (pkK BK630.out) hb); replace BK636 := am (blk_below (pkK BK636.out) hb); replace BK658 := am (blk_below (pkK BK658.out) hb); replace HB := am (below_step (pkW HB.out) hb); (try clear hb)))
                go_ret
                exact ⟨rfe, pkW HB.out⟩
               ·rw [if_neg c118] at H
                have c118b0 : (t660 == t646) = false := beq_eq_false_iff_ne.mpr c118
                have c118b1 : (t660 != t646) = true := bne_iff_ne.mpr c118
                exact absurd (Option.some.inj H) (by rw [HQ_.out]; simp)
          ·rw [if_neg c79] at H
           have c79b0 : (t648 == t646) = false := beq_eq_false_iff_ne.mpr c79
           have c79b1 : (t648 != t646) = true := bne_iff_ne.mpr c79
           exact absurd (Option.some.inj H) (by rw [HQ_.out]; simp)
     ·replace c52 := Bool.eq_false_iff.mpr c52
      subst c52
      replace H : (some false) = some r := by rw [if_neg (show ¬ (false = true) by decide)] at H; exact H
      exact absurd (Option.some.inj H) (by rw [HQ_.out]; simp)
end Go.Proofs.Ytfgjfheiekhmlaa.Z
