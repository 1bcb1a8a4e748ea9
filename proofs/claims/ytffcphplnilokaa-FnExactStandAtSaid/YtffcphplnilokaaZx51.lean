/- The Go functions laws_FnExactStandAt as Lean functions, each with a proof that its code comes to just these answers; conditions: those of each theorem. -/
import Derived.Test.YtffcphplnilokaaZx0
import Derived.Test.YtffcphplnilokaaZx20
import Derived.Test.YtffcphplnilokaaZx22
import Derived.Test.YtffcphplnilokaaZx24
import Derived.Test.YtffcphplnilokaaZx26
import Derived.Test.YtffcphplnilokaaZx31
import Derived.Test.YtffcphplnilokaaZx32
import Derived.Test.YtffcphplnilokaaZx33
namespace Go.Proofs.Ytffcphplnilokaa.Z
open Go.RowKit Go.Proofs.YtffcphplnilokaaW.PrintWords Go.Proofs.YtffcphplnilokaaW.PrintLast Go.Proofs.YtffcphplnilokaaW.PrintMore
attribute [local go_sem] max2_int min2_int max_two min_two max_three min_three max_four min_four   -- for this text's walks alone
set_option linter.unusedVariables false
set_option linter.unusedSimpArgs false
mutual
def laws_FnExactStandAt.j0 : Nat → Int → Int → Int → Bool → Int → List Int → List Int → Int → List Int → List Int → Int → List Int → List Int → Int → List Int → List Int → Option (Bool)
 | 0, _, _, _, _, _, _, _, _, _, _, _, _, _, _, _, _ => none
 | k + 1, x1, x7, x10, x44, x647000, x647001, x647002, x664000, x664001, x664002, x672000, x672001, x672002, x681000, x681001, x681002 => if x44 = true then (some false) else ((laws_toLatch.f k x647000 x647001 x647002).bind fun bt682 => ((laws_eqLatch.f k x672000 x672001 x672002 bt682.1 bt682.2.1 bt682.2.2).bind fun t689 => (if t689 = true then ((laws_markLatch.f k x672000 x672001 x672002 1).bind fun bt690 => (if bt690.1 < 0 then (laws_FnExactStandAt.j1 k x1 x7 true x647000 x647001 x647002 x664000 x664001 x664002 x681000 x681001 x681002) else ((laws_eqLatch.f k x681000 x681001 x681002 x664000 x664001 x664002).bind fun t693 => (if t693 = true then (laws_FnExactStandAt.j1 k x1 x7 (x10 != x7) x647000 x647001 x647002 x664000 x664001 x664002 x681000 x681001 x681002) else (laws_FnExactStandAt.j1 k x1 x7 true x647000 x647001 x647002 x664000 x664001 x664002 x681000 x681001 x681002))))) else (some false))))
def laws_FnExactStandAt.j1 : Nat → Int → Int → Bool → Int → List Int → List Int → Int → List Int → List Int → Int → List Int → List Int → Option (Bool)
 | 0, _, _, _, _, _, _, _, _, _, _, _, _ => none
 | k + 1, x1, x7, x65, x647000, x647001, x647002, x664000, x664001, x664002, x681000, x681001, x681002 => if x65 = true then (some false) else ((laws_markLatch.f k x681000 x681001 x681002 1).bind fun bt694 => ((laws_heldLatch.f k x681000 bt694.2.1 bt694.2.2 1).bind fun t697 => (if t697 < 0 then (some false) else (if t697 = bt694.1 then ((laws_toLatch.f k x647000 x647001 x647002).bind fun bt698 => ((impl_StandAt.f k bt698.1 bt698.2.1 bt698.2.2 x1).bind fun bt705 => ((laws_eqLatch.f k bt705.1 bt705.2.1 bt705.2.2.1 x664000 x664001 x664002).bind fun t714 => (if t714 = true then (laws_FnExactStandAt.j2 k bt694.1 (bt705.2.2.2 != x7) x681000 bt694.2.1 bt694.2.2) else (laws_FnExactStandAt.j2 k bt694.1 true x681000 bt694.2.1 bt694.2.2))))) else (some false)))))
def laws_FnExactStandAt.j2 : Nat → Int → Bool → Int → List Int → List Int → Option (Bool)
 | 0, _, _, _, _, _ => none
 | k + 1, x12, x92, x681000, x681001, x681002 => if x92 = true then (some false) else ((laws_heldLatch.f k x681000 x681001 x681002 1).bind fun t715 => (if t715 < 0 then (some false) else (if t715 = x12 then (some true) else (some false))))
end
def laws_FnExactStandAt.f (k : Nat) (a0_0 : Int) (l0_1 : List Int) (l0_2 : List Int) (a1 : Int) : Option (Bool) := (laws_szLatch.f a0_0 l0_1 l0_2 1048576).bind fun t647 => (if t647 < 0 then (some true) else ((laws_toLatch.f k a0_0 l0_1 l0_2).bind fun bt648 => ((spec_StandAt.f k bt648.1 bt648.2.1 bt648.2.2 a1).bind fun bt655 => ((laws_toLatch.f k a0_0 l0_1 l0_2).bind fun bt664 => ((impl_StandAt.f k bt664.1 bt664.2.1 bt664.2.2 a1).bind fun bt672 => ((laws_eqLatch.f k bt672.1 bt672.2.1 bt672.2.2.1 bt655.1 bt655.2.1 bt655.2.2.1).bind fun t681 => (if t681 = true then (laws_FnExactStandAt.j0 k a1 bt655.2.2.2 bt672.2.2.2 (bt672.2.2.2 != bt655.2.2.2) a0_0 l0_1 l0_2 bt655.1 bt655.2.1 bt655.2.2.1 bt664.1 bt664.2.1 bt664.2.2 bt672.1 bt672.2.1 bt672.2.2.1) else (laws_FnExactStandAt.j0 k a1 bt655.2.2.2 bt672.2.2.2 true a0_0 l0_1 l0_2 bt655.1 bt655.2.1 bt655.2.2.1 bt664.1 bt664.2.1 bt664.2.2 bt672.1 bt672.2.1 bt672.2.2.1))))))))
theorem laws_FnExactStandAt.mono_l : ∀ k, (∀ y0 y1 y2 y3 y4 y5 y6 y7 y8 y9 y10 y11 y12 y13 y14 y15, LeO (laws_FnExactStandAt.j0 k y0 y1 y2 y3 y4 y5 y6 y7 y8 y9 y10 y11 y12 y13 y14 y15) (laws_FnExactStandAt.j0 (k + 1) y0 y1 y2 y3 y4 y5 y6 y7 y8 y9 y10 y11 y12 y13 y14 y15)) ∧ (∀ y0 y1 y2 y3 y4 y5 y6 y7 y8 y9 y10 y11, LeO (laws_FnExactStandAt.j1 k y0 y1 y2 y3 y4 y5 y6 y7 y8 y9 y10 y11) (laws_FnExactStandAt.j1 (k + 1) y0 y1 y2 y3 y4 y5 y6 y7 y8 y9 y10 y11)) ∧ (∀ y0 y1 y2 y3 y4, LeO (laws_FnExactStandAt.j2 k y0 y1 y2 y3 y4) (laws_FnExactStandAt.j2 (k + 1) y0 y1 y2 y3 y4))
 | 0 => ⟨fun _ _ _ _ _ _ _ _ _ _ _ _ _ _ _ _ r h => by simp [laws_FnExactStandAt.j0] at h, fun _ _ _ _ _ _ _ _ _ _ _ _ r h => by simp [laws_FnExactStandAt.j1] at h, fun _ _ _ _ _ r h => by simp [laws_FnExactStandAt.j2] at h⟩
 | k + 1 => by
  obtain ⟨ih0, ih1, ih2⟩ := laws_FnExactStandAt.mono_l k
  refine ⟨?_, ?_, ?_⟩
  ·intro y0 y1 y2 y3 y4 y5 y6 y7 y8 y9 y10 y11 y12 y13 y14 y15
   unfold laws_FnExactStandAt.j0
   repeat' first
   | (with_reducible exact ih0 _ _ _ _ _ _ _ _ _ _ _ _ _ _ _ _)
   | (with_reducible exact ih1 _ _ _ _ _ _ _ _ _ _ _ _)
   | (with_reducible exact ih2 _ _ _ _ _)
   | (with_reducible exact impl_StandAt.mono _ _ _ _ _)
   | (with_reducible exact laws_eqLatch.mono _ _ _ _ _ _ _)
   | (with_reducible exact laws_heldLatch.mono _ _ _ _ _)
   | (with_reducible exact laws_markLatch.mono _ _ _ _ _)
   | (with_reducible exact laws_toLatch.mono _ _ _ _)
   | (with_reducible exact spec_StandAt.mono _ _ _ _ _)
   | (with_reducible exact LeO.refl _)
   | (with_reducible exact LeO.none _)
   | (with_reducible refine LeO.ite ?_ ?_)
   | (with_reducible refine LeO.bind ?_ (fun _ => ?_))
  ·intro y0 y1 y2 y3 y4 y5 y6 y7 y8 y9 y10 y11
   unfold laws_FnExactStandAt.j1
   repeat' first
   | (with_reducible exact ih0 _ _ _ _ _ _ _ _ _ _ _ _ _ _ _ _)
   | (with_reducible exact ih1 _ _ _ _ _ _ _ _ _ _ _ _)
   | (with_reducible exact ih2 _ _ _ _ _)
   | (with_reducible exact impl_StandAt.mono _ _ _ _ _)
   | (with_reducible exact laws_eqLatch.mono _ _ _ _ _ _ _)
   | (with_reducible exact laws_heldLatch.mono _ _ _ _ _)
   | (with_reducible exact laws_markLatch.mono _ _ _ _ _)
   | (with_reducible exact laws_toLatch.mono _ _ _ _)
   | (with_reducible exact spec_StandAt.mono _ _ _ _ _)
   | (with_reducible exact LeO.refl _)
   | (with_reducible exact LeO.none _)
   | (with_reducible refine LeO.ite ?_ ?_)
   | (with_reducible refine LeO.bind ?_ (fun _ => ?_))
  ·intro y0 y1 y2 y3 y4
   unfold laws_FnExactStandAt.j2
   repeat' first
   | (with_reducible exact ih0 _ _ _ _ _ _ _ _ _ _ _ _ _ _ _ _)
   | (with_reducible exact ih1 _ _ _ _ _ _ _ _ _ _ _ _)
   | (with_reducible exact ih2 _ _ _ _ _)
   | (with_reducible exact impl_StandAt.mono _ _ _ _ _)
   | (with_reducible exact laws_eqLatch.mono _ _ _ _ _ _ _)
   | (with_reducible exact laws_heldLatch.mono _ _ _ _ _)
   | (with_reducible exact laws_markLatch.mono _ _ _ _ _)
   | (with_reducible exact laws_toLatch.mono _ _ _ _)
   | (with_reducible exact spec_StandAt.mono _ _ _ _ _)
   | (with_reducible exact LeO.refl _)
   | (with_reducible exact LeO.none _)
   | (with_reducible refine LeO.ite ?_ ?_)
   | (with_reducible refine LeO.bind ?_ (fun _ => ?_))
theorem laws_FnExactStandAt.mono : ∀ a0 a1 a2 a3 k, LeO (laws_FnExactStandAt.f k a0 a1 a2 a3) (laws_FnExactStandAt.f (k + 1) a0 a1 a2 a3) := by
 intro a0 a1 a2 a3 k
 obtain ⟨ih0, ih1, ih2⟩ := laws_FnExactStandAt.mono_l k
 unfold laws_FnExactStandAt.f
 repeat' first
   | (with_reducible exact ih0 _ _ _ _ _ _ _ _ _ _ _ _ _ _ _ _)
   | (with_reducible exact ih1 _ _ _ _ _ _ _ _ _ _ _ _)
   | (with_reducible exact ih2 _ _ _ _ _)
   | (with_reducible exact impl_StandAt.mono _ _ _ _ _)
   | (with_reducible exact laws_eqLatch.mono _ _ _ _ _ _ _)
   | (with_reducible exact laws_heldLatch.mono _ _ _ _ _)
   | (with_reducible exact laws_markLatch.mono _ _ _ _ _)
   | (with_reducible exact laws_toLatch.mono _ _ _ _)
   | (with_reducible exact spec_StandAt.mono _ _ _ _ _)
   | (with_reducible exact LeO.refl _)
   | (with_reducible exact LeO.none _)
   | (with_reducible refine LeO.ite ?_ ?_)
   | (with_reducible refine LeO.bind ?_ (fun _ => ?_))
set_option maxHeartbeats 8000000 in
set_option maxRecDepth 100000 in
theorem laws_FnExactStandAt.calls (k : Nat) (a0_0 : Int) (A0_1 : Option Addr) (c0_1 : Nat) (l0_1 : List Int) (A0_2 : Option Addr) (c0_2 : Nat) (l0_2 : List Int) (a1 : Int) (r : Bool) (w : World) (hr0_1 : Kd.C (Kd.int .i64) w A0_1 l0_1.length l0_1) (hc0_1 : l0_1.length ≤ c0_1) (hr0_2 : Kd.C (Kd.int .i64) w A0_2 l0_2.length l0_2) (hc0_2 : l0_2.length ≤ c0_2) (HQ_ : Aside0 (r = true)) (h : laws_FnExactStandAt.f k a0_0 l0_1 l0_2 a1 = some r) :
  Calls Try.prog 7 #[.agg #[.int .i64 a0_0, .slice A0_1 l0_1.length c0_1, .slice A0_2 l0_2.length c0_2], .int .i64 a1] w fun e w' => e = .returned (.bool r) ∧ Below w.heap.size w w' := by
 have hu43 := Try.underlying43
 have hu46 := Try.underlying46
 have HR0_1 := am hr0_1
 have HC0_1 := am hc0_1
 clear hr0_1 hc0_1
 have HR0_2 := am hr0_2
 have HC0_2 := am hc0_2
 clear hr0_2 hc0_2
 have HB := am (Below.refl w.heap.size w)
 have H : ((laws_szLatch.f a0_0 l0_1 l0_2 1048576).bind fun t647 => (if t647 < 0 then (some true) else ((laws_toLatch.f k a0_0 l0_1 l0_2).bind fun bt648 => ((spec_StandAt.f k bt648.1 bt648.2.1 bt648.2.2 a1).bind fun bt655 => ((laws_toLatch.f k a0_0 l0_1 l0_2).bind fun bt664 => ((impl_StandAt.f k bt664.1 bt664.2.1 bt664.2.2 a1).bind fun bt672 => ((laws_eqLatch.f k bt672.1 bt672.2.1 bt672.2.2.1 bt655.1 bt655.2.1 bt655.2.2.1).bind fun t681 => (if t681 = true then (laws_FnExactStandAt.j0 k a1 bt655.2.2.2 bt672.2.2.2 (bt672.2.2.2 != bt655.2.2.2) a0_0 l0_1 l0_2 bt655.1 bt655.2.1 bt655.2.2.1 bt664.1 bt664.2.1 bt664.2.2 bt672.1 bt672.2.1 bt672.2.2.1) else (laws_FnExactStandAt.j0 k a1 bt655.2.2.2 bt672.2.2.2 true a0_0 l0_1 l0_2 bt655.1 bt655.2.1 bt655.2.2.1 bt664.1 bt664.2.1 bt664.2.2 bt672.1 bt672.2.1 bt672.2.2.1))))))))) = some r := h
 clear h
 replace H := Option.bind_eq_some_iff.mp H
 obtain ⟨t647, A30, H⟩ := H
 replace H : (if t647 < 0 then (some true) else ((laws_toLatch.f k a0_0 l0_1 l0_2).bind fun bt648 => ((spec_StandAt.f k bt648.1 bt648.2.1 bt648.2.2 a1).bind fun bt655 => ((laws_toLatch.f k a0_0 l0_1 l0_2).bind fun bt664 => ((impl_StandAt.f k bt664.1 bt664.2.1 bt664.2.2 a1).bind fun bt672 => ((laws_eqLatch.f k bt672.1 bt672.2.1 bt672.2.2.1 bt655.1 bt655.2.1 bt655.2.2.1).bind fun t681 => (if t681 = true then (laws_FnExactStandAt.j0 k a1 bt655.2.2.2 bt672.2.2.2 (bt672.2.2.2 != bt655.2.2.2) a0_0 l0_1 l0_2 bt655.1 bt655.2.1 bt655.2.2.1 bt664.1 bt664.2.1 bt664.2.2 bt672.1 bt672.2.1 bt672.2.2.1) else (laws_FnExactStandAt.j0 k a1 bt655.2.2.2 bt672.2.2.2 true a0_0 l0_1 l0_2 bt655.1 bt655.2.1 bt655.2.2.1 bt664.1 bt664.2.1 bt664.2.2 bt672.1 bt672.2.1 bt672.2.2.1)))))))) = some r := H
 have A3 := am A30
 clear A30
 by_cases c4 : t647 < 0
 ·rw [if_pos c4] at H
  have c4b0 : decide (t647 < 0) = true := decide_eq_true c4
  clear c4
  obtain rfl := Option.some.inj H
  go_enter Try.func7, Try.ntmps7
  go_wp2_with (first | ((with_reducible refine gate_dst (N := 2) rfl ?_); refine box_event ?hg (N := 2) ?hd (cs := #[.int .i64 a0_0, .slice A0_1 l0_1.length c0_1, .slice A0_2 l0_2.length c0_2]) (t := 43) ?hr ?_; (case hd => rfl); (case hg => rfl); (case hr => first | (go_simp; done) | (go_simp; rfl)); intro gb646 hg w5 hbox hb; have BK646 := am (hbox); have GW646 := am ((by rw [hg]; exact (below_size (pkB HB.out)) : w.heap.size ≤ gb646)); have GE646 := am ((by rw [hg]; exact (below_size (pkB HB.out)) : w.heap.size ≤ gb646)); replace HB := am (below_step (pkB HB.out) hb); clear hb hbox hg; obtain ⟨hcz6_0, hcz6_1, hcz6_2, hfz6_0, hfz6_1, hfz6_2⟩ := bk3 BK646.out) | ((with_reducible refine gate_callee (f := 23) rfl ?_); refine goesL_ (some 18) rfl rfl Try.func23 (by kernel_rfl) rfl #[.agg #[.int .i64 a0_0, .slice A0_1 l0_1.length c0_1, .slice A0_2 l0_2.length c0_2], .int .i64 1048576] rfl mpx ?_; (with_reducible refine (laws_szLatch.calls a0_0 _ _ l0_1 _ _ l0_2 1048576 t647 _ ?side1 ?side2 ?side3 ?side4 A3.out).mono ?_); (case side1 => exact pkC (Kd.C_below HR0_1.out HB.out)); (case side2 => exact HC0_1.out); (case side3 => exact pkC (Kd.C_below HR0_2.out HB.out)); (case side4 => exact HC0_2.out); rintro e w7 ⟨rfl, hb⟩; refine ⟨_, rfl, ?_⟩; replace BK646 := am (blk_below (pkK BK646.out) hb); replace HB := am (below_step (pkW HB.out) hb); (try clear hb)))
  go_ret
  exact ⟨rfe, pkW HB.out⟩
 ·rw [if_neg c4] at H
  have c4b0 : decide (t647 < 0) = false := decide_eq_false c4
  clear c4
  replace H := Option.bind_eq_some_iff.mp H
  obtain ⟨⟨t648, t649, t652⟩, A80, H⟩ := H
  replace H : ((spec_StandAt.f k t648 t649 t652 a1).bind fun bt655 => ((laws_toLatch.f k a0_0 l0_1 l0_2).bind fun bt664 => ((impl_StandAt.f k bt664.1 bt664.2.1 bt664.2.2 a1).bind fun bt672 => ((laws_eqLatch.f k bt672.1 bt672.2.1 bt672.2.2.1 bt655.1 bt655.2.1 bt655.2.2.1).bind fun t681 => (if t681 = true then (laws_FnExactStandAt.j0 k a1 bt655.2.2.2 bt672.2.2.2 (bt672.2.2.2 != bt655.2.2.2) a0_0 l0_1 l0_2 bt655.1 bt655.2.1 bt655.2.2.1 bt664.1 bt664.2.1 bt664.2.2 bt672.1 bt672.2.1 bt672.2.2.1) else (laws_FnExactStandAt.j0 k a1 bt655.2.2.2 bt672.2.2.2 true a0_0 l0_1 l0_2 bt655.1 bt655.2.1 bt655.2.2.1 bt664.1 bt664.2.1 bt664.2.2 bt672.1 bt672.2.1 bt672.2.2.1)))))) = some r := H
  have A8 := am A80
  clear A80
  replace H := Option.bind_eq_some_iff.mp H
  obtain ⟨⟨t655, t656, t659, t662⟩, A90, H⟩ := H
  replace H : ((laws_toLatch.f k a0_0 l0_1 l0_2).bind fun bt664 => ((impl_StandAt.f k bt664.1 bt664.2.1 bt664.2.2 a1).bind fun bt672 => ((laws_eqLatch.f k bt672.1 bt672.2.1 bt672.2.2.1 t655 t656 t659).bind fun t681 => (if t681 = true then (laws_FnExactStandAt.j0 k a1 t662 bt672.2.2.2 (bt672.2.2.2 != t662) a0_0 l0_1 l0_2 t655 t656 t659 bt664.1 bt664.2.1 bt664.2.2 bt672.1 bt672.2.1 bt672.2.2.1) else (laws_FnExactStandAt.j0 k a1 t662 bt672.2.2.2 true a0_0 l0_1 l0_2 t655 t656 t659 bt664.1 bt664.2.1 bt664.2.2 bt672.1 bt672.2.1 bt672.2.2.1))))) = some r := H
  have A9 := am A90
  clear A90
  replace H := Option.bind_eq_some_iff.mp H
  obtain ⟨⟨t664, t665, t668⟩, A100, H⟩ := H
  replace H : ((impl_StandAt.f k t664 t665 t668 a1).bind fun bt672 => ((laws_eqLatch.f k bt672.1 bt672.2.1 bt672.2.2.1 t655 t656 t659).bind fun t681 => (if t681 = true then (laws_FnExactStandAt.j0 k a1 t662 bt672.2.2.2 (bt672.2.2.2 != t662) a0_0 l0_1 l0_2 t655 t656 t659 t664 t665 t668 bt672.1 bt672.2.1 bt672.2.2.1) else (laws_FnExactStandAt.j0 k a1 t662 bt672.2.2.2 true a0_0 l0_1 l0_2 t655 t656 t659 t664 t665 t668 bt672.1 bt672.2.1 bt672.2.2.1)))) = some r := H
  have A10 := am A100
  clear A100
  replace H := Option.bind_eq_some_iff.mp H
  obtain ⟨⟨t672, t673, t676, t679⟩, A110, H⟩ := H
  replace H : ((laws_eqLatch.f k t672 t673 t676 t655 t656 t659).bind fun t681 => (if t681 = true then (laws_FnExactStandAt.j0 k a1 t662 t679 (t679 != t662) a0_0 l0_1 l0_2 t655 t656 t659 t664 t665 t668 t672 t673 t676) else (laws_FnExactStandAt.j0 k a1 t662 t679 true a0_0 l0_1 l0_2 t655 t656 t659 t664 t665 t668 t672 t673 t676))) = some r := H
  have A11 := am A110
  clear A110
  have HC12 := am H
  clear H
  go_enter Try.func7, Try.ntmps7
  go_upto_region 8 with (first | ((with_reducible refine gate_dst (N := 2) rfl ?_); refine box_event ?hg (N := 2) ?hd (cs := #[.int .i64 a0_0, .slice A0_1 l0_1.length c0_1, .slice A0_2 l0_2.length c0_2]) (t := 43) ?hr ?_; (case hd => rfl); (case hg => rfl); (case hr => first | (go_simp; done) | (go_simp; rfl)); intro gb646 hg w13 hbox hb; have BK646 := am (hbox); have GW646 := am ((by rw [hg]; exact (below_size (pkB HB.out)) : w.heap.size ≤ gb646)); have GE646 := am ((by rw [hg]; exact (below_size (pkB HB.out)) : w.heap.size ≤ gb646)); replace HB := am (below_step (pkB HB.out) hb); clear hb hbox hg; obtain ⟨hcz14_0, hcz14_1, hcz14_2, hfz14_0, hfz14_1, hfz14_2⟩ := bk3 BK646.out) | ((with_reducible refine gate_callee (f := 23) rfl ?_); refine goesL_ (some 18) rfl rfl Try.func23 (by kernel_rfl) rfl #[.agg #[.int .i64 a0_0, .slice A0_1 l0_1.length c0_1, .slice A0_2 l0_2.length c0_2], .int .i64 1048576] rfl mpx ?_; (with_reducible refine (laws_szLatch.calls a0_0 _ _ l0_1 _ _ l0_2 1048576 t647 _ ?side1 ?side2 ?side3 ?side4 A3.out).mono ?_); (case side1 => exact pkC (Kd.C_below HR0_1.out HB.out)); (case side2 => exact HC0_1.out); (case side3 => exact pkC (Kd.C_below HR0_2.out HB.out)); (case side4 => exact HC0_2.out); rintro e w15 ⟨rfl, hb⟩; refine ⟨_, rfl, ?_⟩; replace BK646 := am (blk_below (pkK BK646.out) hb); replace HB := am (below_step (pkW HB.out) hb); (try clear hb); obtain ⟨hcz16_0, hcz16_1, hcz16_2, hfz16_0, hfz16_1, hfz16_2⟩ := bk3 BK646.out) | ((with_reducible refine gate_callee (f := 25) rfl ?_); refine goesL_ (some 23) rfl rfl Try.func25 (by kernel_rfl) rfl #[.agg #[.int .i64 a0_0, .slice A0_1 l0_1.length c0_1, .slice A0_2 l0_2.length c0_2]] rfl mpx ?_; (with_reducible refine (laws_toLatch.calls k a0_0 _ _ l0_1 _ _ l0_2 t648 t649 t652 _ ?side1 ?side2 ?side3 ?side4 A8.out).mono ?_); (case side1 => exact pkC (Kd.C_below HR0_1.out HB.out)); (case side2 => exact HC0_1.out); (case side3 => exact pkC (Kd.C_below HR0_2.out HB.out)); (case side4 => exact HC0_2.out); rintro e w17 ⟨v650, v653, rfl, ho0, ho1, hb⟩; refine ⟨_, rfl, ?_⟩; have HO651 := am (Kd.R_lower ho0 (below_size (pkW HB.out))); have HO654 := am (Kd.R_lower ho1 (below_size (pkW HB.out))); replace BK646 := am (blk_below (pkK BK646.out) hb); replace HB := am (below_step (pkW HB.out) hb); (try clear hb ho0 ho1); obtain ⟨Ao18, co18, eo18⟩ := Kd.R_slice HO651.out; subst eo18; obtain ⟨Ao19, co19, eo19⟩ := Kd.R_slice HO654.out; subst eo19) | ((with_reducible refine gate_callee (f := 35) rfl ?_); refine goesL_ (some 25) rfl rfl Try.func35 (by kernel_rfl) rfl #[.agg #[.int .i64 t648, .slice Ao18 t649.length co18, .slice Ao19 t652.length co19], .int .i64 a1] rfl mpx ?_; (with_reducible refine (spec_StandAt.calls k t648 _ _ t649 _ _ t652 a1 t655 t656 t659 t662 _ ?side1 ?side2 ?side3 ?side4 A9.out).mono ?_); (case side1 => exact pkC (Kd.R_reads' HO651.out).2.2); (case side2 => exact (Kd.R_reads' HO651.out).2.1); (case side3 => exact pkC (Kd.R_reads' HO654.out).2.2); (case side4 => exact (Kd.R_reads' HO654.out).2.1); rintro e w20 ⟨v657, v660, rfl, ho0, ho1, hb⟩; refine ⟨_, rfl, ?_⟩; have HO658 := am (Kd.R_lower (Kd.R_new' (Kd.R_new' ho0 (Kd.R_lt (pkR HO651.out))) (Kd.R_lt (pkR HO654.out))) (below_size (pkW HB.out))); have HO661 := am (Kd.R_lower (Kd.R_new' (Kd.R_new' ho1 (Kd.R_lt (pkR HO651.out))) (Kd.R_lt (pkR HO654.out))) (below_size (pkW HB.out))); replace HO651 := am (Kd.R_mono (Kd.R_told (Kd.R_told (Kd.R_old (pkR HO651.out) hb) (Kd.R_base ho0)) (Kd.R_base ho1)) (fun _ h_ => h_.1)); replace HO654 := am (Kd.R_mono (Kd.R_told (Kd.R_told (Kd.R_old (pkR HO654.out) hb) (Kd.R_base ho0)) (Kd.R_base ho1)) (fun _ h_ => h_.1)); replace BK646 := am (blk_below (pkK BK646.out) hb); replace HB := am (below_step (pkW HB.out) hb); (try clear hb ho0 ho1)) | ((with_reducible refine gate_dst (N := 6) rfl ?_); refine box_event ?hg (N := 6) ?hd (cs := #[.int .i64 0, .slice none 0 0, .slice none 0 0]) (t := 46) ?hr ?_; (case hd => rfl); (case hg => rfl); (case hr => first | (go_simp; done) | (go_simp; rfl)); intro gb663 hg w21 hbox hb; replace HO651 := am (Kd.R_below (pkR HO651.out) hb); replace HO654 := am (Kd.R_below (pkR HO654.out) hb); replace HO658 := am (Kd.R_below (pkR HO658.out) hb); replace HO661 := am (Kd.R_below (pkR HO661.out) hb); have BK663 := am (hbox); have GW663 := am ((by rw [hg]; exact (below_size (pkW HB.out)) : w.heap.size ≤ gb663)); have GE663 := am ((by rw [hg]; exact (below_size (pkW HB.out)) : w.heap.size ≤ gb663)); replace HB := am (below_step (pkW HB.out) hb); have NB646_663 := am ((by rw [hg]; exact Nat.ne_of_lt (blk_lt (g := gb646) (o := .cells #[.int .i64 a0_0, .slice A0_1 l0_1.length c0_1, .slice A0_2 l0_2.length c0_2] 43 (0, 0)) (pkK BK646.out)) : gb646 ≠ gb663)); have NB663_646 := am ((by rw [hg]; exact Nat.ne_of_gt (blk_lt (g := gb646) (o := .cells #[.int .i64 a0_0, .slice A0_1 l0_1.length c0_1, .slice A0_2 l0_2.length c0_2] 43 (0, 0)) (pkK BK646.out)) : gb663 ≠ gb646)); replace BK646 := am (blk_below (pkK BK646.out) hb); clear hb hbox hg; have hnb22 := NB663_646.out; have hnc22 := NB646_663.out; obtain ⟨hcz23_0, hcz23_1, hcz23_2, hfz23_0, hfz23_1, hfz23_2⟩ := bk3 BK663.out; obtain ⟨Ao24, co24, eo24⟩ := Kd.R_slice HO658.out; subst eo24; obtain ⟨Ao25, co25, eo25⟩ := Kd.R_slice HO661.out; subst eo25; obtain ⟨hcz26_0, hcz26_1, hcz26_2, hfz26_0, hfz26_1, hfz26_2⟩ := bk3 BK646.out) | ((with_reducible refine gate_callee (f := 25) rfl ?_); refine goesL_ (some 29) rfl rfl Try.func25 (by kernel_rfl) rfl #[.agg #[.int .i64 a0_0, .slice A0_1 l0_1.length c0_1, .slice A0_2 l0_2.length c0_2]] rfl mpx ?_; (with_reducible refine (laws_toLatch.calls k a0_0 _ _ l0_1 _ _ l0_2 t664 t665 t668 _ ?side1 ?side2 ?side3 ?side4 A10.out).mono ?_); (case side1 => exact Kd.C_below HR0_1.out (pkW HB.out)); (case side2 => exact HC0_1.out); (case side3 => exact Kd.C_below HR0_2.out (pkW HB.out)); (case side4 => exact HC0_2.out); rintro e w27 ⟨v666, v669, rfl, ho0, ho1, hb⟩; refine ⟨_, rfl, ?_⟩; have HO667 := am (Kd.R_lower (Kd.R_new' (Kd.R_new' (Kd.R_new' (Kd.R_new' ho0 (Kd.R_lt (by (with_reducible repeat (first | apply Kd.R_alloc | apply Kd.R_drewN | apply Kd.R_drew)); exact (Kd.R_mono (Kd.R_far (p := ⟨gb663, 2, none⟩) (Kd.R_far (p := ⟨gb663, 1, none⟩) (Kd.R_far (p := ⟨gb663, 0, none⟩) (Kd.R_types HO651.out BK663.out (by decide)) (fun _ hk => hk.2) (.int .i64 t655)) (fun _ hk => hk.2) (.slice Ao24 t656.length co24)) (fun _ hk => hk.2) (.slice Ao25 t659.length co25)) (fun _ h_ => h_.1))))) (Kd.R_lt (by (with_reducible repeat (first | apply Kd.R_alloc | apply Kd.R_drewN | apply Kd.R_drew)); exact (Kd.R_mono (Kd.R_far (p := ⟨gb663, 2, none⟩) (Kd.R_far (p := ⟨gb663, 1, none⟩) (Kd.R_far (p := ⟨gb663, 0, none⟩) (Kd.R_types HO654.out BK663.out (by decide)) (fun _ hk => hk.2) (.int .i64 t655)) (fun _ hk => hk.2) (.slice Ao24 t656.length co24)) (fun _ hk => hk.2) (.slice Ao25 t659.length co25)) (fun _ h_ => h_.1))))) (Kd.R_lt (by (with_reducible repeat (first | apply Kd.R_alloc | apply Kd.R_drewN | apply Kd.R_drew)); exact (Kd.R_mono (Kd.R_far (p := ⟨gb663, 2, none⟩) (Kd.R_far (p := ⟨gb663, 1, none⟩) (Kd.R_far (p := ⟨gb663, 0, none⟩) (Kd.R_types HO658.out BK663.out (by decide)) (fun _ hk => hk.2) (.int .i64 t655)) (fun _ hk => hk.2) (.slice Ao24 t656.length co24)) (fun _ hk => hk.2) (.slice Ao25 t659.length co25)) (fun _ h_ => h_.1))))) (Kd.R_lt (by (with_reducible repeat (first | apply Kd.R_alloc | apply Kd.R_drewN | apply Kd.R_drew)); exact (Kd.R_mono (Kd.R_far (p := ⟨gb663, 2, none⟩) (Kd.R_far (p := ⟨gb663, 1, none⟩) (Kd.R_far (p := ⟨gb663, 0, none⟩) (Kd.R_types HO661.out BK663.out (by decide)) (fun _ hk => hk.2) (.int .i64 t655)) (fun _ hk => hk.2) (.slice Ao24 t656.length co24)) (fun _ hk => hk.2) (.slice Ao25 t659.length co25)) (fun _ h_ => h_.1))))) (below_size (pkW HB.out))); have HO670 := am (Kd.R_lower (Kd.R_new' (Kd.R_new' (Kd.R_new' (Kd.R_new' ho1 (Kd.R_lt (by (with_reducible repeat (first | apply Kd.R_alloc | apply Kd.R_drewN | apply Kd.R_drew)); exact (Kd.R_mono (Kd.R_far (p := ⟨gb663, 2, none⟩) (Kd.R_far (p := ⟨gb663, 1, none⟩) (Kd.R_far (p := ⟨gb663, 0, none⟩) (Kd.R_types HO651.out BK663.out (by decide)) (fun _ hk => hk.2) (.int .i64 t655)) (fun _ hk => hk.2) (.slice Ao24 t656.length co24)) (fun _ hk => hk.2) (.slice Ao25 t659.length co25)) (fun _ h_ => h_.1))))) (Kd.R_lt (by (with_reducible repeat (first | apply Kd.R_alloc | apply Kd.R_drewN | apply Kd.R_drew)); exact (Kd.R_mono (Kd.R_far (p := ⟨gb663, 2, none⟩) (Kd.R_far (p := ⟨gb663, 1, none⟩) (Kd.R_far (p := ⟨gb663, 0, none⟩) (Kd.R_types HO654.out BK663.out (by decide)) (fun _ hk => hk.2) (.int .i64 t655)) (fun _ hk => hk.2) (.slice Ao24 t656.length co24)) (fun _ hk => hk.2) (.slice Ao25 t659.length co25)) (fun _ h_ => h_.1))))) (Kd.R_lt (by (with_reducible repeat (first | apply Kd.R_alloc | apply Kd.R_drewN | apply Kd.R_drew)); exact (Kd.R_mono (Kd.R_far (p := ⟨gb663, 2, none⟩) (Kd.R_far (p := ⟨gb663, 1, none⟩) (Kd.R_far (p := ⟨gb663, 0, none⟩) (Kd.R_types HO658.out BK663.out (by decide)) (fun _ hk => hk.2) (.int .i64 t655)) (fun _ hk => hk.2) (.slice Ao24 t656.length co24)) (fun _ hk => hk.2) (.slice Ao25 t659.length co25)) (fun _ h_ => h_.1))))) (Kd.R_lt (by (with_reducible repeat (first | apply Kd.R_alloc | apply Kd.R_drewN | apply Kd.R_drew)); exact (Kd.R_mono (Kd.R_far (p := ⟨gb663, 2, none⟩) (Kd.R_far (p := ⟨gb663, 1, none⟩) (Kd.R_far (p := ⟨gb663, 0, none⟩) (Kd.R_types HO661.out BK663.out (by decide)) (fun _ hk => hk.2) (.int .i64 t655)) (fun _ hk => hk.2) (.slice Ao24 t656.length co24)) (fun _ hk => hk.2) (.slice Ao25 t659.length co25)) (fun _ h_ => h_.1))))) (below_size (pkW HB.out))); replace HO651 := am (Kd.R_mono (Kd.R_told (Kd.R_told (Kd.R_old (by (with_reducible repeat (first | apply Kd.R_alloc | apply Kd.R_drewN | apply Kd.R_drew)); exact (Kd.R_mono (Kd.R_far (p := ⟨gb663, 2, none⟩) (Kd.R_far (p := ⟨gb663, 1, none⟩) (Kd.R_far (p := ⟨gb663, 0, none⟩) (Kd.R_types HO651.out BK663.out (by decide)) (fun _ hk => hk.2) (.int .i64 t655)) (fun _ hk => hk.2) (.slice Ao24 t656.length co24)) (fun _ hk => hk.2) (.slice Ao25 t659.length co25)) (fun _ h_ => h_.1))) hb) (Kd.R_base ho0)) (Kd.R_base ho1)) (fun _ h_ => h_.1)); replace HO654 := am (Kd.R_mono (Kd.R_told (Kd.R_told (Kd.R_old (by (with_reducible repeat (first | apply Kd.R_alloc | apply Kd.R_drewN | apply Kd.R_drew)); exact (Kd.R_mono (Kd.R_far (p := ⟨gb663, 2, none⟩) (Kd.R_far (p := ⟨gb663, 1, none⟩) (Kd.R_far (p := ⟨gb663, 0, none⟩) (Kd.R_types HO654.out BK663.out (by decide)) (fun _ hk => hk.2) (.int .i64 t655)) (fun _ hk => hk.2) (.slice Ao24 t656.length co24)) (fun _ hk => hk.2) (.slice Ao25 t659.length co25)) (fun _ h_ => h_.1))) hb) (Kd.R_base ho0)) (Kd.R_base ho1)) (fun _ h_ => h_.1)); replace HO658 := am (Kd.R_mono (Kd.R_told (Kd.R_told (Kd.R_old (by (with_reducible repeat (first | apply Kd.R_alloc | apply Kd.R_drewN | apply Kd.R_drew)); exact (Kd.R_mono (Kd.R_far (p := ⟨gb663, 2, none⟩) (Kd.R_far (p := ⟨gb663, 1, none⟩) (Kd.R_far (p := ⟨gb663, 0, none⟩) (Kd.R_types HO658.out BK663.out (by decide)) (fun _ hk => hk.2) (.int .i64 t655)) (fun _ hk => hk.2) (.slice Ao24 t656.length co24)) (fun _ hk => hk.2) (.slice Ao25 t659.length co25)) (fun _ h_ => h_.1))) hb) (Kd.R_base ho0)) (Kd.R_base ho1)) (fun _ h_ => h_.1)); replace HO661 := am (Kd.R_mono (Kd.R_told (Kd.R_told (Kd.R_old (by (with_reducible repeat (first | apply Kd.R_alloc | apply Kd.R_drewN | apply Kd.R_drew)); exact (Kd.R_mono (Kd.R_far (p := ⟨gb663, 2, none⟩) (Kd.R_far (p := ⟨gb663, 1, none⟩) (Kd.R_far (p := ⟨gb663, 0, none⟩) (Kd.R_types HO661.out BK663.out (by decide)) (fun _ hk => hk.2) (.int .i64 t655)) (fun _ hk => hk.2) (.slice Ao24 t656.length co24)) (fun _ hk => hk.2) (.slice Ao25 t659.length co25)) (fun _ h_ => h_.1))) hb) (Kd.R_base ho0)) (Kd.R_base ho1)) (fun _ h_ => h_.1)); replace BK646 := am (blk_below (g := gb646) (o := .cells #[.int .i64 a0_0, .slice A0_1 l0_1.length c0_1, .slice A0_2 l0_2.length c0_2] 43 (0, 0)) (by (with_reducible repeat (first | refine blk_drewN ?_ _ | refine blk_drew ?_ | refine blk_alloc ?_ _)); refine blk_far ?_ NB646_663.out _; (with_reducible repeat (first | refine blk_drewN ?_ _ | refine blk_drew ?_ | refine blk_alloc ?_ _)); refine blk_far ?_ NB646_663.out _; (with_reducible repeat (first | refine blk_drewN ?_ _ | refine blk_drew ?_ | refine blk_alloc ?_ _)); refine blk_far ?_ NB646_663.out _; exact pkK BK646.out) hb); replace BK663 := am (blk_below (g := gb663) (o := .cells #[.int .i64 t655, .slice Ao24 t656.length co24, .slice Ao25 t659.length co25] 46 (0, 0)) (by (with_reducible repeat (first | refine blk_drewN ?_ _ | refine blk_drew ?_ | refine blk_alloc ?_ _)); refine blk_put (cs := #[.int .i64 t655, .slice Ao24 t656.length co24, .slice none 0 0]) ?_ 2 _ rfl; (with_reducible repeat (first | refine blk_drewN ?_ _ | refine blk_drew ?_ | refine blk_alloc ?_ _)); refine blk_put (cs := #[.int .i64 t655, .slice none 0 0, .slice none 0 0]) ?_ 1 _ rfl; (with_reducible repeat (first | refine blk_drewN ?_ _ | refine blk_drew ?_ | refine blk_alloc ?_ _)); refine blk_put (cs := #[.int .i64 0, .slice none 0 0, .slice none 0 0]) ?_ 0 _ rfl; exact pkK BK663.out) hb); replace HB := am (below_step (pkW HB.out) hb); (try clear hb ho0 ho1)) | ((with_reducible refine gate_dst (N := 8) rfl ?_); refine box_event ?hg (N := 8) ?hd (cs := #[.int .i64 0, .slice none 0 0, .slice none 0 0]) (t := 46) ?hr ?_; (case hd => rfl); (case hg => rfl); (case hr => first | (go_simp; done) | (go_simp; rfl)); intro gb671 hg w28 hbox hb; replace HO651 := am (Kd.R_below (pkR HO651.out) hb); replace HO654 := am (Kd.R_below (pkR HO654.out) hb); replace HO658 := am (Kd.R_below (pkR HO658.out) hb); replace HO661 := am (Kd.R_below (pkR HO661.out) hb); replace HO667 := am (Kd.R_below (pkR HO667.out) hb); replace HO670 := am (Kd.R_below (pkR HO670.out) hb); have BK671 := am (hbox); have GW671 := am ((by rw [hg]; exact (below_size (pkW HB.out)) : w.heap.size ≤ gb671)); have GE671 := am ((by rw [hg]; exact (below_size (pkW HB.out)) : w.heap.size ≤ gb671)); replace HB := am (below_step (pkW HB.out) hb); have NB646_671 := am ((by rw [hg]; exact Nat.ne_of_lt (blk_lt (g := gb646) (o := .cells #[.int .i64 a0_0, .slice A0_1 l0_1.length c0_1, .slice A0_2 l0_2.length c0_2] 43 (0, 0)) (pkK BK646.out)) : gb646 ≠ gb671)); have NB671_646 := am ((by rw [hg]; exact Nat.ne_of_gt (blk_lt (g := gb646) (o := .cells #[.int .i64 a0_0, .slice A0_1 l0_1.length c0_1, .slice A0_2 l0_2.length c0_2] 43 (0, 0)) (pkK BK646.out)) : gb671 ≠ gb646)); replace BK646 := am (blk_below (pkK BK646.out) hb); have NB663_671 := am ((by rw [hg]; exact Nat.ne_of_lt (blk_lt (g := gb663) (o := .cells #[.int .i64 t655, .slice Ao24 t656.length co24, .slice Ao25 t659.length co25] 46 (0, 0)) (pkK BK663.out)) : gb663 ≠ gb671)); have NB671_663 := am ((by rw [hg]; exact Nat.ne_of_gt (blk_lt (g := gb663) (o := .cells #[.int .i64 t655, .slice Ao24 t656.length co24, .slice Ao25 t659.length co25] 46 (0, 0)) (pkK BK663.out)) : gb671 ≠ gb663)); replace BK663 := am (blk_below (pkK BK663.out) hb); clear hb hbox hg; have hnb29 := NB671_646.out; have hnc29 := NB646_671.out; have hnb30 := NB671_663.out; have hnc30 := NB663_671.out; obtain ⟨hcz31_0, hcz31_1, hcz31_2, hfz31_0, hfz31_1, hfz31_2⟩ := bk3 BK671.out; obtain ⟨Ao32, co32, eo32⟩ := Kd.R_slice HO667.out; subst eo32; obtain ⟨Ao33, co33, eo33⟩ := Kd.R_slice HO670.out; subst eo33) | ((with_reducible refine gate_callee (f := 28) rfl ?_); refine goesL_ (some 33) rfl rfl Try.func28 (by kernel_rfl) rfl #[.agg #[.int .i64 t664, .slice Ao32 t665.length co32, .slice Ao33 t668.length co33], .int .i64 a1] rfl mpx ?_; (with_reducible refine (impl_StandAt.calls k t664 _ _ t665 _ _ t668 a1 t672 t673 t676 t679 _ ?side1 ?side2 ?side3 ?side4 A11.out).mono ?_); (case side1 => refine (Kd.R_reads' (e := 3) (base := w.heap.size) (ok := fun k_ => ((((some k_ ≠ (.slice Ao33 t668.length co33 : Value).ownBlock ∧ some k_ ≠ (.slice Ao18 t649.length co18 : Value).ownBlock) ∧ some k_ ≠ (.slice Ao19 t652.length co19 : Value).ownBlock) ∧ some k_ ≠ (.slice Ao24 t656.length co24 : Value).ownBlock) ∧ some k_ ≠ (.slice Ao25 t659.length co25 : Value).ownBlock)) (n := t665.length) (c := co32) ?_).2.2; exact (by (with_reducible repeat (first | apply Kd.R_alloc | apply Kd.R_drewN | apply Kd.R_drew)); exact (Kd.R_mono (Kd.R_far (p := ⟨gb671, 2, none⟩) (Kd.R_far (p := ⟨gb671, 1, none⟩) (Kd.R_far (p := ⟨gb671, 0, none⟩) (Kd.R_types HO667.out BK671.out (by decide)) (fun _ hk => hk.2) (.int .i64 t664)) (fun _ hk => hk.2) (.slice Ao32 t665.length co32)) (fun _ hk => hk.2) (.slice Ao33 t668.length co33)) (fun _ h_ => h_.1)))); (case side2 => exact (Kd.R_reads' HO667.out).2.1); (case side3 => refine (Kd.R_reads' (e := 3) (base := w.heap.size) (ok := fun k_ => ((((some k_ ≠ (.slice Ao32 t665.length co32 : Value).ownBlock ∧ some k_ ≠ (.slice Ao18 t649.length co18 : Value).ownBlock) ∧ some k_ ≠ (.slice Ao19 t652.length co19 : Value).ownBlock) ∧ some k_ ≠ (.slice Ao24 t656.length co24 : Value).ownBlock) ∧ some k_ ≠ (.slice Ao25 t659.length co25 : Value).ownBlock)) (n := t668.length) (c := co33) ?_).2.2; exact (by (with_reducible repeat (first | apply Kd.R_alloc | apply Kd.R_drewN | apply Kd.R_drew)); exact (Kd.R_mono (Kd.R_far (p := ⟨gb671, 2, none⟩) (Kd.R_far (p := ⟨gb671, 1, none⟩) (Kd.R_far (p := ⟨gb671, 0, none⟩) (Kd.R_types HO670.out BK671.out (by decide)) (fun _ hk => hk.2) (.int .i64 t664)) (fun _ hk => hk.2) (.slice Ao32 t665.length co32)) (fun _ hk => hk.2) (.slice Ao33 t668.length co33)) (fun _ h_ => h_.1)))); (case side4 => exact (Kd.R_reads' HO670.out).2.1); rintro e w34 ⟨v674, v677, rfl, ho0, ho1, hb⟩; refine ⟨_, rfl, ?_⟩; have HO675 := am (Kd.R_lower (Kd.R_new' (Kd.R_new' (Kd.R_new' (Kd.R_new' (Kd.R_new' (Kd.R_new' ho0 (Kd.R_lt (by (with_reducible repeat (first | apply Kd.R_alloc | apply Kd.R_drewN | apply Kd.R_drew)); exact (Kd.R_mono (Kd.R_far (p := ⟨gb671, 2, none⟩) (Kd.R_far (p := ⟨gb671, 1, none⟩) (Kd.R_far (p := ⟨gb671, 0, none⟩) (Kd.R_types HO651.out BK671.out (by decide)) (fun _ hk => hk.2) (.int .i64 t664)) (fun _ hk => hk.2) (.slice Ao32 t665.length co32)) (fun _ hk => hk.2) (.slice Ao33 t668.length co33)) (fun _ h_ => h_.1))))) (Kd.R_lt (by (with_reducible repeat (first | apply Kd.R_alloc | apply Kd.R_drewN | apply Kd.R_drew)); exact (Kd.R_mono (Kd.R_far (p := ⟨gb671, 2, none⟩) (Kd.R_far (p := ⟨gb671, 1, none⟩) (Kd.R_far (p := ⟨gb671, 0, none⟩) (Kd.R_types HO654.out BK671.out (by decide)) (fun _ hk => hk.2) (.int .i64 t664)) (fun _ hk => hk.2) (.slice Ao32 t665.length co32)) (fun _ hk => hk.2) (.slice Ao33 t668.length co33)) (fun _ h_ => h_.1))))) (Kd.R_lt (by (with_reducible repeat (first | apply Kd.R_alloc | apply Kd.R_drewN | apply Kd.R_drew)); exact (Kd.R_mono (Kd.R_far (p := ⟨gb671, 2, none⟩) (Kd.R_far (p := ⟨gb671, 1, none⟩) (Kd.R_far (p := ⟨gb671, 0, none⟩) (Kd.R_types HO658.out BK671.out (by decide)) (fun _ hk => hk.2) (.int .i64 t664)) (fun _ hk => hk.2) (.slice Ao32 t665.length co32)) (fun _ hk => hk.2) (.slice Ao33 t668.length co33)) (fun _ h_ => h_.1))))) (Kd.R_lt (by (with_reducible repeat (first | apply Kd.R_alloc | apply Kd.R_drewN | apply Kd.R_drew)); exact (Kd.R_mono (Kd.R_far (p := ⟨gb671, 2, none⟩) (Kd.R_far (p := ⟨gb671, 1, none⟩) (Kd.R_far (p := ⟨gb671, 0, none⟩) (Kd.R_types HO661.out BK671.out (by decide)) (fun _ hk => hk.2) (.int .i64 t664)) (fun _ hk => hk.2) (.slice Ao32 t665.length co32)) (fun _ hk => hk.2) (.slice Ao33 t668.length co33)) (fun _ h_ => h_.1))))) (Kd.R_lt (by (with_reducible repeat (first | apply Kd.R_alloc | apply Kd.R_drewN | apply Kd.R_drew)); exact (Kd.R_mono (Kd.R_far (p := ⟨gb671, 2, none⟩) (Kd.R_far (p := ⟨gb671, 1, none⟩) (Kd.R_far (p := ⟨gb671, 0, none⟩) (Kd.R_types HO667.out BK671.out (by decide)) (fun _ hk => hk.2) (.int .i64 t664)) (fun _ hk => hk.2) (.slice Ao32 t665.length co32)) (fun _ hk => hk.2) (.slice Ao33 t668.length co33)) (fun _ h_ => h_.1))))) (Kd.R_lt (by (with_reducible repeat (first | apply Kd.R_alloc | apply Kd.R_drewN | apply Kd.R_drew)); exact (Kd.R_mono (Kd.R_far (p := ⟨gb671, 2, none⟩) (Kd.R_far (p := ⟨gb671, 1, none⟩) (Kd.R_far (p := ⟨gb671, 0, none⟩) (Kd.R_types HO670.out BK671.out (by decide)) (fun _ hk => hk.2) (.int .i64 t664)) (fun _ hk => hk.2) (.slice Ao32 t665.length co32)) (fun _ hk => hk.2) (.slice Ao33 t668.length co33)) (fun _ h_ => h_.1))))) (below_size (pkW HB.out))); have HO678 := am (Kd.R_lower (Kd.R_new' (Kd.R_new' (Kd.R_new' (Kd.R_new' (Kd.R_new' (Kd.R_new' ho1 (Kd.R_lt (by (with_reducible repeat (first | apply Kd.R_alloc | apply Kd.R_drewN | apply Kd.R_drew)); exact (Kd.R_mono (Kd.R_far (p := ⟨gb671, 2, none⟩) (Kd.R_far (p := ⟨gb671, 1, none⟩) (Kd.R_far (p := ⟨gb671, 0, none⟩) (Kd.R_types HO651.out BK671.out (by decide)) (fun _ hk => hk.2) (.int .i64 t664)) (fun _ hk => hk.2) (.slice Ao32 t665.length co32)) (fun _ hk => hk.2) (.slice Ao33 t668.length co33)) (fun _ h_ => h_.1))))) (Kd.R_lt (by (with_reducible repeat (first | apply Kd.R_alloc | apply Kd.R_drewN | apply Kd.R_drew)); exact (Kd.R_mono (Kd.R_far (p := ⟨gb671, 2, none⟩) (Kd.R_far (p := ⟨gb671, 1, none⟩) (Kd.R_far (p := ⟨gb671, 0, none⟩) (Kd.R_types HO654.out BK671.out (by decide)) (fun _ hk => hk.2) (.int .i64 t664)) (fun _ hk => hk.2) (.slice Ao32 t665.length co32)) (fun _ hk => hk.2) (.slice Ao33 t668.length co33)) (fun _ h_ => h_.1))))) (Kd.R_lt (by (with_reducible repeat (first | apply Kd.R_alloc | apply Kd.R_drewN | apply Kd.R_drew)); exact (Kd.R_mono (Kd.R_far (p := ⟨gb671, 2, none⟩) (Kd.R_far (p := ⟨gb671, 1, none⟩) (Kd.R_far (p := ⟨gb671, 0, none⟩) (Kd.R_types HO658.out BK671.out (by decide)) (fun _ hk => hk.2) (.int .i64 t664)) (fun _ hk => hk.2) (.slice Ao32 t665.length co32)) (fun _ hk => hk.2) (.slice Ao33 t668.length co33)) (fun _ h_ => h_.1))))) (Kd.R_lt (by (with_reducible repeat (first | apply Kd.R_alloc | apply Kd.R_drewN | apply Kd.R_drew)); exact (Kd.R_mono (Kd.R_far (p := ⟨gb671, 2, none⟩) (Kd.R_far (p := ⟨gb671, 1, none⟩) (Kd.R_far (p := ⟨gb671, 0, none⟩) (Kd.R_types HO661.out BK671.out (by decide)) (fun _ hk => hk.2) (.int .i64 t664)) (fun _ hk => hk.2) (.slice Ao32 t665.length co32)) (fun _ hk => hk.2) (.slice Ao33 t668.length co33)) (fun _ h_ => h_.1))))) (Kd.R_lt (by (with_reducible repeat (first | apply Kd.R_alloc | apply Kd.R_drewN | apply Kd.R_drew)); exact (Kd.R_mono (Kd.R_far (p := ⟨gb671, 2, none⟩) (Kd.R_far (p := ⟨gb671, 1, none⟩) (Kd.R_far (p := ⟨gb671, 0, none⟩) (Kd.R_types HO667.out BK671.out (by decide)) (fun _ hk => hk.2) (.int .i64 t664)) (fun _ hk => hk.2) (.slice Ao32 t665.length co32)) (fun _ hk => hk.2) (.slice Ao33 t668.length co33)) (fun _ h_ => h_.1))))) (Kd.R_lt (by (with_reducible repeat (first | apply Kd.R_alloc | apply Kd.R_drewN | apply Kd.R_drew)); exact (Kd.R_mono (Kd.R_far (p := ⟨gb671, 2, none⟩) (Kd.R_far (p := ⟨gb671, 1, none⟩) (Kd.R_far (p := ⟨gb671, 0, none⟩) (Kd.R_types HO670.out BK671.out (by decide)) (fun _ hk => hk.2) (.int .i64 t664)) (fun _ hk => hk.2) (.slice Ao32 t665.length co32)) (fun _ hk => hk.2) (.slice Ao33 t668.length co33)) (fun _ h_ => h_.1))))) (below_size (pkW HB.out))); replace HO651 := am (Kd.R_mono (Kd.R_told (Kd.R_told (Kd.R_old (by (with_reducible repeat (first | apply Kd.R_alloc | apply Kd.R_drewN | apply Kd.R_drew)); exact (Kd.R_mono (Kd.R_far (p := ⟨gb671, 2, none⟩) (Kd.R_far (p := ⟨gb671, 1, none⟩) (Kd.R_far (p := ⟨gb671, 0, none⟩) (Kd.R_types HO651.out BK671.out (by decide)) (fun _ hk => hk.2) (.int .i64 t664)) (fun _ hk => hk.2) (.slice Ao32 t665.length co32)) (fun _ hk => hk.2) (.slice Ao33 t668.length co33)) (fun _ h_ => h_.1))) hb) (Kd.R_base ho0)) (Kd.R_base ho1)) (fun _ h_ => h_.1)); replace HO654 := am (Kd.R_mono (Kd.R_told (Kd.R_told (Kd.R_old (by (with_reducible repeat (first | apply Kd.R_alloc | apply Kd.R_drewN | apply Kd.R_drew)); exact (Kd.R_mono (Kd.R_far (p := ⟨gb671, 2, none⟩) (Kd.R_far (p := ⟨gb671, 1, none⟩) (Kd.R_far (p := ⟨gb671, 0, none⟩) (Kd.R_types HO654.out BK671.out (by decide)) (fun _ hk => hk.2) (.int .i64 t664)) (fun _ hk => hk.2) (.slice Ao32 t665.length co32)) (fun _ hk => hk.2) (.slice Ao33 t668.length co33)) (fun _ h_ => h_.1))) hb) (Kd.R_base ho0)) (Kd.R_base ho1)) (fun _ h_ => h_.1)); replace HO658 := am (Kd.R_mono (Kd.R_told (Kd.R_told (Kd.R_old (by (with_reducible repeat (first | apply Kd.R_alloc | apply Kd.R_drewN | apply Kd.R_drew)); exact (Kd.R_mono (Kd.R_far (p := ⟨gb671, 2, none⟩) (Kd.R_far (p := ⟨gb671, 1, none⟩) (Kd.R_far (p := ⟨gb671, 0, none⟩) (Kd.R_types HO658.out BK671.out (by decide)) (fun _ hk => hk.2) (.int .i64 t664)) (fun _ hk => hk.2) (.slice Ao32 t665.length co32)) (fun _ hk => hk.2) (.slice Ao33 t668.length co33)) (fun _ h_ => h_.1))) hb) (Kd.R_base ho0)) (Kd.R_base ho1)) (fun _ h_ => h_.1)); replace HO661 := am (Kd.R_mono (Kd.R_told (Kd.R_told (Kd.R_old (by (with_reducible repeat (first | apply Kd.R_alloc | apply Kd.R_drewN | apply Kd.R_drew)); exact (Kd.R_mono (Kd.R_far (p := ⟨gb671, 2, none⟩) (Kd.R_far (p := ⟨gb671, 1, none⟩) (Kd.R_far (p := ⟨gb671, 0, none⟩) (Kd.R_types HO661.out BK671.out (by decide)) (fun _ hk => hk.2) (.int .i64 t664)) (fun _ hk => hk.2) (.slice Ao32 t665.length co32)) (fun _ hk => hk.2) (.slice Ao33 t668.length co33)) (fun _ h_ => h_.1))) hb) (Kd.R_base ho0)) (Kd.R_base ho1)) (fun _ h_ => h_.1)); replace HO667 := am (Kd.R_mono (Kd.R_told (Kd.R_told (Kd.R_old (by (with_reducible repeat (first | apply Kd.R_alloc | apply Kd.R_drewN | apply Kd.R_drew)); exact (Kd.R_mono (Kd.R_far (p := ⟨gb671, 2, none⟩) (Kd.R_far (p := ⟨gb671, 1, none⟩) (Kd.R_far (p := ⟨gb671, 0, none⟩) (Kd.R_types HO667.out BK671.out (by decide)) (fun _ hk => hk.2) (.int .i64 t664)) (fun _ hk => hk.2) (.slice Ao32 t665.length co32)) (fun _ hk => hk.2) (.slice Ao33 t668.length co33)) (fun _ h_ => h_.1))) hb) (Kd.R_base ho0)) (Kd.R_base ho1)) (fun _ h_ => h_.1)); replace HO670 := am (Kd.R_mono (Kd.R_told (Kd.R_told (Kd.R_old (by (with_reducible repeat (first | apply Kd.R_alloc | apply Kd.R_drewN | apply Kd.R_drew)); exact (Kd.R_mono (Kd.R_far (p := ⟨gb671, 2, none⟩) (Kd.R_far (p := ⟨gb671, 1, none⟩) (Kd.R_far (p := ⟨gb671, 0, none⟩) (Kd.R_types HO670.out BK671.out (by decide)) (fun _ hk => hk.2) (.int .i64 t664)) (fun _ hk => hk.2) (.slice Ao32 t665.length co32)) (fun _ hk => hk.2) (.slice Ao33 t668.length co33)) (fun _ h_ => h_.1))) hb) (Kd.R_base ho0)) (Kd.R_base ho1)) (fun _ h_ => h_.1)); replace BK646 := am (blk_below (g := gb646) (o := .cells #[.int .i64 a0_0, .slice A0_1 l0_1.length c0_1, .slice A0_2 l0_2.length c0_2] 43 (0, 0)) (by (with_reducible repeat (first | refine blk_drewN ?_ _ | refine blk_drew ?_ | refine blk_alloc ?_ _)); refine blk_far ?_ NB646_671.out _; (with_reducible repeat (first | refine blk_drewN ?_ _ | refine blk_drew ?_ | refine blk_alloc ?_ _)); refine blk_far ?_ NB646_671.out _; (with_reducible repeat (first | refine blk_drewN ?_ _ | refine blk_drew ?_ | refine blk_alloc ?_ _)); refine blk_far ?_ NB646_671.out _; exact pkK BK646.out) hb); replace BK663 := am (blk_below (g := gb663) (o := .cells #[.int .i64 t655, .slice Ao24 t656.length co24, .slice Ao25 t659.length co25] 46 (0, 0)) (by (with_reducible repeat (first | refine blk_drewN ?_ _ | refine blk_drew ?_ | refine blk_alloc ?_ _)); refine blk_far ?_ NB663_671.out _; (with_reducible repeat (first | refine blk_drewN ?_ _ | refine blk_drew ?_ | refine blk_alloc ?_ _)); refine blk_far ?_ NB663_671.out _; (with_reducible repeat (first | refine blk_drewN ?_ _ | refine blk_drew ?_ | refine blk_alloc ?_ _)); refine blk_far ?_ NB663_671.out _; exact pkK BK663.out) hb); replace BK671 := am (blk_below (g := gb671) (o := .cells #[.int .i64 t664, .slice Ao32 t665.length co32, .slice Ao33 t668.length co33] 46 (0, 0)) (by (with_reducible repeat (first | refine blk_drewN ?_ _ | refine blk_drew ?_ | refine blk_alloc ?_ _)); refine blk_put (cs := #[.int .i64 t664, .slice Ao32 t665.length co32, .slice none 0 0]) ?_ 2 _ rfl; (with_reducible repeat (first | refine blk_drewN ?_ _ | refine blk_drew ?_ | refine blk_alloc ?_ _)); refine blk_put (cs := #[.int .i64 t664, .slice none 0 0, .slice none 0 0]) ?_ 1 _ rfl; (with_reducible repeat (first | refine blk_drewN ?_ _ | refine blk_drew ?_ | refine blk_alloc ?_ _)); refine blk_put (cs := #[.int .i64 0, .slice none 0 0, .slice none 0 0]) ?_ 0 _ rfl; exact pkK BK671.out) hb); replace HB := am (below_step (pkW HB.out) hb); (try clear hb ho0 ho1)) | ((with_reducible refine gate_dst (N := 9) rfl ?_); refine box_event ?hg (N := 9) ?hd (cs := #[.int .i64 0, .slice none 0 0, .slice none 0 0]) (t := 46) ?hr ?_; (case hd => rfl); (case hg => rfl); (case hr => first | (go_simp; done) | (go_simp; rfl)); intro gb680 hg w35 hbox hb; replace HO651 := am (Kd.R_below (pkR HO651.out) hb); replace HO654 := am (Kd.R_below (pkR HO654.out) hb); replace HO658 := am (Kd.R_below (pkR HO658.out) hb); replace HO661 := am (Kd.R_below (pkR HO661.out) hb); replace HO667 := am (Kd.R_below (pkR HO667.out) hb); replace HO670 := am (Kd.R_below (pkR HO670.out) hb); replace HO675 := am (Kd.R_below (pkR HO675.out) hb); replace HO678 := am (Kd.R_below (pkR HO678.out) hb); have BK680 := am (hbox); have GW680 := am ((by rw [hg]; exact (below_size (pkW HB.out)) : w.heap.size ≤ gb680)); have GE680 := am ((by rw [hg]; exact (below_size (pkW HB.out)) : w.heap.size ≤ gb680)); replace HB := am (below_step (pkW HB.out) hb); have NB646_680 := am ((by rw [hg]; exact Nat.ne_of_lt (blk_lt (g := gb646) (o := .cells #[.int .i64 a0_0, .slice A0_1 l0_1.length c0_1, .slice A0_2 l0_2.length c0_2] 43 (0, 0)) (pkK BK646.out)) : gb646 ≠ gb680)); have NB680_646 := am ((by rw [hg]; exact Nat.ne_of_gt (blk_lt (g := gb646) (o := .cells #[.int .i64 a0_0, .slice A0_1 l0_1.length c0_1, .slice A0_2 l0_2.length c0_2] 43 (0, 0)) (pkK BK646.out)) : gb680 ≠ gb646)); replace BK646 := am (blk_below (pkK BK646.out) hb); have NB663_680 := am ((by rw [hg]; exact Nat.ne_of_lt (blk_lt (g := gb663) (o := .cells #[.int .i64 t655, .slice Ao24 t656.length co24, .slice Ao25 t659.length co25] 46 (0, 0)) (pkK BK663.out)) : gb663 ≠ gb680)); have NB680_663 := am ((by rw [hg]; exact Nat.ne_of_gt (blk_lt (g := gb663) (o := .cells #[.int .i64 t655, .slice Ao24 t656.length co24, .slice Ao25 t659.length co25] 46 (0, 0)) (pkK BK663.out)) : gb680 ≠ gb663)); replace BK663 := am (blk_below (pkK BK663.out) hb); have NB671_680 := am ((by rw [hg]; exact Nat.ne_of_lt (blk_lt (g := gb671) (o := .cells #[.int .i64 t664, .slice Ao32 t665.length co32, .slice Ao33 t668.length co33] 46 (0, 0)) (pkK BK671.out)) : gb671 ≠ gb680)); have NB680_671 := am ((by rw [hg]; exact Nat.ne_of_gt (blk_lt (g := gb671) (o := .cells #[.int .i64 t664, .slice Ao32 t665.length co32, .slice Ao33 t668.length co33] 46 (0, 0)) (pkK BK671.out)) : gb680 ≠ gb671)); replace BK671 := am (blk_below (pkK BK671.out) hb); clear hb hbox hg; have hnb36 := NB680_646.out; have hnc36 := NB646_680.out; have hnb37 := NB680_663.out; have hnc37 := NB663_680.out; have hnb38 := NB680_671.out; have hnc38 := NB671_680.out; obtain ⟨hcz39_0, hcz39_1, hcz39_2, hfz39_0, hfz39_1, hfz39_2⟩ := bk3 BK680.out; obtain ⟨Ao40, co40, eo40⟩ := Kd.R_slice HO675.out; subst eo40; obtain ⟨Ao41, co41, eo41⟩ := Kd.R_slice HO678.out; subst eo41))
  (try simp only [Act.put, List.setIfInBounds_toArray, List.set_cons_zero, List.set_cons_succ])
  go_cut [44] (fun v44 wc => ∃ (kq : Nat) (x44_11 : Bool), v44 = .bool x44_11 ∧ Aside0 (laws_FnExactStandAt.j0 kq a1 t662 t679 x44_11 a0_0 l0_1 l0_2 t655 t656 t659 t664 t665 t668 t672 t673 t676 = some r) ∧ Aside0 (kq ≤ k) ∧ Aside0 (Kd.R (Kd.int .i64) 3 wc w.heap.size (fun k_ => some k_ ≠ ((.slice Ao25 t659.length co25) : Value).ownBlock ∧ some k_ ≠ ((.slice Ao32 t665.length co32) : Value).ownBlock ∧ some k_ ≠ ((.slice Ao33 t668.length co33) : Value).ownBlock ∧ some k_ ≠ ((.slice Ao40 t673.length co40) : Value).ownBlock ∧ some k_ ≠ ((.slice Ao41 t676.length co41) : Value).ownBlock) (.slice Ao24 t656.length co24) t656) ∧ Aside0 (Kd.R (Kd.int .i64) 3 wc w.heap.size (fun k_ => some k_ ≠ ((.slice Ao24 t656.length co24) : Value).ownBlock ∧ some k_ ≠ ((.slice Ao32 t665.length co32) : Value).ownBlock ∧ some k_ ≠ ((.slice Ao33 t668.length co33) : Value).ownBlock ∧ some k_ ≠ ((.slice Ao40 t673.length co40) : Value).ownBlock ∧ some k_ ≠ ((.slice Ao41 t676.length co41) : Value).ownBlock) (.slice Ao25 t659.length co25) t659) ∧ Aside0 (Kd.R (Kd.int .i64) 3 wc w.heap.size (fun k_ => some k_ ≠ ((.slice Ao24 t656.length co24) : Value).ownBlock ∧ some k_ ≠ ((.slice Ao25 t659.length co25) : Value).ownBlock ∧ some k_ ≠ ((.slice Ao33 t668.length co33) : Value).ownBlock ∧ some k_ ≠ ((.slice Ao40 t673.length co40) : Value).ownBlock ∧ some k_ ≠ ((.slice Ao41 t676.length co41) : Value).ownBlock) (.slice Ao32 t665.length co32) t665) ∧ Aside0 (Kd.R (Kd.int .i64) 3 wc w.heap.size (fun k_ => some k_ ≠ ((.slice Ao24 t656.length co24) : Value).ownBlock ∧ some k_ ≠ ((.slice Ao25 t659.length co25) : Value).ownBlock ∧ some k_ ≠ ((.slice Ao32 t665.length co32) : Value).ownBlock ∧ some k_ ≠ ((.slice Ao40 t673.length co40) : Value).ownBlock ∧ some k_ ≠ ((.slice Ao41 t676.length co41) : Value).ownBlock) (.slice Ao33 t668.length co33) t668) ∧ Aside0 (Kd.R (Kd.int .i64) 3 wc w.heap.size (fun k_ => some k_ ≠ ((.slice Ao24 t656.length co24) : Value).ownBlock ∧ some k_ ≠ ((.slice Ao25 t659.length co25) : Value).ownBlock ∧ some k_ ≠ ((.slice Ao32 t665.length co32) : Value).ownBlock ∧ some k_ ≠ ((.slice Ao33 t668.length co33) : Value).ownBlock ∧ some k_ ≠ ((.slice Ao41 t676.length co41) : Value).ownBlock) (.slice Ao40 t673.length co40) t673) ∧ Aside0 (Kd.R (Kd.int .i64) 3 wc w.heap.size (fun k_ => some k_ ≠ ((.slice Ao24 t656.length co24) : Value).ownBlock ∧ some k_ ≠ ((.slice Ao25 t659.length co25) : Value).ownBlock ∧ some k_ ≠ ((.slice Ao32 t665.length co32) : Value).ownBlock ∧ some k_ ≠ ((.slice Ao33 t668.length co33) : Value).ownBlock ∧ some k_ ≠ ((.slice Ao40 t673.length co40) : Value).ownBlock) (.slice Ao41 t676.length co41) t676) ∧ Aside0 (wc.heap[gb646]? = some (.cells #[.int .i64 a0_0, (.slice A0_1 l0_1.length c0_1), (.slice A0_2 l0_2.length c0_2)] 43 (0, 0))) ∧ Aside0 (wc.heap[gb663]? = some (.cells #[.int .i64 t655, (.slice Ao24 t656.length co24), (.slice Ao25 t659.length co25)] 46 (0, 0))) ∧ Aside0 (wc.heap[gb671]? = some (.cells #[.int .i64 t664, (.slice Ao32 t665.length co32), (.slice Ao33 t668.length co33)] 46 (0, 0))) ∧ Aside0 (wc.heap[gb680]? = some (.cells #[.int .i64 t672, (.slice Ao40 t673.length co40), (.slice Ao41 t676.length co41)] 46 (0, 0))) ∧ Aside0 (Below w.heap.size w wc))
  case first =>
   have H := HC12.out
   clear HC12
   replace H := Option.bind_eq_some_iff.mp H
   obtain ⟨t681, A420, H⟩ := H
   replace H : (if t681 = true then (laws_FnExactStandAt.j0 k a1 t662 t679 (t679 != t662) a0_0 l0_1 l0_2 t655 t656 t659 t664 t665 t668 t672 t673 t676) else (laws_FnExactStandAt.j0 k a1 t662 t679 true a0_0 l0_1 l0_2 t655 t656 t659 t664 t665 t668 t672 t673 t676)) = some r := H
   have A42 := am A420
   clear A420
   by_cases c43 : t681 = true
   ·subst c43
    replace H : (laws_FnExactStandAt.j0 k a1 t662 t679 (t679 != t662) a0_0 l0_1 l0_2 t655 t656 t659 t664 t665 t668 t672 t673 t676) = some r := by rw [if_pos rfl] at H; exact H
    have H' := am H
    clear H
    have hnb44 := NB680_646.out
    have hnc44 := NB646_680.out
    have hnb45 := NB680_663.out
    have hnc45 := NB663_680.out
    have hnb46 := NB680_671.out
    have hnc46 := NB671_680.out
    obtain ⟨hcz47_0, hcz47_1, hcz47_2, hfz47_0, hfz47_1, hfz47_2⟩ := bk3 BK680.out
    have hnb48 := NB663_646.out
    have hnc48 := NB646_663.out
    have hnb49 := NB663_671.out
    have hnc49 := NB671_663.out
    obtain ⟨hcz50_0, hcz50_1, hcz50_2, hfz50_0, hfz50_1, hfz50_2⟩ := bk3 BK663.out
    go_wp2_with (first | ((with_reducible refine gate_callee (f := 27) rfl ?_); refine goesL_ (some 38) rfl rfl Try.func27 (by kernel_rfl) rfl #[.agg #[.int .i64 t672, .slice Ao40 t673.length co40, .slice Ao41 t676.length co41], .agg #[.int .i64 t655, .slice Ao24 t656.length co24, .slice Ao25 t659.length co25]] rfl mpx ?_; (with_reducible refine (laws_eqLatch.calls k t672 _ _ t673 _ _ t676 t655 _ _ t656 _ _ t659 true _ ?side1 ?side2 ?side3 ?side4 ?side5 ?side6 ?side7 ?side8 A42.out).mono ?_); (case side1 => refine (Kd.R_reads' (e := 3) (base := w.heap.size) (ok := fun k_ => ((((((some k_ ≠ (.slice Ao41 t676.length co41 : Value).ownBlock ∧ some k_ ≠ (.slice Ao18 t649.length co18 : Value).ownBlock) ∧ some k_ ≠ (.slice Ao19 t652.length co19 : Value).ownBlock) ∧ some k_ ≠ (.slice Ao24 t656.length co24 : Value).ownBlock) ∧ some k_ ≠ (.slice Ao25 t659.length co25 : Value).ownBlock) ∧ some k_ ≠ (.slice Ao32 t665.length co32 : Value).ownBlock) ∧ some k_ ≠ (.slice Ao33 t668.length co33 : Value).ownBlock)) (n := t673.length) (c := co40) ?_).2.2; exact (by (with_reducible repeat (first | apply Kd.R_alloc | apply Kd.R_drewN | apply Kd.R_drew)); exact (Kd.R_mono (Kd.R_far (p := ⟨gb680, 2, none⟩) (Kd.R_far (p := ⟨gb680, 1, none⟩) (Kd.R_far (p := ⟨gb680, 0, none⟩) (Kd.R_types HO675.out BK680.out (by decide)) (fun _ hk => hk.2) (.int .i64 t672)) (fun _ hk => hk.2) (.slice Ao40 t673.length co40)) (fun _ hk => hk.2) (.slice Ao41 t676.length co41)) (fun _ h_ => h_.1)))); (case side2 => exact (Kd.R_reads' HO675.out).2.1); (case side3 => refine (Kd.R_reads' (e := 3) (base := w.heap.size) (ok := fun k_ => ((((((some k_ ≠ (.slice Ao40 t673.length co40 : Value).ownBlock ∧ some k_ ≠ (.slice Ao18 t649.length co18 : Value).ownBlock) ∧ some k_ ≠ (.slice Ao19 t652.length co19 : Value).ownBlock) ∧ some k_ ≠ (.slice Ao24 t656.length co24 : Value).ownBlock) ∧ some k_ ≠ (.slice Ao25 t659.length co25 : Value).ownBlock) ∧ some k_ ≠ (.slice Ao32 t665.length co32 : Value).ownBlock) ∧ some k_ ≠ (.slice Ao33 t668.length co33 : Value).ownBlock)) (n := t676.length) (c := co41) ?_).2.2; exact (by (with_reducible repeat (first | apply Kd.R_alloc | apply Kd.R_drewN | apply Kd.R_drew)); exact (Kd.R_mono (Kd.R_far (p := ⟨gb680, 2, none⟩) (Kd.R_far (p := ⟨gb680, 1, none⟩) (Kd.R_far (p := ⟨gb680, 0, none⟩) (Kd.R_types HO678.out BK680.out (by decide)) (fun _ hk => hk.2) (.int .i64 t672)) (fun _ hk => hk.2) (.slice Ao40 t673.length co40)) (fun _ hk => hk.2) (.slice Ao41 t676.length co41)) (fun _ h_ => h_.1)))); (case side4 => exact (Kd.R_reads' HO678.out).2.1); (case side5 => refine (Kd.R_reads' (e := 3) (base := w.heap.size) (ok := fun k_ => ((((((some k_ ≠ (.slice Ao25 t659.length co25 : Value).ownBlock ∧ some k_ ≠ (.slice Ao18 t649.length co18 : Value).ownBlock) ∧ some k_ ≠ (.slice Ao19 t652.length co19 : Value).ownBlock) ∧ some k_ ≠ (.slice Ao32 t665.length co32 : Value).ownBlock) ∧ some k_ ≠ (.slice Ao33 t668.length co33 : Value).ownBlock) ∧ some k_ ≠ (.slice Ao40 t673.length co40 : Value).ownBlock) ∧ some k_ ≠ (.slice Ao41 t676.length co41 : Value).ownBlock)) (n := t656.length) (c := co24) ?_).2.2; exact (by (with_reducible repeat (first | apply Kd.R_alloc | apply Kd.R_drewN | apply Kd.R_drew)); exact (Kd.R_mono (Kd.R_far (p := ⟨gb680, 2, none⟩) (Kd.R_far (p := ⟨gb680, 1, none⟩) (Kd.R_far (p := ⟨gb680, 0, none⟩) (Kd.R_types HO658.out BK680.out (by decide)) (fun _ hk => hk.2) (.int .i64 t672)) (fun _ hk => hk.2) (.slice Ao40 t673.length co40)) (fun _ hk => hk.2) (.slice Ao41 t676.length co41)) (fun _ h_ => h_.1)))); (case side6 => exact (Kd.R_reads' HO658.out).2.1); (case side7 => refine (Kd.R_reads' (e := 3) (base := w.heap.size) (ok := fun k_ => ((((((some k_ ≠ (.slice Ao24 t656.length co24 : Value).ownBlock ∧ some k_ ≠ (.slice Ao18 t649.length co18 : Value).ownBlock) ∧ some k_ ≠ (.slice Ao19 t652.length co19 : Value).ownBlock) ∧ some k_ ≠ (.slice Ao32 t665.length co32 : Value).ownBlock) ∧ some k_ ≠ (.slice Ao33 t668.length co33 : Value).ownBlock) ∧ some k_ ≠ (.slice Ao40 t673.length co40 : Value).ownBlock) ∧ some k_ ≠ (.slice Ao41 t676.length co41 : Value).ownBlock)) (n := t659.length) (c := co25) ?_).2.2; exact (by (with_reducible repeat (first | apply Kd.R_alloc | apply Kd.R_drewN | apply Kd.R_drew)); exact (Kd.R_mono (Kd.R_far (p := ⟨gb680, 2, none⟩) (Kd.R_far (p := ⟨gb680, 1, none⟩) (Kd.R_far (p := ⟨gb680, 0, none⟩) (Kd.R_types HO661.out BK680.out (by decide)) (fun _ hk => hk.2) (.int .i64 t672)) (fun _ hk => hk.2) (.slice Ao40 t673.length co40)) (fun _ hk => hk.2) (.slice Ao41 t676.length co41)) (fun _ h_ => h_.1)))); (case side8 => exact (Kd.R_reads' HO661.out).2.1); rintro e w51 ⟨rfl, hb⟩; refine ⟨_, rfl, ?_⟩; replace HO651 := am (Kd.R_below (by (with_reducible repeat (first | apply Kd.R_alloc | apply Kd.R_drewN | apply Kd.R_drew)); exact (Kd.R_mono (Kd.R_far (p := ⟨gb680, 2, none⟩) (Kd.R_far (p := ⟨gb680, 1, none⟩) (Kd.R_far (p := ⟨gb680, 0, none⟩) (Kd.R_types HO651.out BK680.out (by decide)) (fun _ hk => hk.2) (.int .i64 t672)) (fun _ hk => hk.2) (.slice Ao40 t673.length co40)) (fun _ hk => hk.2) (.slice Ao41 t676.length co41)) (fun _ h_ => h_.1))) hb); replace HO654 := am (Kd.R_below (by (with_reducible repeat (first | apply Kd.R_alloc | apply Kd.R_drewN | apply Kd.R_drew)); exact (Kd.R_mono (Kd.R_far (p := ⟨gb680, 2, none⟩) (Kd.R_far (p := ⟨gb680, 1, none⟩) (Kd.R_far (p := ⟨gb680, 0, none⟩) (Kd.R_types HO654.out BK680.out (by decide)) (fun _ hk => hk.2) (.int .i64 t672)) (fun _ hk => hk.2) (.slice Ao40 t673.length co40)) (fun _ hk => hk.2) (.slice Ao41 t676.length co41)) (fun _ h_ => h_.1))) hb); replace HO658 := am (Kd.R_below (by (with_reducible repeat (first | apply Kd.R_alloc | apply Kd.R_drewN | apply Kd.R_drew)); exact (Kd.R_mono (Kd.R_far (p := ⟨gb680, 2, none⟩) (Kd.R_far (p := ⟨gb680, 1, none⟩) (Kd.R_far (p := ⟨gb680, 0, none⟩) (Kd.R_types HO658.out BK680.out (by decide)) (fun _ hk => hk.2) (.int .i64 t672)) (fun _ hk => hk.2) (.slice Ao40 t673.length co40)) (fun _ hk => hk.2) (.slice Ao41 t676.length co41)) (fun _ h_ => h_.1))) hb); replace HO661 := am (Kd.R_below (by (with_reducible repeat (first | apply Kd.R_alloc | apply Kd.R_drewN | apply Kd.R_drew)); exact (Kd.R_mono (Kd.R_far (p := ⟨gb680, 2, none⟩) (Kd.R_far (p := ⟨gb680, 1, none⟩) (Kd.R_far (p := ⟨gb680, 0, none⟩) (Kd.R_types HO661.out BK680.out (by decide)) (fun _ hk => hk.2) (.int .i64 t672)) (fun _ hk => hk.2) (.slice Ao40 t673.length co40)) (fun _ hk => hk.2) (.slice Ao41 t676.length co41)) (fun _ h_ => h_.1))) hb); replace HO667 := am (Kd.R_below (by (with_reducible repeat (first | apply Kd.R_alloc | apply Kd.R_drewN | apply Kd.R_drew)); exact (Kd.R_mono (Kd.R_far (p := ⟨gb680, 2, none⟩) (Kd.R_far (p := ⟨gb680, 1, none⟩) (Kd.R_far (p := ⟨gb680, 0, none⟩) (Kd.R_types HO667.out BK680.out (by decide)) (fun _ hk => hk.2) (.int .i64 t672)) (fun _ hk => hk.2) (.slice Ao40 t673.length co40)) (fun _ hk => hk.2) (.slice Ao41 t676.length co41)) (fun _ h_ => h_.1))) hb); replace HO670 := am (Kd.R_below (by (with_reducible repeat (first | apply Kd.R_alloc | apply Kd.R_drewN | apply Kd.R_drew)); exact (Kd.R_mono (Kd.R_far (p := ⟨gb680, 2, none⟩) (Kd.R_far (p := ⟨gb680, 1, none⟩) (Kd.R_far (p := ⟨gb680, 0, none⟩) (Kd.R_types HO670.out BK680.out (by decide)) (fun _ hk => hk.2) (.int .i64 t672)) (fun _ hk => hk.2) (.slice Ao40 t673.length co40)) (fun _ hk => hk.2) (.slice Ao41 t676.length co41)) (fun _ h_ => h_.1))) hb); replace HO675 := am (Kd.R_below (by (with_reducible repeat (first | apply Kd.R_alloc | apply Kd.R_drewN | apply Kd.R_drew)); exact (Kd.R_mono (Kd.R_far (p := ⟨gb680, 2, none⟩) (Kd.R_far (p := ⟨gb680, 1, none⟩) (Kd.R_far (p := ⟨gb680, 0, none⟩) (Kd.R_types HO675.out BK680.out (by decide)) (fun _ hk => hk.2) (.int .i64 t672)) (fun _ hk => hk.2) (.slice Ao40 t673.length co40)) (fun _ hk => hk.2) (.slice Ao41 t676.length co41)) (fun _ h_ => h_.1))) hb); replace HO678 := am (Kd.R_below (by (with_reducible repeat (first | apply Kd.R_alloc | apply Kd.R_drewN | apply Kd.R_drew)); exact (Kd.R_mono (Kd.R_far (p := ⟨gb680, 2, none⟩) (Kd.R_far (p := ⟨gb680, 1, none⟩) (Kd.R_far (p := ⟨gb680, 0, none⟩) (Kd.R_types HO678.out BK680.out (by decide)) (fun _ hk => hk.2) (.int .i64 t672)) (fun _ hk => hk.2) (.slice Ao40 t673.length co40)) (fun _ hk => hk.2) (.slice Ao41 t676.length co41)) (fun _ h_ => h_.1))) hb); replace BK646 := am (blk_below (g := gb646) (o := .cells #[.int .i64 a0_0, .slice A0_1 l0_1.length c0_1, .slice A0_2 l0_2.length c0_2] 43 (0, 0)) (by (with_reducible repeat (first | refine blk_drewN ?_ _ | refine blk_drew ?_ | refine blk_alloc ?_ _)); refine blk_far ?_ NB646_680.out _; (with_reducible repeat (first | refine blk_drewN ?_ _ | refine blk_drew ?_ | refine blk_alloc ?_ _)); refine blk_far ?_ NB646_680.out _; (with_reducible repeat (first | refine blk_drewN ?_ _ | refine blk_drew ?_ | refine blk_alloc ?_ _)); refine blk_far ?_ NB646_680.out _; exact pkK BK646.out) hb); replace BK663 := am (blk_below (g := gb663) (o := .cells #[.int .i64 t655, .slice Ao24 t656.length co24, .slice Ao25 t659.length co25] 46 (0, 0)) (by (with_reducible repeat (first | refine blk_drewN ?_ _ | refine blk_drew ?_ | refine blk_alloc ?_ _)); refine blk_far ?_ NB663_680.out _; (with_reducible repeat (first | refine blk_drewN ?_ _ | refine blk_drew ?_ | refine blk_alloc ?_ _)); refine blk_far ?_ NB663_680.out _; (with_reducible repeat (first | refine blk_drewN ?_ _ | refine blk_drew ?_ | refine blk_alloc ?_ _)); refine blk_far ?_ NB663_680.out _; exact pkK BK663.out) hb); replace BK671 := am (blk_below (g := gb671) (o := .cells #[.int .i64 t664, .slice Ao32 t665.length co32, .slice Ao33 t668.length co33] 46 (0, 0)) (by (with_reducible repeat (first | refine blk_drewN ?_ _ | refine blk_drew ?_ | refine blk_alloc ?_ _)); refine blk_far ?_ NB671_680.out _; (with_reducible repeat (first | refine blk_drewN ?_ _ | refine blk_drew ?_ | refine blk_alloc ?_ _)); refine blk_far ?_ NB671_680.out _; (with_reducible repeat (first | refine blk_drewN ?_ _ | refine blk_drew ?_ | refine blk_alloc ?_ _)); refine blk_far ?_ NB671_680.out _; exact pkK BK671.out) hb); replace BK680 := am (blk_below (g := gb680) (o := .cells #[.int .i64 t672, .slice Ao40 t673.length co40, .slice Ao41 t676.length co41] 46 (0, 0)) (by (with_reducible repeat (first | refine blk_drewN ?_ _ | refine blk_drew ?_ | refine blk_alloc ?_ _)); refine blk_put (cs := #[.int .i64 t672, .slice Ao40 t673.length co40, .slice none 0 0]) ?_ 2 _ rfl; (with_reducible repeat (first | refine blk_drewN ?_ _ | refine blk_drew ?_ | refine blk_alloc ?_ _)); refine blk_put (cs := #[.int .i64 t672, .slice none 0 0, .slice none 0 0]) ?_ 1 _ rfl; (with_reducible repeat (first | refine blk_drewN ?_ _ | refine blk_drew ?_ | refine blk_alloc ?_ _)); refine blk_put (cs := #[.int .i64 0, .slice none 0 0, .slice none 0 0]) ?_ 0 _ rfl; exact pkK BK680.out) hb); replace HB := am (below_step (pkW HB.out) hb); (try clear hb)))
    go_meet
    case rel => exact ⟨_, ((t679 != t662)), rfx, H', ⟨by first | omega | exact Nat.le_refl _⟩, ⟨by (with_reducible repeat (first | apply Kd.R_alloc | apply Kd.R_drewN | apply Kd.R_drew)); exact Kd.R_mono HO658.out (fun _ hk => ⟨hk.1.1.1.1.1.1, ⟨hk.1.1.1.2, ⟨hk.1.1.2, ⟨hk.1.2, hk.2⟩⟩⟩⟩)⟩, ⟨by (with_reducible repeat (first | apply Kd.R_alloc | apply Kd.R_drewN | apply Kd.R_drew)); exact Kd.R_mono HO661.out (fun _ hk => ⟨hk.1.1.1.1.1.1, ⟨hk.1.1.1.2, ⟨hk.1.1.2, ⟨hk.1.2, hk.2⟩⟩⟩⟩)⟩, ⟨by (with_reducible repeat (first | apply Kd.R_alloc | apply Kd.R_drewN | apply Kd.R_drew)); exact Kd.R_mono HO667.out (fun _ hk => ⟨hk.1.1.1.2, ⟨hk.1.1.2, ⟨hk.1.1.1.1.1.1, ⟨hk.1.2, hk.2⟩⟩⟩⟩)⟩, ⟨by (with_reducible repeat (first | apply Kd.R_alloc | apply Kd.R_drewN | apply Kd.R_drew)); exact Kd.R_mono HO670.out (fun _ hk => ⟨hk.1.1.1.2, ⟨hk.1.1.2, ⟨hk.1.1.1.1.1.1, ⟨hk.1.2, hk.2⟩⟩⟩⟩)⟩, ⟨by (with_reducible repeat (first | apply Kd.R_alloc | apply Kd.R_drewN | apply Kd.R_drew)); exact Kd.R_mono HO675.out (fun _ hk => ⟨hk.1.1.1.2, ⟨hk.1.1.2, ⟨hk.1.2, ⟨hk.2, hk.1.1.1.1.1.1⟩⟩⟩⟩)⟩, ⟨by (with_reducible repeat (first | apply Kd.R_alloc | apply Kd.R_drewN | apply Kd.R_drew)); exact Kd.R_mono HO678.out (fun _ hk => ⟨hk.1.1.1.2, ⟨hk.1.1.2, ⟨hk.1.2, ⟨hk.2, hk.1.1.1.1.1.1⟩⟩⟩⟩)⟩, ⟨pkK BK646.out⟩, ⟨pkK BK663.out⟩, ⟨pkK BK671.out⟩, ⟨pkK BK680.out⟩, ⟨pkW HB.out⟩⟩
   ·replace c43 := Bool.eq_false_iff.mpr c43
    subst c43
    replace H : (laws_FnExactStandAt.j0 k a1 t662 t679 true a0_0 l0_1 l0_2 t655 t656 t659 t664 t665 t668 t672 t673 t676) = some r := by rw [if_neg (show ¬ (false = true) by decide)] at H; exact H
    cases k with
    | zero => exact absurd H (by simp [laws_FnExactStandAt.j0])
    | succ k_ => (simp only [laws_FnExactStandAt.j0, if_pos] at H; exact absurd (Option.some.inj H) (by rw [HQ_.out]; simp))
  case rest =>
   clear HC12
   try clear c2
   try clear p2
   try clear c3
   try clear c4
   try clear c4b0
   try clear c7
   try clear c22
   try clear c23
   try clear c25
   try clear c27
   try clear c28
   try clear c29
   try clear c30
   try clear c35
   try clear c36
   try clear c37
   try clear c38
   try clear c43
   try clear c44
   try clear c45
   try clear c46
   try clear c48
   try clear c49
   try clear hcz14_0
   try clear hcz14_1
   try clear hcz14_2
   try clear hcz16_0
   try clear hcz16_1
   try clear hcz16_2
   try clear hcz23_0
   try clear hcz23_1
   try clear hcz23_2
   try clear hcz26_0
   try clear hcz26_1
   try clear hcz26_2
   try clear hcz31_0
   try clear hcz31_1
   try clear hcz31_2
   try clear hcz39_0
   try clear hcz39_1
   try clear hcz39_2
   try clear hcz47_0
   try clear hcz47_1
   try clear hcz47_2
   try clear hcz50_0
   try clear hcz50_1
   try clear hcz50_2
   try clear hcz6_0
   try clear hcz6_1
   try clear hcz6_2
   try clear hfz14_0
   try clear hfz14_1
   try clear hfz14_2
   try clear hfz16_0
   try clear hfz16_1
   try clear hfz16_2
   try clear hfz23_0
   try clear hfz23_1
   try clear hfz23_2
   try clear hfz26_0
   try clear hfz26_1
   try clear hfz26_2
   try clear hfz31_0
   try clear hfz31_1
   try clear hfz31_2
   try clear hfz39_0
   try clear hfz39_1
   try clear hfz39_2
   try clear hfz47_0
   try clear hfz47_1
   try clear hfz47_2
   try clear hfz50_0
   try clear hfz50_1
   try clear hfz50_2
   try clear hfz6_0
   try clear hfz6_1
   try clear hfz6_2
   obtain ⟨kq, x44_11, rfl, HA, HJ11, HO_664001, HO_664002, HO_672001, HO_672002, HO_681001, HO_681002, BK646, BK663, BK671, BK680, HB⟩ := hcut
   cases kq with
   | zero => exact absurd HA.out (by simp [laws_FnExactStandAt.j0])
   | succ kj11 =>
    have H := HA.out
    clear HA
    simp only [laws_FnExactStandAt.j0] at H
    by_cases c52 : x44_11 = true
    ·subst c52
     replace H : (some false) = some r := by rw [if_pos rfl] at H; exact H
     exact absurd (Option.some.inj H) (by rw [HQ_.out]; simp)
    ·replace c52 := Bool.eq_false_iff.mpr c52
     subst c52
     replace H : ((laws_toLatch.f kj11 a0_0 l0_1 l0_2).bind fun bt682 => ((laws_eqLatch.f kj11 t664 t665 t668 bt682.1 bt682.2.1 bt682.2.2).bind fun t689 => (if t689 = true then ((laws_markLatch.f kj11 t664 t665 t668 1).bind fun bt690 => (if bt690.1 < 0 then (laws_FnExactStandAt.j1 kj11 a1 t662 true a0_0 l0_1 l0_2 t655 t656 t659 t672 t673 t676) else ((laws_eqLatch.f kj11 t672 t673 t676 t655 t656 t659).bind fun t693 => (if t693 = true then (laws_FnExactStandAt.j1 kj11 a1 t662 (t679 != t662) a0_0 l0_1 l0_2 t655 t656 t659 t672 t673 t676) else (laws_FnExactStandAt.j1 kj11 a1 t662 true a0_0 l0_1 l0_2 t655 t656 t659 t672 t673 t676))))) else (some false)))) = some r := by rw [if_neg (show ¬ (false = true) by decide)] at H; exact H
     replace H := Option.bind_eq_some_iff.mp H
     obtain ⟨⟨t682, t683, t686⟩, A530, H⟩ := H
     replace H : ((laws_eqLatch.f kj11 t664 t665 t668 t682 t683 t686).bind fun t689 => (if t689 = true then ((laws_markLatch.f kj11 t664 t665 t668 1).bind fun bt690 => (if bt690.1 < 0 then (laws_FnExactStandAt.j1 kj11 a1 t662 true a0_0 l0_1 l0_2 t655 t656 t659 t672 t673 t676) else ((laws_eqLatch.f kj11 t672 t673 t676 t655 t656 t659).bind fun t693 => (if t693 = true then (laws_FnExactStandAt.j1 kj11 a1 t662 (t679 != t662) a0_0 l0_1 l0_2 t655 t656 t659 t672 t673 t676) else (laws_FnExactStandAt.j1 kj11 a1 t662 true a0_0 l0_1 l0_2 t655 t656 t659 t672 t673 t676))))) else (some false))) = some r := H
     have A53 := am A530
     clear A530
     replace H := Option.bind_eq_some_iff.mp H
     obtain ⟨t689, A540, H⟩ := H
     replace H : (if t689 = true then ((laws_markLatch.f kj11 t664 t665 t668 1).bind fun bt690 => (if bt690.1 < 0 then (laws_FnExactStandAt.j1 kj11 a1 t662 true a0_0 l0_1 l0_2 t655 t656 t659 t672 t673 t676) else ((laws_eqLatch.f kj11 t672 t673 t676 t655 t656 t659).bind fun t693 => (if t693 = true then (laws_FnExactStandAt.j1 kj11 a1 t662 (t679 != t662) a0_0 l0_1 l0_2 t655 t656 t659 t672 t673 t676) else (laws_FnExactStandAt.j1 kj11 a1 t662 true a0_0 l0_1 l0_2 t655 t656 t659 t672 t673 t676))))) else (some false)) = some r := H
     have A54 := am A540
     clear A540
     by_cases c55 : t689 = true
     ·subst c55
      replace H : ((laws_markLatch.f kj11 t664 t665 t668 1).bind fun bt690 => (if bt690.1 < 0 then (laws_FnExactStandAt.j1 kj11 a1 t662 true a0_0 l0_1 l0_2 t655 t656 t659 t672 t673 t676) else ((laws_eqLatch.f kj11 t672 t673 t676 t655 t656 t659).bind fun t693 => (if t693 = true then (laws_FnExactStandAt.j1 kj11 a1 t662 (t679 != t662) a0_0 l0_1 l0_2 t655 t656 t659 t672 t673 t676) else (laws_FnExactStandAt.j1 kj11 a1 t662 true a0_0 l0_1 l0_2 t655 t656 t659 t672 t673 t676))))) = some r := by rw [if_pos rfl] at H; exact H
      replace H := Option.bind_eq_some_iff.mp H
      obtain ⟨⟨t690, t691, t692⟩, A560, H⟩ := H
      replace H : (if t690 < 0 then (laws_FnExactStandAt.j1 kj11 a1 t662 true a0_0 l0_1 l0_2 t655 t656 t659 t672 t673 t676) else ((laws_eqLatch.f kj11 t672 t673 t676 t655 t656 t659).bind fun t693 => (if t693 = true then (laws_FnExactStandAt.j1 kj11 a1 t662 (t679 != t662) a0_0 l0_1 l0_2 t655 t656 t659 t672 t673 t676) else (laws_FnExactStandAt.j1 kj11 a1 t662 true a0_0 l0_1 l0_2 t655 t656 t659 t672 t673 t676)))) = some r := H
      have A56 := am A560
      clear A560
      have HC57 := am H
      clear H
      try go_wp2
      replace HO_664001 := am (Kd.R_drew HO_664001.out)
      replace HO_664002 := am (Kd.R_drew HO_664002.out)
      replace HO_672001 := am (Kd.R_drew HO_672001.out)
      replace HO_672002 := am (Kd.R_drew HO_672002.out)
      replace HO_681001 := am (Kd.R_drew HO_681001.out)
      replace HO_681002 := am (Kd.R_drew HO_681002.out)
      replace BK646 := am (blk_drew BK646.out)
      replace BK663 := am (blk_drew BK663.out)
      replace BK671 := am (blk_drew BK671.out)
      replace BK680 := am (blk_drew BK680.out)
      replace HB := am (below_drew1 HB.out)
      refine start_ (n := 5) (S := fun w' => w'.cell? ⟨gb671, 0, none⟩ = some (.int .i64 t664) ∧ w'.cell? ⟨gb671, 1, none⟩ = some (.slice Ao32 t665.length co32) ∧ w'.cell? ⟨gb671, 2, none⟩ = some (.slice Ao33 t668.length co33) ∧ w'.cell? ⟨gb646, 0, none⟩ = some (.int .i64 a0_0) ∧ w'.cell? ⟨gb646, 1, none⟩ = some (.slice A0_1 l0_1.length c0_1) ∧ w'.cell? ⟨gb646, 2, none⟩ = some (.slice A0_2 l0_2.length c0_2)) (ds := []) #[false, false, false, false, false] (by kernel_rfl) rfl rfl ⟨(blk_cell BK671.out 0).trans rfl, (blk_cell BK671.out 1).trans rfl, (blk_cell BK671.out 2).trans rfl, (blk_cell BK646.out 0).trans rfl, (blk_cell BK646.out 1).trans rfl, (blk_cell BK646.out 2).trans rfl⟩ (fun hHeld => ?_)
      generalize wc.drew = w58 at HO_664001 HO_664002 HO_672001 HO_672002 HO_681001 HO_681002 BK646 BK663 BK671 BK680 HB hHeld ⊢
      refine take_ (i := 0) (N := some 45) (v := ?_) (a' := ?_) #[true, false, false, false, false] rfl rfl (by kernel_rfl) (fun _ _ _ h => h) (Or.inl ⟨by rfl, ?_⟩) hHeld ?_ ?_
      rotate_left
      ·rintro w' ⟨s0, s1, s2, s3, s4, s5⟩
       go_simp
       with_reducible rfl
      rotate_left
      ·simp only [Act.put, List.setIfInBounds_toArray, List.set_cons_zero, List.set_cons_succ, i64_w, i32_w]
       rfl
      refine take_ (i := 1) (N := some 46) (v := ?_) (a' := ?_) #[true, true, false, false, false] rfl rfl (by kernel_rfl) (fun _ _ _ h => h) (Or.inl ⟨by rfl, ?_⟩) hHeld ?_ ?_
      rotate_left
      ·rintro w' ⟨s0, s1, s2, s3, s4, s5⟩
       go_simp
       with_reducible rfl
      rotate_left
      ·simp only [Act.put, List.setIfInBounds_toArray, List.set_cons_zero, List.set_cons_succ, i64_w, i32_w]
       rfl
      refine one_ (i := 2) (N := some 47) #[true, true, true, false, false] rfl rfl (by kernel_rfl) (by decide) (fun K hK => ?_)
      refine goes_ Try.func25 (by kernel_rfl) rfl #[.agg #[.int .i64 a0_0, .slice A0_1 l0_1.length c0_1, .slice A0_2 l0_2.length c0_2]] (by rfl) rfl rfl mpx ?_
      with_reducible refine (laws_toLatch.calls kj11 a0_0 _ _ l0_1 _ _ l0_2 t682 t683 t686 _ ?side1 ?side2 ?side3 ?side4 A53.out).mono ?_
      (case side1 => exact pkC (Kd.C_below HR0_1.out HB.out))
      (case side2 => exact HC0_1.out)
      (case side3 => exact pkC (Kd.C_below HR0_2.out HB.out))
      (case side4 => exact HC0_2.out)
      rintro e w59 ⟨v684, v687, rfl, ho0, ho1, hb⟩
      refine ⟨_, rfl, ?_⟩
      have HO685 := am (Kd.R_lower (Kd.R_new' (Kd.R_new' (Kd.R_new' (Kd.R_new' (Kd.R_new' (Kd.R_new' ho0 (Kd.R_lt (pkR HO_664001.out))) (Kd.R_lt (pkR HO_664002.out))) (Kd.R_lt (pkR HO_672001.out))) (Kd.R_lt (pkR HO_672002.out))) (Kd.R_lt (pkR HO_681001.out))) (Kd.R_lt (pkR HO_681002.out))) (below_size (pkW HB.out)))
      have HO688 := am (Kd.R_lower (Kd.R_new' (Kd.R_new' (Kd.R_new' (Kd.R_new' (Kd.R_new' (Kd.R_new' ho1 (Kd.R_lt (pkR HO_664001.out))) (Kd.R_lt (pkR HO_664002.out))) (Kd.R_lt (pkR HO_672001.out))) (Kd.R_lt (pkR HO_672002.out))) (Kd.R_lt (pkR HO_681001.out))) (Kd.R_lt (pkR HO_681002.out))) (below_size (pkW HB.out)))
      replace HO_664001 := am (Kd.R_mono (Kd.R_told (Kd.R_told (Kd.R_old (pkR HO_664001.out) hb) (Kd.R_base ho0)) (Kd.R_base ho1)) (fun _ h_ => h_.1))
      replace HO_664002 := am (Kd.R_mono (Kd.R_told (Kd.R_told (Kd.R_old (pkR HO_664002.out) hb) (Kd.R_base ho0)) (Kd.R_base ho1)) (fun _ h_ => h_.1))
      replace HO_672001 := am (Kd.R_mono (Kd.R_told (Kd.R_told (Kd.R_old (pkR HO_672001.out) hb) (Kd.R_base ho0)) (Kd.R_base ho1)) (fun _ h_ => h_.1))
      replace HO_672002 := am (Kd.R_mono (Kd.R_told (Kd.R_told (Kd.R_old (pkR HO_672002.out) hb) (Kd.R_base ho0)) (Kd.R_base ho1)) (fun _ h_ => h_.1))
      replace HO_681001 := am (Kd.R_mono (Kd.R_told (Kd.R_told (Kd.R_old (pkR HO_681001.out) hb) (Kd.R_base ho0)) (Kd.R_base ho1)) (fun _ h_ => h_.1))
      replace HO_681002 := am (Kd.R_mono (Kd.R_told (Kd.R_told (Kd.R_old (pkR HO_681002.out) hb) (Kd.R_base ho0)) (Kd.R_base ho1)) (fun _ h_ => h_.1))
      replace BK646 := am (blk_below (pkK BK646.out) hb)
      replace BK663 := am (blk_below (pkK BK663.out) hb)
      replace BK671 := am (blk_below (pkK BK671.out) hb)
      replace BK680 := am (blk_below (pkK BK680.out) hb)
      replace HB := am (below_step (pkW HB.out) hb)
      (try clear hb); (try clear ho0 ho1)
      obtain ⟨Ao60, co60, eo60⟩ := Kd.R_slice HO685.out
      (first | subst eo60 | (injection eo60 with f1_ f2_ f3_; have f4_ := f1_.symm; have f5_ := f3_.symm; clear f1_ f2_ f3_; subst f4_; subst f5_))
      obtain ⟨Ao61, co61, eo61⟩ := Kd.R_slice HO688.out
      (first | subst eo61 | (injection eo61 with f1_ f2_ f3_; have f4_ := f1_.symm; have f5_ := f3_.symm; clear f1_ f2_ f3_; subst f4_; subst f5_))
      refine hK.out _ _ ⟨(blk_cell BK671.out 0).trans rfl, (blk_cell BK671.out 1).trans rfl, (blk_cell BK671.out 2).trans rfl, (blk_cell BK646.out 0).trans rfl, (blk_cell BK646.out 1).trans rfl, (blk_cell BK646.out 2).trans rfl⟩ (fun hHeld => ?_)
      clear hK K
      refine norm_ (a' := ?_) ?_ ?_
      rotate_left
      ·show Act.put _ (some 47) _ = _
       simp only [Act.put, List.setIfInBounds_toArray, List.set_cons_zero, List.set_cons_succ, i64_w, i32_w]
       rfl
      refine one_ (i := 3) (N := some 48) #[true, true, true, true, false] rfl rfl (by kernel_rfl) (by decide) (fun K hK => ?_)
      refine goes_ Try.func27 (by kernel_rfl) rfl #[.agg #[.int .i64 t664, .slice Ao32 t665.length co32, .slice Ao33 t668.length co33], .agg #[.int .i64 t682, .slice Ao60 t683.length co60, .slice Ao61 t686.length co61]] (by rfl) rfl rfl mpx ?_
      with_reducible refine (laws_eqLatch.calls kj11 t664 _ _ t665 _ _ t668 t682 _ _ t683 _ _ t686 true _ ?side1 ?side2 ?side3 ?side4 ?side5 ?side6 ?side7 ?side8 A54.out).mono ?_
      (case side1 => exact pkC (Kd.R_reads' HO_672001.out).2.2)
      (case side2 => exact (Kd.R_reads' HO_672001.out).2.1)
      (case side3 => exact pkC (Kd.R_reads' HO_672002.out).2.2)
      (case side4 => exact (Kd.R_reads' HO_672002.out).2.1)
      (case side5 => exact pkC (Kd.R_reads' HO685.out).2.2)
      (case side6 => exact (Kd.R_reads' HO685.out).2.1)
      (case side7 => exact pkC (Kd.R_reads' HO688.out).2.2)
      (case side8 => exact (Kd.R_reads' HO688.out).2.1)
      rintro e w62 ⟨rfl, hb⟩
      refine ⟨_, rfl, ?_⟩
      replace HO_664001 := am (Kd.R_below (pkR HO_664001.out) hb)
      replace HO_664002 := am (Kd.R_below (pkR HO_664002.out) hb)
      replace HO_672001 := am (Kd.R_below (pkR HO_672001.out) hb)
      replace HO_672002 := am (Kd.R_below (pkR HO_672002.out) hb)
      replace HO_681001 := am (Kd.R_below (pkR HO_681001.out) hb)
      replace HO_681002 := am (Kd.R_below (pkR HO_681002.out) hb)
      replace HO685 := am (Kd.R_below (pkR HO685.out) hb)
      replace HO688 := am (Kd.R_below (pkR HO688.out) hb)
      replace BK646 := am (blk_below (pkK BK646.out) hb)
      replace BK663 := am (blk_below (pkK BK663.out) hb)
      replace BK671 := am (blk_below (pkK BK671.out) hb)
      replace BK680 := am (blk_below (pkK BK680.out) hb)
      replace HB := am (below_step (pkW HB.out) hb)
      (try clear hb)
      refine hK.out _ _ ⟨(blk_cell BK671.out 0).trans rfl, (blk_cell BK671.out 1).trans rfl, (blk_cell BK671.out 2).trans rfl, (blk_cell BK646.out 0).trans rfl, (blk_cell BK646.out 1).trans rfl, (blk_cell BK646.out 2).trans rfl⟩ (fun hHeld => ?_)
      clear hK K
      refine norm_ (a' := ?_) ?_ ?_
      rotate_left
      ·show Act.put _ (some 48) _ = _
       simp only [Act.put, List.setIfInBounds_toArray, List.set_cons_zero, List.set_cons_succ, i64_w, i32_w]
       rfl
      refine pure_ (i := 4) (N := some 49) (v := ?_) (a' := ?_) #[true, true, true, true, true] rfl rfl (by kernel_rfl) (fun _ _ _ h => h) (Or.inl ⟨by rfl, ?_⟩) ?_ ?_
      rotate_left
      ·intro w'
       go_simp
       with_reducible rfl
      rotate_left
      ·simp only [Act.put, List.setIfInBounds_toArray, List.set_cons_zero, List.set_cons_succ, i64_w, i32_w]
       rfl
      refine done_ (by kernel_rfl) ?_
      have hnb63 := NB671_646.out
      have hnc63 := NB646_671.out
      have hnb64 := NB671_663.out
      have hnc64 := NB663_671.out
      have hnb65 := NB671_680.out
      have hnc65 := NB680_671.out
      obtain ⟨hcz66_0, hcz66_1, hcz66_2, hfz66_0, hfz66_1, hfz66_2⟩ := bk3 BK671.out
      go_upto_region 14 with (first | ((with_reducible refine gate_callee (f := 36) rfl ?_); refine goesL_ (some 52) rfl rfl Try.func36 (by kernel_rfl) rfl #[.agg #[.int .i64 t664, .slice Ao32 t665.length co32, .slice Ao33 t668.length co33], .int .i64 1] rfl mpx ?_; (with_reducible refine (laws_markLatch.calls kj11 t664 (fun k_ => some k_ = (.slice Ao32 t665.length co32 : Value).ownBlock) (.slice Ao32 t665.length co32) t665 (fun k_ => some k_ = (.slice Ao33 t668.length co33 : Value).ownBlock) (.slice Ao33 t668.length co33) t668 1 t690 t691 t692 w _ ?side1 ?side2 ?side3 ?side4 ?side5 A56.out).mono ?_); (case side1 => repeat (first | (with_reducible first | exact HB.out | apply below_alloc | apply pw_below_drewN | apply below_drew1 | refine below_set ?_ GE646.out | refine below_set ?_ GE663.out | refine below_set ?_ GE671.out | refine below_set ?_ GE680.out) | exact HB.out)); (case side2 => exact Kd.R_tight rfl HO_672001.out); (case side3 => exact fun k_ e_ => (HO_672001.out.1 k_ e_.symm).1.1.2.2.1); (case side4 => exact Kd.R_tight rfl HO_672002.out); (case side5 => exact fun k_ e_ => (HO_672002.out.1 k_ e_.symm).1.1.2.2.1); rintro e w67 ⟨rfl, hy0, hy1, hb, hkp⟩; refine ⟨_, rfl, ?_⟩; replace HO_664001 := am (Kd.R_mono (ok' := fun k_ => some k_ ≠ (.slice Ao25 t659.length co25 : Value).ownBlock ∧ some k_ ≠ (.slice Ao32 t665.length co32 : Value).ownBlock ∧ some k_ ≠ (.slice Ao33 t668.length co33 : Value).ownBlock ∧ some k_ ≠ (.slice Ao40 t673.length co40 : Value).ownBlock ∧ some k_ ≠ (.slice Ao41 t676.length co41 : Value).ownBlock ∧ some k_ ≠ (.slice Ao60 t683.length co60 : Value).ownBlock ∧ some k_ ≠ (.slice Ao61 t686.length co61 : Value).ownBlock) (Kd.R_keptB (HO_664001.out) hkp (fun k_ hk_ hs_ => Or.elim hs_ (fun e_ => (hk_.1.1.2.1) e_) (fun e_ => (hk_.1.1.2.2.1) e_))) (fun k_ hk_ => ⟨hk_.1.1.1.1, hk_.1.1.1.2.1, hk_.1.1.1.2.2.1, hk_.1.1.1.2.2.2.1, hk_.1.1.1.2.2.2.2, hk_.1.1.2, hk_.1.2⟩)); replace HO_664002 := am (Kd.R_mono (ok' := fun k_ => some k_ ≠ (.slice Ao24 t656.length co24 : Value).ownBlock ∧ some k_ ≠ (.slice Ao32 t665.length co32 : Value).ownBlock ∧ some k_ ≠ (.slice Ao33 t668.length co33 : Value).ownBlock ∧ some k_ ≠ (.slice Ao40 t673.length co40 : Value).ownBlock ∧ some k_ ≠ (.slice Ao41 t676.length co41 : Value).ownBlock ∧ some k_ ≠ (.slice Ao60 t683.length co60 : Value).ownBlock ∧ some k_ ≠ (.slice Ao61 t686.length co61 : Value).ownBlock) (Kd.R_keptB (HO_664002.out) hkp (fun k_ hk_ hs_ => Or.elim hs_ (fun e_ => (hk_.1.1.2.1) e_) (fun e_ => (hk_.1.1.2.2.1) e_))) (fun k_ hk_ => ⟨hk_.1.1.1.1, hk_.1.1.1.2.1, hk_.1.1.1.2.2.1, hk_.1.1.1.2.2.2.1, hk_.1.1.1.2.2.2.2, hk_.1.1.2, hk_.1.2⟩)); replace HO_681001 := am (Kd.R_mono (ok' := fun k_ => some k_ ≠ (.slice Ao24 t656.length co24 : Value).ownBlock ∧ some k_ ≠ (.slice Ao25 t659.length co25 : Value).ownBlock ∧ some k_ ≠ (.slice Ao32 t665.length co32 : Value).ownBlock ∧ some k_ ≠ (.slice Ao33 t668.length co33 : Value).ownBlock ∧ some k_ ≠ (.slice Ao41 t676.length co41 : Value).ownBlock ∧ some k_ ≠ (.slice Ao60 t683.length co60 : Value).ownBlock ∧ some k_ ≠ (.slice Ao61 t686.length co61 : Value).ownBlock) (Kd.R_keptB (HO_681001.out) hkp (fun k_ hk_ hs_ => Or.elim hs_ (fun e_ => (hk_.1.1.2.2.1) e_) (fun e_ => (hk_.1.1.2.2.2.1) e_))) (fun k_ hk_ => ⟨hk_.1.1.1.1, hk_.1.1.1.2.1, hk_.1.1.1.2.2.1, hk_.1.1.1.2.2.2.1, hk_.1.1.1.2.2.2.2, hk_.1.1.2, hk_.1.2⟩)); replace HO_681002 := am (Kd.R_mono (ok' := fun k_ => some k_ ≠ (.slice Ao24 t656.length co24 : Value).ownBlock ∧ some k_ ≠ (.slice Ao25 t659.length co25 : Value).ownBlock ∧ some k_ ≠ (.slice Ao32 t665.length co32 : Value).ownBlock ∧ some k_ ≠ (.slice Ao33 t668.length co33 : Value).ownBlock ∧ some k_ ≠ (.slice Ao40 t673.length co40 : Value).ownBlock ∧ some k_ ≠ (.slice Ao60 t683.length co60 : Value).ownBlock ∧ some k_ ≠ (.slice Ao61 t686.length co61 : Value).ownBlock) (Kd.R_keptB (HO_681002.out) hkp (fun k_ hk_ hs_ => Or.elim hs_ (fun e_ => (hk_.1.1.2.2.1) e_) (fun e_ => (hk_.1.1.2.2.2.1) e_))) (fun k_ hk_ => ⟨hk_.1.1.1.1, hk_.1.1.1.2.1, hk_.1.1.1.2.2.1, hk_.1.1.1.2.2.2.1, hk_.1.1.1.2.2.2.2, hk_.1.1.2, hk_.1.2⟩)); replace BK646 := am (blk_kept (pkK BK646.out) hkp (fun hs_ => Or.elim hs_ (fun e_ => (fun e_ => (Kd.R_ne HO_672001.out BK646.out (by decide)) e_) e_) (fun e_ => (fun e_ => (Kd.R_ne HO_672002.out BK646.out (by decide)) e_) e_))); replace BK663 := am (blk_kept (pkK BK663.out) hkp (fun hs_ => Or.elim hs_ (fun e_ => (fun e_ => (Kd.R_ne HO_672001.out BK663.out (by decide)) e_) e_) (fun e_ => (fun e_ => (Kd.R_ne HO_672002.out BK663.out (by decide)) e_) e_))); replace BK671 := am (blk_kept (pkK BK671.out) hkp (fun hs_ => Or.elim hs_ (fun e_ => (fun e_ => (Kd.R_ne HO_672001.out BK671.out (by decide)) e_) e_) (fun e_ => (fun e_ => (Kd.R_ne HO_672002.out BK671.out (by decide)) e_) e_))); replace BK680 := am (blk_kept (pkK BK680.out) hkp (fun hs_ => Or.elim hs_ (fun e_ => (fun e_ => (Kd.R_ne HO_672001.out BK680.out (by decide)) e_) e_) (fun e_ => (fun e_ => (Kd.R_ne HO_672002.out BK680.out (by decide)) e_) e_))); replace HO_672001 := am (Kd.R_reok rfl hy0 (fun k_ e_ => HO_672001.out.1 k_ e_)); replace HO_672002 := am (Kd.R_reok rfl hy1 (fun k_ e_ => HO_672002.out.1 k_ e_)); replace HO685 := am (Kd.R_mono (ok' := fun k_ => some k_ ≠ (.slice Ao24 t656.length co24 : Value).ownBlock ∧ some k_ ≠ (.slice Ao25 t659.length co25 : Value).ownBlock ∧ some k_ ≠ (.slice Ao32 t665.length co32 : Value).ownBlock ∧ some k_ ≠ (.slice Ao33 t668.length co33 : Value).ownBlock ∧ some k_ ≠ (.slice Ao40 t673.length co40 : Value).ownBlock ∧ some k_ ≠ (.slice Ao41 t676.length co41 : Value).ownBlock ∧ some k_ ≠ (.slice Ao61 t686.length co61 : Value).ownBlock) (Kd.R_keptB (HO685.out) hkp (fun k_ hk_ hs_ => Or.elim hs_ (fun e_ => (hk_.1.1.1.2) e_) (fun e_ => (hk_.1.1.2) e_))) (fun k_ hk_ => ⟨hk_.1.1.1.1.1.1.2, hk_.1.1.1.1.1.2, hk_.1.1.1.1.2, hk_.1.1.1.2, hk_.1.1.2, hk_.1.2, hk_.1.1.1.1.1.1.1⟩)); replace HO688 := am (Kd.R_mono (ok' := fun k_ => some k_ ≠ (.slice Ao24 t656.length co24 : Value).ownBlock ∧ some k_ ≠ (.slice Ao25 t659.length co25 : Value).ownBlock ∧ some k_ ≠ (.slice Ao32 t665.length co32 : Value).ownBlock ∧ some k_ ≠ (.slice Ao33 t668.length co33 : Value).ownBlock ∧ some k_ ≠ (.slice Ao40 t673.length co40 : Value).ownBlock ∧ some k_ ≠ (.slice Ao41 t676.length co41 : Value).ownBlock ∧ some k_ ≠ (.slice Ao60 t683.length co60 : Value).ownBlock) (Kd.R_keptB (HO688.out) hkp (fun k_ hk_ hs_ => Or.elim hs_ (fun e_ => (hk_.1.1.1.2) e_) (fun e_ => (hk_.1.1.2) e_))) (fun k_ hk_ => ⟨hk_.1.1.1.1.1.1.2, hk_.1.1.1.1.1.2, hk_.1.1.1.1.2, hk_.1.1.1.2, hk_.1.1.2, hk_.1.2, hk_.1.1.1.1.1.1.1⟩)); replace HB := am (hb); (try clear hb); (try clear hkp); (try clear hy0); (try clear hy1)))
      (try simp only [Act.put, List.setIfInBounds_toArray, List.set_cons_zero, List.set_cons_succ])
      go_cut [65] (fun v65 wc => ∃ (kq : Nat) (x65_56 : Bool), v65 = .bool x65_56 ∧ Aside0 (laws_FnExactStandAt.j1 kq a1 t662 x65_56 a0_0 l0_1 l0_2 t655 t656 t659 t672 t673 t676 = some r) ∧ Aside0 (kq ≤ kj11) ∧ Aside0 (Kd.R (Kd.int .i64) 3 wc w.heap.size (fun k_ => some k_ ≠ ((.slice Ao25 t659.length co25) : Value).ownBlock ∧ some k_ ≠ ((.slice Ao32 t665.length co32) : Value).ownBlock ∧ some k_ ≠ ((.slice Ao33 t668.length co33) : Value).ownBlock ∧ some k_ ≠ ((.slice Ao40 t673.length co40) : Value).ownBlock ∧ some k_ ≠ ((.slice Ao41 t676.length co41) : Value).ownBlock) (.slice Ao24 t656.length co24) t656) ∧ Aside0 (Kd.R (Kd.int .i64) 3 wc w.heap.size (fun k_ => some k_ ≠ ((.slice Ao24 t656.length co24) : Value).ownBlock ∧ some k_ ≠ ((.slice Ao32 t665.length co32) : Value).ownBlock ∧ some k_ ≠ ((.slice Ao33 t668.length co33) : Value).ownBlock ∧ some k_ ≠ ((.slice Ao40 t673.length co40) : Value).ownBlock ∧ some k_ ≠ ((.slice Ao41 t676.length co41) : Value).ownBlock) (.slice Ao25 t659.length co25) t659) ∧ Aside0 (Kd.R (Kd.int .i64) 3 wc w.heap.size (fun k_ => some k_ ≠ ((.slice Ao24 t656.length co24) : Value).ownBlock ∧ some k_ ≠ ((.slice Ao25 t659.length co25) : Value).ownBlock ∧ some k_ ≠ ((.slice Ao33 t668.length co33) : Value).ownBlock ∧ some k_ ≠ ((.slice Ao40 t673.length co40) : Value).ownBlock ∧ some k_ ≠ ((.slice Ao41 t676.length co41) : Value).ownBlock) (.slice Ao32 t665.length co32) t691) ∧ Aside0 (Kd.R (Kd.int .i64) 3 wc w.heap.size (fun k_ => some k_ ≠ ((.slice Ao24 t656.length co24) : Value).ownBlock ∧ some k_ ≠ ((.slice Ao25 t659.length co25) : Value).ownBlock ∧ some k_ ≠ ((.slice Ao32 t665.length co32) : Value).ownBlock ∧ some k_ ≠ ((.slice Ao40 t673.length co40) : Value).ownBlock ∧ some k_ ≠ ((.slice Ao41 t676.length co41) : Value).ownBlock) (.slice Ao33 t668.length co33) t692) ∧ Aside0 (Kd.R (Kd.int .i64) 3 wc w.heap.size (fun k_ => some k_ ≠ ((.slice Ao24 t656.length co24) : Value).ownBlock ∧ some k_ ≠ ((.slice Ao25 t659.length co25) : Value).ownBlock ∧ some k_ ≠ ((.slice Ao32 t665.length co32) : Value).ownBlock ∧ some k_ ≠ ((.slice Ao33 t668.length co33) : Value).ownBlock ∧ some k_ ≠ ((.slice Ao41 t676.length co41) : Value).ownBlock) (.slice Ao40 t673.length co40) t673) ∧ Aside0 (Kd.R (Kd.int .i64) 3 wc w.heap.size (fun k_ => some k_ ≠ ((.slice Ao24 t656.length co24) : Value).ownBlock ∧ some k_ ≠ ((.slice Ao25 t659.length co25) : Value).ownBlock ∧ some k_ ≠ ((.slice Ao32 t665.length co32) : Value).ownBlock ∧ some k_ ≠ ((.slice Ao33 t668.length co33) : Value).ownBlock ∧ some k_ ≠ ((.slice Ao40 t673.length co40) : Value).ownBlock) (.slice Ao41 t676.length co41) t676) ∧ Aside0 (wc.heap[gb646]? = some (.cells #[.int .i64 a0_0, (.slice A0_1 l0_1.length c0_1), (.slice A0_2 l0_2.length c0_2)] 43 (0, 0))) ∧ Aside0 (wc.heap[gb663]? = some (.cells #[.int .i64 t655, (.slice Ao24 t656.length co24), (.slice Ao25 t659.length co25)] 46 (0, 0))) ∧ Aside0 (wc.heap[gb671]? = some (.cells #[.int .i64 t664, (.slice Ao32 t665.length co32), (.slice Ao33 t668.length co33)] 46 (0, 0))) ∧ Aside0 (wc.heap[gb680]? = some (.cells #[.int .i64 t672, (.slice Ao40 t673.length co40), (.slice Ao41 t676.length co41)] 46 (0, 0))) ∧ Aside0 (Below w.heap.size w wc))
      case first =>
       have H := HC57.out
       clear HC57
       by_cases c68 : t690 < 0
       ·rw [if_pos c68] at H
        have c68b0 : decide (t690 < 0) = true := decide_eq_true c68
        clear c68
        (first | rw [c68b0] | (simp only [i64_w, i32_w]; rw [c68b0]) | skip)
        cases kj11 with
        | zero => exact absurd H (by simp [laws_FnExactStandAt.j1])
        | succ k_ => (simp only [laws_FnExactStandAt.j1, if_pos] at H; exact absurd (Option.some.inj H) (by rw [HQ_.out]; simp))
       ·rw [if_neg c68] at H
        have c68b0 : decide (t690 < 0) = false := decide_eq_false c68
        clear c68
        (first | rw [c68b0] | (simp only [i64_w, i32_w]; rw [c68b0]) | skip)
        replace H := Option.bind_eq_some_iff.mp H
        obtain ⟨t693, A690, H⟩ := H
        replace H : (if t693 = true then (laws_FnExactStandAt.j1 kj11 a1 t662 (t679 != t662) a0_0 l0_1 l0_2 t655 t656 t659 t672 t673 t676) else (laws_FnExactStandAt.j1 kj11 a1 t662 true a0_0 l0_1 l0_2 t655 t656 t659 t672 t673 t676)) = some r := H
        have A69 := am A690
        clear A690
        by_cases c70 : t693 = true
        ·subst c70
         replace H : (laws_FnExactStandAt.j1 kj11 a1 t662 (t679 != t662) a0_0 l0_1 l0_2 t655 t656 t659 t672 t673 t676) = some r := by rw [if_pos rfl] at H; exact H
         have H' := am H
         clear H
         have hnb71 := NB680_646.out
         have hnc71 := NB646_680.out
         have hnb72 := NB680_663.out
         have hnc72 := NB663_680.out
         have hnb73 := NB680_671.out
         have hnc73 := NB671_680.out
         obtain ⟨hcz74_0, hcz74_1, hcz74_2, hfz74_0, hfz74_1, hfz74_2⟩ := bk3 BK680.out
         have hnb75 := NB663_646.out
         have hnc75 := NB646_663.out
         have hnb76 := NB663_671.out
         have hnc76 := NB671_663.out
         obtain ⟨hcz77_0, hcz77_1, hcz77_2, hfz77_0, hfz77_1, hfz77_2⟩ := bk3 BK663.out
         go_wp2_with (first | (go_at_call 27; (with_reducible refine (laws_eqLatch.calls kj11 t672 _ _ t673 _ _ t676 t655 _ _ t656 _ _ t659 true _ ?side1 ?side2 ?side3 ?side4 ?side5 ?side6 ?side7 ?side8 A69.out).mono ?_); (case side1 => exact pkC (Kd.R_reads' HO_681001.out).2.2); (case side2 => exact (Kd.R_reads' HO_681001.out).2.1); (case side3 => exact pkC (Kd.R_reads' HO_681002.out).2.2); (case side4 => exact (Kd.R_reads' HO_681002.out).2.1); (case side5 => exact pkC (Kd.R_reads' HO_664001.out).2.2); (case side6 => exact (Kd.R_reads' HO_664001.out).2.1); (case side7 => exact pkC (Kd.R_reads' HO_664002.out).2.2); (case side8 => exact (Kd.R_reads' HO_664002.out).2.1); rintro e w78 ⟨rfl, hb⟩; replace HO_664001 := am (Kd.R_below (pkR HO_664001.out) hb); replace HO_664002 := am (Kd.R_below (pkR HO_664002.out) hb); replace HO_672001 := am (Kd.R_below (pkR HO_672001.out) hb); replace HO_672002 := am (Kd.R_below (pkR HO_672002.out) hb); replace HO_681001 := am (Kd.R_below (pkR HO_681001.out) hb); replace HO_681002 := am (Kd.R_below (pkR HO_681002.out) hb); replace HO685 := am (Kd.R_below (pkR HO685.out) hb); replace HO688 := am (Kd.R_below (pkR HO688.out) hb); replace BK646 := am (blk_below (pkK BK646.out) hb); replace BK663 := am (blk_below (pkK BK663.out) hb); replace BK671 := am (blk_below (pkK BK671.out) hb); replace BK680 := am (blk_below (pkK BK680.out) hb); replace HB := am (below_step (pkW HB.out) hb); (try clear hb)))
         go_meet
         case rel => exact ⟨_, ((t679 != t662)), rfx, H', ⟨by have := HJ11.out; first | omega | exact Nat.le_refl _⟩, ⟨by (with_reducible repeat (first | apply Kd.R_alloc | apply Kd.R_drewN | apply Kd.R_drew)); exact Kd.R_mono HO_664001.out (fun _ hk => ⟨hk.1, ⟨hk.2.1, ⟨hk.2.2.1, ⟨hk.2.2.2.1, hk.2.2.2.2.1⟩⟩⟩⟩)⟩, ⟨by (with_reducible repeat (first | apply Kd.R_alloc | apply Kd.R_drewN | apply Kd.R_drew)); exact Kd.R_mono HO_664002.out (fun _ hk => ⟨hk.1, ⟨hk.2.1, ⟨hk.2.2.1, ⟨hk.2.2.2.1, hk.2.2.2.2.1⟩⟩⟩⟩)⟩, ⟨by (with_reducible repeat (first | apply Kd.R_alloc | apply Kd.R_drewN | apply Kd.R_drew)); exact Kd.R_mono HO_672001.out (fun _ hk => ⟨hk.1.1.1, ⟨hk.1.1.2.1, ⟨hk.1.1.2.2.1, ⟨hk.1.1.2.2.2.1, hk.1.1.2.2.2.2⟩⟩⟩⟩)⟩, ⟨by (with_reducible repeat (first | apply Kd.R_alloc | apply Kd.R_drewN | apply Kd.R_drew)); exact Kd.R_mono HO_672002.out (fun _ hk => ⟨hk.1.1.1, ⟨hk.1.1.2.1, ⟨hk.1.1.2.2.1, ⟨hk.1.1.2.2.2.1, hk.1.1.2.2.2.2⟩⟩⟩⟩)⟩, ⟨by (with_reducible repeat (first | apply Kd.R_alloc | apply Kd.R_drewN | apply Kd.R_drew)); exact Kd.R_mono HO_681001.out (fun _ hk => ⟨hk.1, ⟨hk.2.1, ⟨hk.2.2.1, ⟨hk.2.2.2.1, hk.2.2.2.2.1⟩⟩⟩⟩)⟩, ⟨by (with_reducible repeat (first | apply Kd.R_alloc | apply Kd.R_drewN | apply Kd.R_drew)); exact Kd.R_mono HO_681002.out (fun _ hk => ⟨hk.1, ⟨hk.2.1, ⟨hk.2.2.1, ⟨hk.2.2.2.1, hk.2.2.2.2.1⟩⟩⟩⟩)⟩, ⟨pkK BK646.out⟩, ⟨pkK BK663.out⟩, ⟨pkK BK671.out⟩, ⟨pkK BK680.out⟩, ⟨pkW HB.out⟩⟩
        ·replace c70 := Bool.eq_false_iff.mpr c70
         subst c70
         replace H : (laws_FnExactStandAt.j1 kj11 a1 t662 true a0_0 l0_1 l0_2 t655 t656 t659 t672 t673 t676) = some r := by rw [if_neg (show ¬ (false = true) by decide)] at H; exact H
         cases kj11 with
         | zero => exact absurd H (by simp [laws_FnExactStandAt.j1])
         | succ k_ => (simp only [laws_FnExactStandAt.j1, if_pos] at H; exact absurd (Option.some.inj H) (by rw [HQ_.out]; simp))
      case rest =>
       clear HC57
       try clear c2
       try clear p2
       try clear c3
       try clear c4
       try clear c4b0
       try clear c5
       try clear c6
       try clear c7
       try clear c22
       try clear c23
       try clear c25
       try clear c27
       try clear c28
       try clear c29
       try clear c30
       try clear c35
       try clear c36
       try clear c37
       try clear c38
       try clear c43
       try clear c44
       try clear c45
       try clear c46
       try clear c48
       try clear c49
       try clear c52
       try clear c55
       try clear c63
       try clear c64
       try clear c65
       try clear c68
       try clear c68b0
       try clear c70
       try clear c71
       try clear c72
       try clear c73
       try clear c75
       try clear c76
       try clear hcz14_0
       try clear hcz14_1
       try clear hcz14_2
       try clear hcz16_0
       try clear hcz16_1
       try clear hcz16_2
       try clear hcz23_0
       try clear hcz23_1
       try clear hcz23_2
       try clear hcz26_0
       try clear hcz26_1
       try clear hcz26_2
       try clear hcz31_0
       try clear hcz31_1
       try clear hcz31_2
       try clear hcz39_0
       try clear hcz39_1
       try clear hcz39_2
       try clear hcz47_0
       try clear hcz47_1
       try clear hcz47_2
       try clear hcz50_0
       try clear hcz50_1
       try clear hcz50_2
       try clear hcz66_0
       try clear hcz66_1
       try clear hcz66_2
       try clear hcz6_0
       try clear hcz6_1
       try clear hcz6_2
       try clear hcz74_0
       try clear hcz74_1
       try clear hcz74_2
       try clear hcz77_0
       try clear hcz77_1
       try clear hcz77_2
       try clear hfz14_0
       try clear hfz14_1
       try clear hfz14_2
       try clear hfz16_0
       try clear hfz16_1
       try clear hfz16_2
       try clear hfz23_0
       try clear hfz23_1
       try clear hfz23_2
       try clear hfz26_0
       try clear hfz26_1
       try clear hfz26_2
       try clear hfz31_0
       try clear hfz31_1
       try clear hfz31_2
       try clear hfz39_0
       try clear hfz39_1
       try clear hfz39_2
       try clear hfz47_0
       try clear hfz47_1
       try clear hfz47_2
       try clear hfz50_0
       try clear hfz50_1
       try clear hfz50_2
       try clear hfz66_0
       try clear hfz66_1
       try clear hfz66_2
       try clear hfz6_0
       try clear hfz6_1
       try clear hfz6_2
       try clear hfz74_0
       try clear hfz74_1
       try clear hfz74_2
       try clear hfz77_0
       try clear hfz77_1
       try clear hfz77_2
       try clear p2
       obtain ⟨kq, x65_56, rfl, HA, HJ56, HO_664001, HO_664002, HO_672001, HO_672002, HO_681001, HO_681002, BK646, BK663, BK671, BK680, HB⟩ := hcut
       have hl672001_56 := (Kd.R_reads' HO_672001.out).1
       rw [hl672001_56] at HO_672001
       (try simp only [hl672001_56])
       (try simp only [hl672001_56] at BK646)
       (try simp only [hl672001_56] at BK663)
       (try simp only [hl672001_56] at BK671)
       (try simp only [hl672001_56] at BK680)
       (try simp only [hl672001_56] at HO_664001)
       (try simp only [hl672001_56] at HO_664002)
       (try simp only [hl672001_56] at HO_672002)
       (try simp only [hl672001_56] at HO_681001)
       (try simp only [hl672001_56] at HO_681002)
       have hl672002_56 := (Kd.R_reads' HO_672002.out).1
       rw [hl672002_56] at HO_672002
       (try simp only [hl672002_56])
       (try simp only [hl672002_56] at BK646)
       (try simp only [hl672002_56] at BK663)
       (try simp only [hl672002_56] at BK671)
       (try simp only [hl672002_56] at BK680)
       (try simp only [hl672002_56] at HO_664001)
       (try simp only [hl672002_56] at HO_664002)
       (try simp only [hl672002_56] at HO_672001)
       (try simp only [hl672002_56] at HO_681001)
       (try simp only [hl672002_56] at HO_681002)
       cases kq with
       | zero => exact absurd HA.out (by simp [laws_FnExactStandAt.j1])
       | succ kj56 =>
        have H := HA.out
        clear HA
        simp only [laws_FnExactStandAt.j1] at H
        by_cases c79 : x65_56 = true
        ·subst c79
         replace H : (some false) = some r := by rw [if_pos rfl] at H; exact H
         exact absurd (Option.some.inj H) (by rw [HQ_.out]; simp)
        ·replace c79 := Bool.eq_false_iff.mpr c79
         subst c79
         replace H : ((laws_markLatch.f kj56 t672 t673 t676 1).bind fun bt694 => ((laws_heldLatch.f kj56 t672 bt694.2.1 bt694.2.2 1).bind fun t697 => (if t697 < 0 then (some false) else (if t697 = bt694.1 then ((laws_toLatch.f kj56 a0_0 l0_1 l0_2).bind fun bt698 => ((impl_StandAt.f kj56 bt698.1 bt698.2.1 bt698.2.2 a1).bind fun bt705 => ((laws_eqLatch.f kj56 bt705.1 bt705.2.1 bt705.2.2.1 t655 t656 t659).bind fun t714 => (if t714 = true then (laws_FnExactStandAt.j2 kj56 bt694.1 (bt705.2.2.2 != t662) t672 bt694.2.1 bt694.2.2) else (laws_FnExactStandAt.j2 kj56 bt694.1 true t672 bt694.2.1 bt694.2.2))))) else (some false))))) = some r := by rw [if_neg (show ¬ (false = true) by decide)] at H; exact H
         replace H := Option.bind_eq_some_iff.mp H
         obtain ⟨⟨t694, t695, t696⟩, A800, H⟩ := H
         replace H : ((laws_heldLatch.f kj56 t672 t695 t696 1).bind fun t697 => (if t697 < 0 then (some false) else (if t697 = t694 then ((laws_toLatch.f kj56 a0_0 l0_1 l0_2).bind fun bt698 => ((impl_StandAt.f kj56 bt698.1 bt698.2.1 bt698.2.2 a1).bind fun bt705 => ((laws_eqLatch.f kj56 bt705.1 bt705.2.1 bt705.2.2.1 t655 t656 t659).bind fun t714 => (if t714 = true then (laws_FnExactStandAt.j2 kj56 t694 (bt705.2.2.2 != t662) t672 t695 t696) else (laws_FnExactStandAt.j2 kj56 t694 true t672 t695 t696))))) else (some false)))) = some r := H
         have A80 := am A800
         clear A800
         replace H := Option.bind_eq_some_iff.mp H
         obtain ⟨t697, A810, H⟩ := H
         replace H : (if t697 < 0 then (some false) else (if t697 = t694 then ((laws_toLatch.f kj56 a0_0 l0_1 l0_2).bind fun bt698 => ((impl_StandAt.f kj56 bt698.1 bt698.2.1 bt698.2.2 a1).bind fun bt705 => ((laws_eqLatch.f kj56 bt705.1 bt705.2.1 bt705.2.2.1 t655 t656 t659).bind fun t714 => (if t714 = true then (laws_FnExactStandAt.j2 kj56 t694 (bt705.2.2.2 != t662) t672 t695 t696) else (laws_FnExactStandAt.j2 kj56 t694 true t672 t695 t696))))) else (some false))) = some r := H
         have A81 := am A810
         clear A810
         by_cases c82 : t697 < 0
         ·rw [if_pos c82] at H
          have c82b0 : decide (t697 < 0) = true := decide_eq_true c82
          clear c82
          exact absurd (Option.some.inj H) (by rw [HQ_.out]; simp)
         ·rw [if_neg c82] at H
          have c82b0 : decide (t697 < 0) = false := decide_eq_false c82
          clear c82
          by_cases c83 : t697 = t694
          ·rw [if_pos c83] at H
           have c83b0 : (t697 == t694) = true := beq_iff_eq.mpr c83
           have c83b1 : (t697 != t694) = false := bne_eq_false_iff_eq.mpr c83
           clear c83
           replace H := Option.bind_eq_some_iff.mp H
           obtain ⟨⟨t698, t699, t702⟩, A840, H⟩ := H
           replace H : ((impl_StandAt.f kj56 t698 t699 t702 a1).bind fun bt705 => ((laws_eqLatch.f kj56 bt705.1 bt705.2.1 bt705.2.2.1 t655 t656 t659).bind fun t714 => (if t714 = true then (laws_FnExactStandAt.j2 kj56 t694 (bt705.2.2.2 != t662) t672 t695 t696) else (laws_FnExactStandAt.j2 kj56 t694 true t672 t695 t696)))) = some r := H
           have A84 := am A840
           clear A840
           replace H := Option.bind_eq_some_iff.mp H
           obtain ⟨⟨t705, t706, t709, t712⟩, A850, H⟩ := H
           replace H : ((laws_eqLatch.f kj56 t705 t706 t709 t655 t656 t659).bind fun t714 => (if t714 = true then (laws_FnExactStandAt.j2 kj56 t694 (t712 != t662) t672 t695 t696) else (laws_FnExactStandAt.j2 kj56 t694 true t672 t695 t696))) = some r := H
           have A85 := am A850
           clear A850
           have HC86 := am H
           clear H
           have hnb87 := NB680_646.out
           have hnc87 := NB646_680.out
           have hnb88 := NB680_663.out
           have hnc88 := NB663_680.out
           have hnb89 := NB680_671.out
           have hnc89 := NB671_680.out
           obtain ⟨hcz90_0, hcz90_1, hcz90_2, hfz90_0, hfz90_1, hfz90_2⟩ := bk3 BK680.out
           go_upto_region 25 with (first | ((with_reducible refine gate_callee (f := 36) rfl ?_); refine goesL_ (some 68) rfl rfl Try.func36 (by kernel_rfl) rfl #[.agg #[.int .i64 t672, .slice Ao40 t673.length co40, .slice Ao41 t676.length co41], .int .i64 1] rfl mpx ?_; (with_reducible refine (laws_markLatch.calls kj56 t672 (fun k_ => some k_ = (.slice Ao40 t673.length co40 : Value).ownBlock) (.slice Ao40 t673.length co40) t673 (fun k_ => some k_ = (.slice Ao41 t676.length co41 : Value).ownBlock) (.slice Ao41 t676.length co41) t676 1 t694 t695 t696 w _ ?side1 ?side2 ?side3 ?side4 ?side5 A80.out).mono ?_); (case side1 => repeat (first | (with_reducible first | exact HB.out | apply below_alloc | apply pw_below_drewN | apply below_drew1 | refine below_set ?_ GE646.out | refine below_set ?_ GE663.out | refine below_set ?_ GE671.out | refine below_set ?_ GE680.out) | exact HB.out)); (case side2 => exact Kd.R_tight rfl HO_681001.out); (case side3 => exact fun k_ e_ => (HO_681001.out.1 k_ e_.symm).2.2.2.2); (case side4 => exact Kd.R_tight rfl HO_681002.out); (case side5 => exact fun k_ e_ => (HO_681002.out.1 k_ e_.symm).2.2.2.2); rintro e w91 ⟨rfl, hy0, hy1, hb, hkp⟩; refine ⟨_, rfl, ?_⟩; replace HO_664001 := am (Kd.R_mono (ok' := fun k_ => some k_ ≠ (.slice Ao25 t659.length co25 : Value).ownBlock ∧ some k_ ≠ (.slice Ao32 t691.length co32 : Value).ownBlock ∧ some k_ ≠ (.slice Ao33 t692.length co33 : Value).ownBlock ∧ some k_ ≠ (.slice Ao40 t673.length co40 : Value).ownBlock ∧ some k_ ≠ (.slice Ao41 t676.length co41 : Value).ownBlock) (Kd.R_keptB (HO_664001.out) hkp (fun k_ hk_ hs_ => Or.elim hs_ (fun e_ => (hk_.2.2.2.1) e_) (fun e_ => (hk_.2.2.2.2) e_))) (fun k_ hk_ => ⟨hk_.1.1, hk_.1.2.1, hk_.1.2.2.1, hk_.1.2.2.2.1, hk_.1.2.2.2.2⟩)); replace HO_664002 := am (Kd.R_mono (ok' := fun k_ => some k_ ≠ (.slice Ao24 t656.length co24 : Value).ownBlock ∧ some k_ ≠ (.slice Ao32 t691.length co32 : Value).ownBlock ∧ some k_ ≠ (.slice Ao33 t692.length co33 : Value).ownBlock ∧ some k_ ≠ (.slice Ao40 t673.length co40 : Value).ownBlock ∧ some k_ ≠ (.slice Ao41 t676.length co41 : Value).ownBlock) (Kd.R_keptB (HO_664002.out) hkp (fun k_ hk_ hs_ => Or.elim hs_ (fun e_ => (hk_.2.2.2.1) e_) (fun e_ => (hk_.2.2.2.2) e_))) (fun k_ hk_ => ⟨hk_.1.1, hk_.1.2.1, hk_.1.2.2.1, hk_.1.2.2.2.1, hk_.1.2.2.2.2⟩)); replace HO_672001 := am (Kd.R_mono (ok' := fun k_ => some k_ ≠ (.slice Ao24 t656.length co24 : Value).ownBlock ∧ some k_ ≠ (.slice Ao25 t659.length co25 : Value).ownBlock ∧ some k_ ≠ (.slice Ao33 t692.length co33 : Value).ownBlock ∧ some k_ ≠ (.slice Ao40 t673.length co40 : Value).ownBlock ∧ some k_ ≠ (.slice Ao41 t676.length co41 : Value).ownBlock) (Kd.R_keptB (HO_672001.out) hkp (fun k_ hk_ hs_ => Or.elim hs_ (fun e_ => (hk_.2.2.2.1) e_) (fun e_ => (hk_.2.2.2.2) e_))) (fun k_ hk_ => ⟨hk_.1.1, hk_.1.2.1, hk_.1.2.2.1, hk_.1.2.2.2.1, hk_.1.2.2.2.2⟩)); replace HO_672002 := am (Kd.R_mono (ok' := fun k_ => some k_ ≠ (.slice Ao24 t656.length co24 : Value).ownBlock ∧ some k_ ≠ (.slice Ao25 t659.length co25 : Value).ownBlock ∧ some k_ ≠ (.slice Ao32 t691.length co32 : Value).ownBlock ∧ some k_ ≠ (.slice Ao40 t673.length co40 : Value).ownBlock ∧ some k_ ≠ (.slice Ao41 t676.length co41 : Value).ownBlock) (Kd.R_keptB (HO_672002.out) hkp (fun k_ hk_ hs_ => Or.elim hs_ (fun e_ => (hk_.2.2.2.1) e_) (fun e_ => (hk_.2.2.2.2) e_))) (fun k_ hk_ => ⟨hk_.1.1, hk_.1.2.1, hk_.1.2.2.1, hk_.1.2.2.2.1, hk_.1.2.2.2.2⟩)); replace BK646 := am (blk_kept (pkK BK646.out) hkp (fun hs_ => Or.elim hs_ (fun e_ => (fun e_ => (Kd.R_ne HO_681001.out BK646.out (by decide)) e_) e_) (fun e_ => (fun e_ => (Kd.R_ne HO_681002.out BK646.out (by decide)) e_) e_))); replace BK663 := am (blk_kept (pkK BK663.out) hkp (fun hs_ => Or.elim hs_ (fun e_ => (fun e_ => (Kd.R_ne HO_681001.out BK663.out (by decide)) e_) e_) (fun e_ => (fun e_ => (Kd.R_ne HO_681002.out BK663.out (by decide)) e_) e_))); replace BK671 := am (blk_kept (pkK BK671.out) hkp (fun hs_ => Or.elim hs_ (fun e_ => (fun e_ => (Kd.R_ne HO_681001.out BK671.out (by decide)) e_) e_) (fun e_ => (fun e_ => (Kd.R_ne HO_681002.out BK671.out (by decide)) e_) e_))); replace BK680 := am (blk_kept (pkK BK680.out) hkp (fun hs_ => Or.elim hs_ (fun e_ => (fun e_ => (Kd.R_ne HO_681001.out BK680.out (by decide)) e_) e_) (fun e_ => (fun e_ => (Kd.R_ne HO_681002.out BK680.out (by decide)) e_) e_))); replace HO_681001 := am (Kd.R_reok rfl hy0 (fun k_ e_ => HO_681001.out.1 k_ e_)); replace HO_681002 := am (Kd.R_reok rfl hy1 (fun k_ e_ => HO_681002.out.1 k_ e_)); replace HB := am (hb); (try clear hb); (try clear hkp); (try clear hy0); (try clear hy1); obtain ⟨hcz92_0, hcz92_1, hcz92_2, hfz92_0, hfz92_1, hfz92_2⟩ := bk3 BK680.out) | ((with_reducible refine gate_callee (f := 37) rfl ?_); refine goesL_ (some 71) rfl rfl Try.func37 (by kernel_rfl) rfl #[.agg #[.int .i64 t672, .slice Ao40 t695.length co40, .slice Ao41 t696.length co41], .int .i64 1] rfl (by (try simp only [List.map_toArray, List.map_cons, List.map_nil]); first | done | (rw [show t695.length = t673.length from (Kd.R_reads' HO_681001.out).1.symm, show t696.length = t676.length from (Kd.R_reads' HO_681002.out).1.symm] <;> rfl) | rfl | (simp only [List.length_drop, List.length_take]; rfl) | (go_simp; done) | (simp [*]; done)) ?_; (with_reducible refine (laws_heldLatch.calls kj56 t672 _ _ t695 _ _ t696 1 t697 _ ?side1 ?side2 ?side3 ?side4 A81.out).mono ?_); (case side1 => exact pkC (Kd.R_reads' HO_681001.out).2.2); (case side2 => rw [show t695.length = t673.length from (Kd.R_reads' HO_681001.out).1.symm]; exact (Kd.R_reads' HO_681001.out).2.1); (case side3 => exact pkC (Kd.R_reads' HO_681002.out).2.2); (case side4 => rw [show t696.length = t676.length from (Kd.R_reads' HO_681002.out).1.symm]; exact (Kd.R_reads' HO_681002.out).2.1); rintro e w93 ⟨rfl, hb⟩; refine ⟨_, rfl, ?_⟩; replace HO_664001 := am (Kd.R_below (pkR HO_664001.out) hb); replace HO_664002 := am (Kd.R_below (pkR HO_664002.out) hb); replace HO_672001 := am (Kd.R_below (pkR HO_672001.out) hb); replace HO_672002 := am (Kd.R_below (pkR HO_672002.out) hb); replace HO_681001 := am (Kd.R_below (pkR HO_681001.out) hb); replace HO_681002 := am (Kd.R_below (pkR HO_681002.out) hb); replace BK646 := am (blk_below (pkK BK646.out) hb); replace BK663 := am (blk_below (pkK BK663.out) hb); replace BK671 := am (blk_below (pkK BK671.out) hb); replace BK680 := am (blk_below (pkK BK680.out) hb); replace HB := am (below_step (pkW HB.out) hb); (try clear hb); have hnb94 := NB646_663.out; have hnc94 := NB663_646.out; have hnb95 := NB646_671.out; have hnc95 := NB671_646.out; obtain ⟨hcz96_0, hcz96_1, hcz96_2, hfz96_0, hfz96_1, hfz96_2⟩ := bk3 BK646.out) | ((with_reducible refine gate_callee (f := 25) rfl ?_); refine goesL_ (some 79) rfl rfl Try.func25 (by kernel_rfl) rfl #[.agg #[.int .i64 a0_0, .slice A0_1 l0_1.length c0_1, .slice A0_2 l0_2.length c0_2]] rfl mpx ?_; (with_reducible refine (laws_toLatch.calls kj56 a0_0 _ _ l0_1 _ _ l0_2 t698 t699 t702 _ ?side1 ?side2 ?side3 ?side4 A84.out).mono ?_); (case side1 => exact pkC (Kd.C_below HR0_1.out HB.out)); (case side2 => exact HC0_1.out); (case side3 => exact pkC (Kd.C_below HR0_2.out HB.out)); (case side4 => exact HC0_2.out); rintro e w97 ⟨v700, v703, rfl, ho0, ho1, hb⟩; refine ⟨_, rfl, ?_⟩; have HO701 := am (Kd.R_lower (Kd.R_new' (Kd.R_new' (Kd.R_new' (Kd.R_new' (Kd.R_new' (Kd.R_new' ho0 (Kd.R_lt (pkR HO_664001.out))) (Kd.R_lt (pkR HO_664002.out))) (Kd.R_lt (pkR HO_672001.out))) (Kd.R_lt (pkR HO_672002.out))) (Kd.R_lt (pkR HO_681001.out))) (Kd.R_lt (pkR HO_681002.out))) (below_size (pkW HB.out))); have HO704 := am (Kd.R_lower (Kd.R_new' (Kd.R_new' (Kd.R_new' (Kd.R_new' (Kd.R_new' (Kd.R_new' ho1 (Kd.R_lt (pkR HO_664001.out))) (Kd.R_lt (pkR HO_664002.out))) (Kd.R_lt (pkR HO_672001.out))) (Kd.R_lt (pkR HO_672002.out))) (Kd.R_lt (pkR HO_681001.out))) (Kd.R_lt (pkR HO_681002.out))) (below_size (pkW HB.out))); replace HO_664001 := am (Kd.R_mono (Kd.R_told (Kd.R_told (Kd.R_old (pkR HO_664001.out) hb) (Kd.R_base ho0)) (Kd.R_base ho1)) (fun _ h_ => h_.1)); replace HO_664002 := am (Kd.R_mono (Kd.R_told (Kd.R_told (Kd.R_old (pkR HO_664002.out) hb) (Kd.R_base ho0)) (Kd.R_base ho1)) (fun _ h_ => h_.1)); replace HO_672001 := am (Kd.R_mono (Kd.R_told (Kd.R_told (Kd.R_old (pkR HO_672001.out) hb) (Kd.R_base ho0)) (Kd.R_base ho1)) (fun _ h_ => h_.1)); replace HO_672002 := am (Kd.R_mono (Kd.R_told (Kd.R_told (Kd.R_old (pkR HO_672002.out) hb) (Kd.R_base ho0)) (Kd.R_base ho1)) (fun _ h_ => h_.1)); replace HO_681001 := am (Kd.R_mono (Kd.R_told (Kd.R_told (Kd.R_old (pkR HO_681001.out) hb) (Kd.R_base ho0)) (Kd.R_base ho1)) (fun _ h_ => h_.1)); replace HO_681002 := am (Kd.R_mono (Kd.R_told (Kd.R_told (Kd.R_old (pkR HO_681002.out) hb) (Kd.R_base ho0)) (Kd.R_base ho1)) (fun _ h_ => h_.1)); replace BK646 := am (blk_below (pkK BK646.out) hb); replace BK663 := am (blk_below (pkK BK663.out) hb); replace BK671 := am (blk_below (pkK BK671.out) hb); replace BK680 := am (blk_below (pkK BK680.out) hb); replace HB := am (below_step (pkW HB.out) hb); (try clear hb ho0 ho1); obtain ⟨Ao98, co98, eo98⟩ := Kd.R_slice HO701.out; subst eo98; obtain ⟨Ao99, co99, eo99⟩ := Kd.R_slice HO704.out; subst eo99) | ((with_reducible refine gate_callee (f := 28) rfl ?_); refine goesL_ (some 81) rfl rfl Try.func28 (by kernel_rfl) rfl #[.agg #[.int .i64 t698, .slice Ao98 t699.length co98, .slice Ao99 t702.length co99], .int .i64 a1] rfl mpx ?_; (with_reducible refine (impl_StandAt.calls kj56 t698 _ _ t699 _ _ t702 a1 t705 t706 t709 t712 _ ?side1 ?side2 ?side3 ?side4 A85.out).mono ?_); (case side1 => exact pkC (Kd.R_reads' HO701.out).2.2); (case side2 => exact (Kd.R_reads' HO701.out).2.1); (case side3 => exact pkC (Kd.R_reads' HO704.out).2.2); (case side4 => exact (Kd.R_reads' HO704.out).2.1); rintro e w100 ⟨v707, v710, rfl, ho0, ho1, hb⟩; refine ⟨_, rfl, ?_⟩; have HO708 := am (Kd.R_lower (Kd.R_new' (Kd.R_new' (Kd.R_new' (Kd.R_new' (Kd.R_new' (Kd.R_new' (Kd.R_new' (Kd.R_new' ho0 (Kd.R_lt (pkR HO_664001.out))) (Kd.R_lt (pkR HO_664002.out))) (Kd.R_lt (pkR HO_672001.out))) (Kd.R_lt (pkR HO_672002.out))) (Kd.R_lt (pkR HO_681001.out))) (Kd.R_lt (pkR HO_681002.out))) (Kd.R_lt (pkR HO701.out))) (Kd.R_lt (pkR HO704.out))) (below_size (pkW HB.out))); have HO711 := am (Kd.R_lower (Kd.R_new' (Kd.R_new' (Kd.R_new' (Kd.R_new' (Kd.R_new' (Kd.R_new' (Kd.R_new' (Kd.R_new' ho1 (Kd.R_lt (pkR HO_664001.out))) (Kd.R_lt (pkR HO_664002.out))) (Kd.R_lt (pkR HO_672001.out))) (Kd.R_lt (pkR HO_672002.out))) (Kd.R_lt (pkR HO_681001.out))) (Kd.R_lt (pkR HO_681002.out))) (Kd.R_lt (pkR HO701.out))) (Kd.R_lt (pkR HO704.out))) (below_size (pkW HB.out))); replace HO_664001 := am (Kd.R_mono (Kd.R_told (Kd.R_told (Kd.R_old (pkR HO_664001.out) hb) (Kd.R_base ho0)) (Kd.R_base ho1)) (fun _ h_ => h_.1)); replace HO_664002 := am (Kd.R_mono (Kd.R_told (Kd.R_told (Kd.R_old (pkR HO_664002.out) hb) (Kd.R_base ho0)) (Kd.R_base ho1)) (fun _ h_ => h_.1)); replace HO_672001 := am (Kd.R_mono (Kd.R_told (Kd.R_told (Kd.R_old (pkR HO_672001.out) hb) (Kd.R_base ho0)) (Kd.R_base ho1)) (fun _ h_ => h_.1)); replace HO_672002 := am (Kd.R_mono (Kd.R_told (Kd.R_told (Kd.R_old (pkR HO_672002.out) hb) (Kd.R_base ho0)) (Kd.R_base ho1)) (fun _ h_ => h_.1)); replace HO_681001 := am (Kd.R_mono (Kd.R_told (Kd.R_told (Kd.R_old (pkR HO_681001.out) hb) (Kd.R_base ho0)) (Kd.R_base ho1)) (fun _ h_ => h_.1)); replace HO_681002 := am (Kd.R_mono (Kd.R_told (Kd.R_told (Kd.R_old (pkR HO_681002.out) hb) (Kd.R_base ho0)) (Kd.R_base ho1)) (fun _ h_ => h_.1)); replace HO701 := am (Kd.R_mono (Kd.R_told (Kd.R_told (Kd.R_old (pkR HO701.out) hb) (Kd.R_base ho0)) (Kd.R_base ho1)) (fun _ h_ => h_.1)); replace HO704 := am (Kd.R_mono (Kd.R_told (Kd.R_told (Kd.R_old (pkR HO704.out) hb) (Kd.R_base ho0)) (Kd.R_base ho1)) (fun _ h_ => h_.1)); replace BK646 := am (blk_below (pkK BK646.out) hb); replace BK663 := am (blk_below (pkK BK663.out) hb); replace BK671 := am (blk_below (pkK BK671.out) hb); replace BK680 := am (blk_below (pkK BK680.out) hb); replace HB := am (below_step (pkW HB.out) hb); (try clear hb ho0 ho1)) | ((with_reducible refine gate_dst (N := 14) rfl ?_); refine box_event ?hg (N := 14) ?hd (cs := #[.int .i64 0, .slice none 0 0, .slice none 0 0]) (t := 46) ?hr ?_; (case hd => rfl); (case hg => rfl); (case hr => first | (go_simp; done) | (go_simp; rfl)); intro gb713 hg w101 hbox hb; replace HO_664001 := am (Kd.R_below (pkR HO_664001.out) hb); replace HO_664002 := am (Kd.R_below (pkR HO_664002.out) hb); replace HO_672001 := am (Kd.R_below (pkR HO_672001.out) hb); replace HO_672002 := am (Kd.R_below (pkR HO_672002.out) hb); replace HO_681001 := am (Kd.R_below (pkR HO_681001.out) hb); replace HO_681002 := am (Kd.R_below (pkR HO_681002.out) hb); replace HO701 := am (Kd.R_below (pkR HO701.out) hb); replace HO704 := am (Kd.R_below (pkR HO704.out) hb); replace HO708 := am (Kd.R_below (pkR HO708.out) hb); replace HO711 := am (Kd.R_below (pkR HO711.out) hb); have BK713 := am (hbox); have GW713 := am ((by rw [hg]; exact (below_size (pkW HB.out)) : w.heap.size ≤ gb713)); have GE713 := am ((by rw [hg]; exact (below_size (pkW HB.out)) : w.heap.size ≤ gb713)); replace HB := am (below_step (pkW HB.out) hb); have NB646_713 := am ((by rw [hg]; exact Nat.ne_of_lt (blk_lt (g := gb646) (o := .cells #[.int .i64 a0_0, .slice A0_1 l0_1.length c0_1, .slice A0_2 l0_2.length c0_2] 43 (0, 0)) (pkK BK646.out)) : gb646 ≠ gb713)); have NB713_646 := am ((by rw [hg]; exact Nat.ne_of_gt (blk_lt (g := gb646) (o := .cells #[.int .i64 a0_0, .slice A0_1 l0_1.length c0_1, .slice A0_2 l0_2.length c0_2] 43 (0, 0)) (pkK BK646.out)) : gb713 ≠ gb646)); replace BK646 := am (blk_below (pkK BK646.out) hb); have NB663_713 := am ((by rw [hg]; exact Nat.ne_of_lt (blk_lt (g := gb663) (o := .cells #[.int .i64 t655, .slice Ao24 t656.length co24, .slice Ao25 t659.length co25] 46 (0, 0)) (pkK BK663.out)) : gb663 ≠ gb713)); have NB713_663 := am ((by rw [hg]; exact Nat.ne_of_gt (blk_lt (g := gb663) (o := .cells #[.int .i64 t655, .slice Ao24 t656.length co24, .slice Ao25 t659.length co25] 46 (0, 0)) (pkK BK663.out)) : gb713 ≠ gb663)); replace BK663 := am (blk_below (pkK BK663.out) hb); have NB671_713 := am ((by rw [hg]; exact Nat.ne_of_lt (blk_lt (g := gb671) (o := .cells #[.int .i64 t664, .slice Ao32 t691.length co32, .slice Ao33 t692.length co33] 46 (0, 0)) (pkK BK671.out)) : gb671 ≠ gb713)); have NB713_671 := am ((by rw [hg]; exact Nat.ne_of_gt (blk_lt (g := gb671) (o := .cells #[.int .i64 t664, .slice Ao32 t691.length co32, .slice Ao33 t692.length co33] 46 (0, 0)) (pkK BK671.out)) : gb713 ≠ gb671)); replace BK671 := am (blk_below (pkK BK671.out) hb); have NB680_713 := am ((by rw [hg]; exact Nat.ne_of_lt (blk_lt (g := gb680) (o := .cells #[.int .i64 t672, .slice Ao40 t673.length co40, .slice Ao41 t676.length co41] 46 (0, 0)) (pkK BK680.out)) : gb680 ≠ gb713)); have NB713_680 := am ((by rw [hg]; exact Nat.ne_of_gt (blk_lt (g := gb680) (o := .cells #[.int .i64 t672, .slice Ao40 t673.length co40, .slice Ao41 t676.length co41] 46 (0, 0)) (pkK BK680.out)) : gb713 ≠ gb680)); replace BK680 := am (blk_below (pkK BK680.out) hb); clear hb hbox hg; have hnb102 := NB713_646.out; have hnc102 := NB646_713.out; have hnb103 := NB713_663.out; have hnc103 := NB663_713.out; have hnb104 := NB713_671.out; have hnc104 := NB671_713.out; have hnb105 := NB713_680.out; have hnc105 := NB680_713.out; obtain ⟨hcz106_0, hcz106_1, hcz106_2, hfz106_0, hfz106_1, hfz106_2⟩ := bk3 BK713.out; obtain ⟨Ao107, co107, eo107⟩ := Kd.R_slice HO708.out; subst eo107; obtain ⟨Ao108, co108, eo108⟩ := Kd.R_slice HO711.out; subst eo108))
           (try simp only [Act.put, List.setIfInBounds_toArray, List.set_cons_zero, List.set_cons_succ])
           go_cut [92] (fun v92 wc => ∃ (kq : Nat) (x92_85 : Bool), v92 = .bool x92_85 ∧ Aside0 (laws_FnExactStandAt.j2 kq t694 x92_85 t672 t695 t696 = some r) ∧ Aside0 (kq ≤ kj56) ∧ Aside0 (Kd.R (Kd.int .i64) 3 wc w.heap.size (fun k_ => some k_ ≠ ((.slice Ao25 t659.length co25) : Value).ownBlock ∧ some k_ ≠ ((.slice Ao32 t691.length co32) : Value).ownBlock ∧ some k_ ≠ ((.slice Ao33 t692.length co33) : Value).ownBlock ∧ some k_ ≠ ((.slice Ao40 t673.length co40) : Value).ownBlock ∧ some k_ ≠ ((.slice Ao41 t676.length co41) : Value).ownBlock ∧ some k_ ≠ ((.slice Ao107 t706.length co107) : Value).ownBlock ∧ some k_ ≠ ((.slice Ao108 t709.length co108) : Value).ownBlock) (.slice Ao24 t656.length co24) t656) ∧ Aside0 (Kd.R (Kd.int .i64) 3 wc w.heap.size (fun k_ => some k_ ≠ ((.slice Ao24 t656.length co24) : Value).ownBlock ∧ some k_ ≠ ((.slice Ao32 t691.length co32) : Value).ownBlock ∧ some k_ ≠ ((.slice Ao33 t692.length co33) : Value).ownBlock ∧ some k_ ≠ ((.slice Ao40 t673.length co40) : Value).ownBlock ∧ some k_ ≠ ((.slice Ao41 t676.length co41) : Value).ownBlock ∧ some k_ ≠ ((.slice Ao107 t706.length co107) : Value).ownBlock ∧ some k_ ≠ ((.slice Ao108 t709.length co108) : Value).ownBlock) (.slice Ao25 t659.length co25) t659) ∧ Aside0 (Kd.R (Kd.int .i64) 3 wc w.heap.size (fun k_ => some k_ ≠ ((.slice Ao24 t656.length co24) : Value).ownBlock ∧ some k_ ≠ ((.slice Ao25 t659.length co25) : Value).ownBlock ∧ some k_ ≠ ((.slice Ao33 t692.length co33) : Value).ownBlock ∧ some k_ ≠ ((.slice Ao40 t673.length co40) : Value).ownBlock ∧ some k_ ≠ ((.slice Ao41 t676.length co41) : Value).ownBlock ∧ some k_ ≠ ((.slice Ao107 t706.length co107) : Value).ownBlock ∧ some k_ ≠ ((.slice Ao108 t709.length co108) : Value).ownBlock) (.slice Ao32 t691.length co32) t691) ∧ Aside0 (Kd.R (Kd.int .i64) 3 wc w.heap.size (fun k_ => some k_ ≠ ((.slice Ao24 t656.length co24) : Value).ownBlock ∧ some k_ ≠ ((.slice Ao25 t659.length co25) : Value).ownBlock ∧ some k_ ≠ ((.slice Ao32 t691.length co32) : Value).ownBlock ∧ some k_ ≠ ((.slice Ao40 t673.length co40) : Value).ownBlock ∧ some k_ ≠ ((.slice Ao41 t676.length co41) : Value).ownBlock ∧ some k_ ≠ ((.slice Ao107 t706.length co107) : Value).ownBlock ∧ some k_ ≠ ((.slice Ao108 t709.length co108) : Value).ownBlock) (.slice Ao33 t692.length co33) t692) ∧ Aside0 (Kd.R (Kd.int .i64) 3 wc w.heap.size (fun k_ => some k_ ≠ ((.slice Ao24 t656.length co24) : Value).ownBlock ∧ some k_ ≠ ((.slice Ao25 t659.length co25) : Value).ownBlock ∧ some k_ ≠ ((.slice Ao32 t691.length co32) : Value).ownBlock ∧ some k_ ≠ ((.slice Ao33 t692.length co33) : Value).ownBlock ∧ some k_ ≠ ((.slice Ao41 t676.length co41) : Value).ownBlock ∧ some k_ ≠ ((.slice Ao107 t706.length co107) : Value).ownBlock ∧ some k_ ≠ ((.slice Ao108 t709.length co108) : Value).ownBlock) (.slice Ao40 t673.length co40) t695) ∧ Aside0 (Kd.R (Kd.int .i64) 3 wc w.heap.size (fun k_ => some k_ ≠ ((.slice Ao24 t656.length co24) : Value).ownBlock ∧ some k_ ≠ ((.slice Ao25 t659.length co25) : Value).ownBlock ∧ some k_ ≠ ((.slice Ao32 t691.length co32) : Value).ownBlock ∧ some k_ ≠ ((.slice Ao33 t692.length co33) : Value).ownBlock ∧ some k_ ≠ ((.slice Ao40 t673.length co40) : Value).ownBlock ∧ some k_ ≠ ((.slice Ao107 t706.length co107) : Value).ownBlock ∧ some k_ ≠ ((.slice Ao108 t709.length co108) : Value).ownBlock) (.slice Ao41 t676.length co41) t696) ∧ Aside0 (Kd.R (Kd.int .i64) 3 wc w.heap.size (fun k_ => some k_ ≠ ((.slice Ao24 t656.length co24) : Value).ownBlock ∧ some k_ ≠ ((.slice Ao25 t659.length co25) : Value).ownBlock ∧ some k_ ≠ ((.slice Ao32 t691.length co32) : Value).ownBlock ∧ some k_ ≠ ((.slice Ao33 t692.length co33) : Value).ownBlock ∧ some k_ ≠ ((.slice Ao40 t673.length co40) : Value).ownBlock ∧ some k_ ≠ ((.slice Ao41 t676.length co41) : Value).ownBlock ∧ some k_ ≠ ((.slice Ao108 t709.length co108) : Value).ownBlock) (.slice Ao107 t706.length co107) t706) ∧ Aside0 (Kd.R (Kd.int .i64) 3 wc w.heap.size (fun k_ => some k_ ≠ ((.slice Ao24 t656.length co24) : Value).ownBlock ∧ some k_ ≠ ((.slice Ao25 t659.length co25) : Value).ownBlock ∧ some k_ ≠ ((.slice Ao32 t691.length co32) : Value).ownBlock ∧ some k_ ≠ ((.slice Ao33 t692.length co33) : Value).ownBlock ∧ some k_ ≠ ((.slice Ao40 t673.length co40) : Value).ownBlock ∧ some k_ ≠ ((.slice Ao41 t676.length co41) : Value).ownBlock ∧ some k_ ≠ ((.slice Ao107 t706.length co107) : Value).ownBlock) (.slice Ao108 t709.length co108) t709) ∧ Aside0 (wc.heap[gb646]? = some (.cells #[.int .i64 a0_0, (.slice A0_1 l0_1.length c0_1), (.slice A0_2 l0_2.length c0_2)] 43 (0, 0))) ∧ Aside0 (wc.heap[gb663]? = some (.cells #[.int .i64 t655, (.slice Ao24 t656.length co24), (.slice Ao25 t659.length co25)] 46 (0, 0))) ∧ Aside0 (wc.heap[gb671]? = some (.cells #[.int .i64 t664, (.slice Ao32 t691.length co32), (.slice Ao33 t692.length co33)] 46 (0, 0))) ∧ Aside0 (wc.heap[gb680]? = some (.cells #[.int .i64 t672, (.slice Ao40 t673.length co40), (.slice Ao41 t676.length co41)] 46 (0, 0))) ∧ Aside0 (wc.heap[gb713]? = some (.cells #[.int .i64 t705, (.slice Ao107 t706.length co107), (.slice Ao108 t709.length co108)] 46 (0, 0))) ∧ Aside0 (Below w.heap.size w wc))
           case first =>
            have H := HC86.out
            clear HC86
            replace H := Option.bind_eq_some_iff.mp H
            obtain ⟨t714, A1090, H⟩ := H
            replace H : (if t714 = true then (laws_FnExactStandAt.j2 kj56 t694 (t712 != t662) t672 t695 t696) else (laws_FnExactStandAt.j2 kj56 t694 true t672 t695 t696)) = some r := H
            have A109 := am A1090
            clear A1090
            by_cases c110 : t714 = true
            ·subst c110
             replace H : (laws_FnExactStandAt.j2 kj56 t694 (t712 != t662) t672 t695 t696) = some r := by rw [if_pos rfl] at H; exact H
             have H' := am H
             clear H
             have hnb111 := NB713_646.out
             have hnc111 := NB646_713.out
             have hnb112 := NB713_663.out
             have hnc112 := NB663_713.out
             have hnb113 := NB713_671.out
             have hnc113 := NB671_713.out
             have hnb114 := NB713_680.out
             have hnc114 := NB680_713.out
             obtain ⟨hcz115_0, hcz115_1, hcz115_2, hfz115_0, hfz115_1, hfz115_2⟩ := bk3 BK713.out
             have hnb116 := NB663_646.out
             have hnc116 := NB646_663.out
             have hnb117 := NB663_671.out
             have hnc117 := NB671_663.out
             have hnb118 := NB663_680.out
             have hnc118 := NB680_663.out
             obtain ⟨hcz119_0, hcz119_1, hcz119_2, hfz119_0, hfz119_1, hfz119_2⟩ := bk3 BK663.out
             go_wp2_with (first | ((with_reducible refine gate_callee (f := 27) rfl ?_); refine goesL_ (some 86) rfl rfl Try.func27 (by kernel_rfl) rfl #[.agg #[.int .i64 t705, .slice Ao107 t706.length co107, .slice Ao108 t709.length co108], .agg #[.int .i64 t655, .slice Ao24 t656.length co24, .slice Ao25 t659.length co25]] rfl mpx ?_; (with_reducible refine (laws_eqLatch.calls kj56 t705 _ _ t706 _ _ t709 t655 _ _ t656 _ _ t659 true _ ?side1 ?side2 ?side3 ?side4 ?side5 ?side6 ?side7 ?side8 A109.out).mono ?_); (case side1 => refine (Kd.R_reads' (e := 3) (base := w.heap.size) (ok := fun k_ => ((((((((some k_ ≠ (.slice Ao108 t709.length co108 : Value).ownBlock ∧ some k_ ≠ (.slice Ao24 t656.length co24 : Value).ownBlock) ∧ some k_ ≠ (.slice Ao25 t659.length co25 : Value).ownBlock) ∧ some k_ ≠ (.slice Ao32 t691.length co32 : Value).ownBlock) ∧ some k_ ≠ (.slice Ao33 t692.length co33 : Value).ownBlock) ∧ some k_ ≠ (.slice Ao40 t673.length co40 : Value).ownBlock) ∧ some k_ ≠ (.slice Ao41 t676.length co41 : Value).ownBlock) ∧ some k_ ≠ (.slice Ao98 t699.length co98 : Value).ownBlock) ∧ some k_ ≠ (.slice Ao99 t702.length co99 : Value).ownBlock)) (n := t706.length) (c := co107) ?_).2.2; exact (by (with_reducible repeat (first | apply Kd.R_alloc | apply Kd.R_drewN | apply Kd.R_drew)); exact (Kd.R_mono (Kd.R_far (p := ⟨gb713, 2, none⟩) (Kd.R_far (p := ⟨gb713, 1, none⟩) (Kd.R_far (p := ⟨gb713, 0, none⟩) (Kd.R_types HO708.out BK713.out (by decide)) (fun _ hk => hk.2) (.int .i64 t705)) (fun _ hk => hk.2) (.slice Ao107 t706.length co107)) (fun _ hk => hk.2) (.slice Ao108 t709.length co108)) (fun _ h_ => h_.1)))); (case side2 => exact (Kd.R_reads' HO708.out).2.1); (case side3 => refine (Kd.R_reads' (e := 3) (base := w.heap.size) (ok := fun k_ => ((((((((some k_ ≠ (.slice Ao107 t706.length co107 : Value).ownBlock ∧ some k_ ≠ (.slice Ao24 t656.length co24 : Value).ownBlock) ∧ some k_ ≠ (.slice Ao25 t659.length co25 : Value).ownBlock) ∧ some k_ ≠ (.slice Ao32 t691.length co32 : Value).ownBlock) ∧ some k_ ≠ (.slice Ao33 t692.length co33 : Value).ownBlock) ∧ some k_ ≠ (.slice Ao40 t673.length co40 : Value).ownBlock) ∧ some k_ ≠ (.slice Ao41 t676.length co41 : Value).ownBlock) ∧ some k_ ≠ (.slice Ao98 t699.length co98 : Value).ownBlock) ∧ some k_ ≠ (.slice Ao99 t702.length co99 : Value).ownBlock)) (n := t709.length) (c := co108) ?_).2.2; exact (by (with_reducible repeat (first | apply Kd.R_alloc | apply Kd.R_drewN | apply Kd.R_drew)); exact (Kd.R_mono (Kd.R_far (p := ⟨gb713, 2, none⟩) (Kd.R_far (p := ⟨gb713, 1, none⟩) (Kd.R_far (p := ⟨gb713, 0, none⟩) (Kd.R_types HO711.out BK713.out (by decide)) (fun _ hk => hk.2) (.int .i64 t705)) (fun _ hk => hk.2) (.slice Ao107 t706.length co107)) (fun _ hk => hk.2) (.slice Ao108 t709.length co108)) (fun _ h_ => h_.1)))); (case side4 => exact (Kd.R_reads' HO711.out).2.1); (case side5 => refine (Kd.R_reads' (e := 3) (base := w.heap.size) (ok := fun k_ => (((((some k_ ≠ (.slice Ao25 t659.length co25 : Value).ownBlock ∧ (some k_ ≠ (.slice Ao32 t691.length co32 : Value).ownBlock ∧ (some k_ ≠ (.slice Ao33 t692.length co33 : Value).ownBlock ∧ (some k_ ≠ (.slice Ao40 t673.length co40 : Value).ownBlock ∧ some k_ ≠ (.slice Ao41 t676.length co41 : Value).ownBlock)))) ∧ some k_ ≠ (.slice Ao98 t699.length co98 : Value).ownBlock) ∧ some k_ ≠ (.slice Ao99 t702.length co99 : Value).ownBlock) ∧ some k_ ≠ (.slice Ao107 t706.length co107 : Value).ownBlock) ∧ some k_ ≠ (.slice Ao108 t709.length co108 : Value).ownBlock)) (n := t656.length) (c := co24) ?_).2.2; exact (by (with_reducible repeat (first | apply Kd.R_alloc | apply Kd.R_drewN | apply Kd.R_drew)); exact (Kd.R_mono (Kd.R_far (p := ⟨gb713, 2, none⟩) (Kd.R_far (p := ⟨gb713, 1, none⟩) (Kd.R_far (p := ⟨gb713, 0, none⟩) (Kd.R_types HO_664001.out BK713.out (by decide)) (fun _ hk => hk.2) (.int .i64 t705)) (fun _ hk => hk.2) (.slice Ao107 t706.length co107)) (fun _ hk => hk.2) (.slice Ao108 t709.length co108)) (fun _ h_ => h_.1)))); (case side6 => exact (Kd.R_reads' HO_664001.out).2.1); (case side7 => refine (Kd.R_reads' (e := 3) (base := w.heap.size) (ok := fun k_ => (((((some k_ ≠ (.slice Ao24 t656.length co24 : Value).ownBlock ∧ (some k_ ≠ (.slice Ao32 t691.length co32 : Value).ownBlock ∧ (some k_ ≠ (.slice Ao33 t692.length co33 : Value).ownBlock ∧ (some k_ ≠ (.slice Ao40 t673.length co40 : Value).ownBlock ∧ some k_ ≠ (.slice Ao41 t676.length co41 : Value).ownBlock)))) ∧ some k_ ≠ (.slice Ao98 t699.length co98 : Value).ownBlock) ∧ some k_ ≠ (.slice Ao99 t702.length co99 : Value).ownBlock) ∧ some k_ ≠ (.slice Ao107 t706.length co107 : Value).ownBlock) ∧ some k_ ≠ (.slice Ao108 t709.length co108 : Value).ownBlock)) (n := t659.length) (c := co25) ?_).2.2; exact (by (with_reducible repeat (first | apply Kd.R_alloc | apply Kd.R_drewN | apply Kd.R_drew)); exact (Kd.R_mono (Kd.R_far (p := ⟨gb713, 2, none⟩) (Kd.R_far (p := ⟨gb713, 1, none⟩) (Kd.R_far (p := ⟨gb713, 0, none⟩) (Kd.R_types HO_664002.out BK713.out (by decide)) (fun _ hk => hk.2) (.int .i64 t705)) (fun _ hk => hk.2) (.slice Ao107 t706.length co107)) (fun _ hk => hk.2) (.slice Ao108 t709.length co108)) (fun _ h_ => h_.1)))); (case side8 => exact (Kd.R_reads' HO_664002.out).2.1); rintro e w120 ⟨rfl, hb⟩; refine ⟨_, rfl, ?_⟩; replace HO_664001 := am (Kd.R_below (by (with_reducible repeat (first | apply Kd.R_alloc | apply Kd.R_drewN | apply Kd.R_drew)); exact (Kd.R_mono (Kd.R_far (p := ⟨gb713, 2, none⟩) (Kd.R_far (p := ⟨gb713, 1, none⟩) (Kd.R_far (p := ⟨gb713, 0, none⟩) (Kd.R_types HO_664001.out BK713.out (by decide)) (fun _ hk => hk.2) (.int .i64 t705)) (fun _ hk => hk.2) (.slice Ao107 t706.length co107)) (fun _ hk => hk.2) (.slice Ao108 t709.length co108)) (fun _ h_ => h_.1))) hb); replace HO_664002 := am (Kd.R_below (by (with_reducible repeat (first | apply Kd.R_alloc | apply Kd.R_drewN | apply Kd.R_drew)); exact (Kd.R_mono (Kd.R_far (p := ⟨gb713, 2, none⟩) (Kd.R_far (p := ⟨gb713, 1, none⟩) (Kd.R_far (p := ⟨gb713, 0, none⟩) (Kd.R_types HO_664002.out BK713.out (by decide)) (fun _ hk => hk.2) (.int .i64 t705)) (fun _ hk => hk.2) (.slice Ao107 t706.length co107)) (fun _ hk => hk.2) (.slice Ao108 t709.length co108)) (fun _ h_ => h_.1))) hb); replace HO_672001 := am (Kd.R_below (by (with_reducible repeat (first | apply Kd.R_alloc | apply Kd.R_drewN | apply Kd.R_drew)); exact (Kd.R_mono (Kd.R_far (p := ⟨gb713, 2, none⟩) (Kd.R_far (p := ⟨gb713, 1, none⟩) (Kd.R_far (p := ⟨gb713, 0, none⟩) (Kd.R_types HO_672001.out BK713.out (by decide)) (fun _ hk => hk.2) (.int .i64 t705)) (fun _ hk => hk.2) (.slice Ao107 t706.length co107)) (fun _ hk => hk.2) (.slice Ao108 t709.length co108)) (fun _ h_ => h_.1))) hb); replace HO_672002 := am (Kd.R_below (by (with_reducible repeat (first | apply Kd.R_alloc | apply Kd.R_drewN | apply Kd.R_drew)); exact (Kd.R_mono (Kd.R_far (p := ⟨gb713, 2, none⟩) (Kd.R_far (p := ⟨gb713, 1, none⟩) (Kd.R_far (p := ⟨gb713, 0, none⟩) (Kd.R_types HO_672002.out BK713.out (by decide)) (fun _ hk => hk.2) (.int .i64 t705)) (fun _ hk => hk.2) (.slice Ao107 t706.length co107)) (fun _ hk => hk.2) (.slice Ao108 t709.length co108)) (fun _ h_ => h_.1))) hb); replace HO_681001 := am (Kd.R_below (by (with_reducible repeat (first | apply Kd.R_alloc | apply Kd.R_drewN | apply Kd.R_drew)); exact (Kd.R_mono (Kd.R_far (p := ⟨gb713, 2, none⟩) (Kd.R_far (p := ⟨gb713, 1, none⟩) (Kd.R_far (p := ⟨gb713, 0, none⟩) (Kd.R_types HO_681001.out BK713.out (by decide)) (fun _ hk => hk.2) (.int .i64 t705)) (fun _ hk => hk.2) (.slice Ao107 t706.length co107)) (fun _ hk => hk.2) (.slice Ao108 t709.length co108)) (fun _ h_ => h_.1))) hb); replace HO_681002 := am (Kd.R_below (by (with_reducible repeat (first | apply Kd.R_alloc | apply Kd.R_drewN | apply Kd.R_drew)); exact (Kd.R_mono (Kd.R_far (p := ⟨gb713, 2, none⟩) (Kd.R_far (p := ⟨gb713, 1, none⟩) (Kd.R_far (p := ⟨gb713, 0, none⟩) (Kd.R_types HO_681002.out BK713.out (by decide)) (fun _ hk => hk.2) (.int .i64 t705)) (fun _ hk => hk.2) (.slice Ao107 t706.length co107)) (fun _ hk => hk.2) (.slice Ao108 t709.length co108)) (fun _ h_ => h_.1))) hb); replace HO701 := am (Kd.R_below (by (with_reducible repeat (first | apply Kd.R_alloc | apply Kd.R_drewN | apply Kd.R_drew)); exact (Kd.R_mono (Kd.R_far (p := ⟨gb713, 2, none⟩) (Kd.R_far (p := ⟨gb713, 1, none⟩) (Kd.R_far (p := ⟨gb713, 0, none⟩) (Kd.R_types HO701.out BK713.out (by decide)) (fun _ hk => hk.2) (.int .i64 t705)) (fun _ hk => hk.2) (.slice Ao107 t706.length co107)) (fun _ hk => hk.2) (.slice Ao108 t709.length co108)) (fun _ h_ => h_.1))) hb); replace HO704 := am (Kd.R_below (by (with_reducible repeat (first | apply Kd.R_alloc | apply Kd.R_drewN | apply Kd.R_drew)); exact (Kd.R_mono (Kd.R_far (p := ⟨gb713, 2, none⟩) (Kd.R_far (p := ⟨gb713, 1, none⟩) (Kd.R_far (p := ⟨gb713, 0, none⟩) (Kd.R_types HO704.out BK713.out (by decide)) (fun _ hk => hk.2) (.int .i64 t705)) (fun _ hk => hk.2) (.slice Ao107 t706.length co107)) (fun _ hk => hk.2) (.slice Ao108 t709.length co108)) (fun _ h_ => h_.1))) hb); replace HO708 := am (Kd.R_below (by (with_reducible repeat (first | apply Kd.R_alloc | apply Kd.R_drewN | apply Kd.R_drew)); exact (Kd.R_mono (Kd.R_far (p := ⟨gb713, 2, none⟩) (Kd.R_far (p := ⟨gb713, 1, none⟩) (Kd.R_far (p := ⟨gb713, 0, none⟩) (Kd.R_types HO708.out BK713.out (by decide)) (fun _ hk => hk.2) (.int .i64 t705)) (fun _ hk => hk.2) (.slice Ao107 t706.length co107)) (fun _ hk => hk.2) (.slice Ao108 t709.length co108)) (fun _ h_ => h_.1))) hb); replace HO711 := am (Kd.R_below (by (with_reducible repeat (first | apply Kd.R_alloc | apply Kd.R_drewN | apply Kd.R_drew)); exact (Kd.R_mono (Kd.R_far (p := ⟨gb713, 2, none⟩) (Kd.R_far (p := ⟨gb713, 1, none⟩) (Kd.R_far (p := ⟨gb713, 0, none⟩) (Kd.R_types HO711.out BK713.out (by decide)) (fun _ hk => hk.2) (.int .i64 t705)) (fun _ hk => hk.2) (.slice Ao107 t706.length co107)) (fun _ hk => hk.2) (.slice Ao108 t709.length co108)) (fun _ h_ => h_.1))) hb); replace BK646 := am (blk_below (g := gb646) (o := .cells #[.int .i64 a0_0, .slice A0_1 l0_1.length c0_1, .slice A0_2 l0_2.length c0_2] 43 (0, 0)) (by (with_reducible repeat (first | refine blk_drewN ?_ _ | refine blk_drew ?_ | refine blk_alloc ?_ _)); refine blk_far ?_ NB646_713.out _; (with_reducible repeat (first | refine blk_drewN ?_ _ | refine blk_drew ?_ | refine blk_alloc ?_ _)); refine blk_far ?_ NB646_713.out _; (with_reducible repeat (first | refine blk_drewN ?_ _ | refine blk_drew ?_ | refine blk_alloc ?_ _)); refine blk_far ?_ NB646_713.out _; exact pkK BK646.out) hb); replace BK663 := am (blk_below (g := gb663) (o := .cells #[.int .i64 t655, .slice Ao24 t656.length co24, .slice Ao25 t659.length co25] 46 (0, 0)) (by (with_reducible repeat (first | refine blk_drewN ?_ _ | refine blk_drew ?_ | refine blk_alloc ?_ _)); refine blk_far ?_ NB663_713.out _; (with_reducible repeat (first | refine blk_drewN ?_ _ | refine blk_drew ?_ | refine blk_alloc ?_ _)); refine blk_far ?_ NB663_713.out _; (with_reducible repeat (first | refine blk_drewN ?_ _ | refine blk_drew ?_ | refine blk_alloc ?_ _)); refine blk_far ?_ NB663_713.out _; exact pkK BK663.out) hb); replace BK671 := am (blk_below (g := gb671) (o := .cells #[.int .i64 t664, .slice Ao32 t691.length co32, .slice Ao33 t692.length co33] 46 (0, 0)) (by (with_reducible repeat (first | refine blk_drewN ?_ _ | refine blk_drew ?_ | refine blk_alloc ?_ _)); refine blk_far ?_ NB671_713.out _; (with_reducible repeat (first | refine blk_drewN ?_ _ | refine blk_drew ?_ | refine blk_alloc ?_ _)); refine blk_far ?_ NB671_713.out _; (with_reducible repeat (first | refine blk_drewN ?_ _ | refine blk_drew ?_ | refine blk_alloc ?_ _)); refine blk_far ?_ NB671_713.out _; exact pkK BK671.out) hb); replace BK680 := am (blk_below (g := gb680) (o := .cells #[.int .i64 t672, .slice Ao40 t673.length co40, .slice Ao41 t676.length co41] 46 (0, 0)) (by (with_reducible repeat (first | refine blk_drewN ?_ _ | refine blk_drew ?_ | refine blk_alloc ?_ _)); refine blk_far ?_ NB680_713.out _; (with_reducible repeat (first | refine blk_drewN ?_ _ | refine blk_drew ?_ | refine blk_alloc ?_ _)); refine blk_far ?_ NB680_713.out _; (with_reducible repeat (first | refine blk_drewN ?_ _ | refine blk_drew ?_ | refine blk_alloc ?_ _)); refine blk_far ?_ NB680_713.out _; exact pkK BK680.out) hb); replace BK713 := am (blk_below (g := gb713) (o := .cells #[.int .i64 t705, .slice Ao107 t706.length co107, .slice Ao108 t709.length co108] 46 (0, 0)) (by (with_reducible repeat (first | refine blk_drewN ?_ _ | refine blk_drew ?_ | refine blk_alloc ?_ _)); refine blk_put (cs := #[.int .i64 t705, .slice Ao107 t706.length co107, .slice none 0 0]) ?_ 2 _ rfl; (with_reducible repeat (first | refine blk_drewN ?_ _ | refine blk_drew ?_ | refine blk_alloc ?_ _)); refine blk_put (cs := #[.int .i64 t705, .slice none 0 0, .slice none 0 0]) ?_ 1 _ rfl; (with_reducible repeat (first | refine blk_drewN ?_ _ | refine blk_drew ?_ | refine blk_alloc ?_ _)); refine blk_put (cs := #[.int .i64 0, .slice none 0 0, .slice none 0 0]) ?_ 0 _ rfl; exact pkK BK713.out) hb); replace HB := am (below_step (pkW HB.out) hb); (try clear hb)))
             go_meet
             case rel => exact ⟨_, ((t712 != t662)), rfx, H', ⟨by have := HJ11.out; have := HJ56.out; first | omega | exact Nat.le_refl _⟩, ⟨by (try simp only [hl672001_56]); (try simp only [hl672002_56]); (with_reducible repeat (first | apply Kd.R_alloc | apply Kd.R_drewN | apply Kd.R_drew)); exact Kd.R_mono HO_664001.out (fun _ hk => ⟨hk.1.1.1.1.1, ⟨hk.1.1.1.1.2.1, ⟨hk.1.1.1.1.2.2.1, ⟨hk.1.1.1.1.2.2.2.1, ⟨hk.1.1.1.1.2.2.2.2, ⟨hk.1.2, hk.2⟩⟩⟩⟩⟩⟩)⟩, ⟨by (try simp only [hl672001_56]); (try simp only [hl672002_56]); (with_reducible repeat (first | apply Kd.R_alloc | apply Kd.R_drewN | apply Kd.R_drew)); exact Kd.R_mono HO_664002.out (fun _ hk => ⟨hk.1.1.1.1.1, ⟨hk.1.1.1.1.2.1, ⟨hk.1.1.1.1.2.2.1, ⟨hk.1.1.1.1.2.2.2.1, ⟨hk.1.1.1.1.2.2.2.2, ⟨hk.1.2, hk.2⟩⟩⟩⟩⟩⟩)⟩, ⟨by (try simp only [hl672001_56]); (try simp only [hl672002_56]); (with_reducible repeat (first | apply Kd.R_alloc | apply Kd.R_drewN | apply Kd.R_drew)); exact Kd.R_mono HO_672001.out (fun _ hk => ⟨hk.1.1.1.1.1, ⟨hk.1.1.1.1.2.1, ⟨hk.1.1.1.1.2.2.1, ⟨hk.1.1.1.1.2.2.2.1, ⟨hk.1.1.1.1.2.2.2.2, ⟨hk.1.2, hk.2⟩⟩⟩⟩⟩⟩)⟩, ⟨by (try simp only [hl672001_56]); (try simp only [hl672002_56]); (with_reducible repeat (first | apply Kd.R_alloc | apply Kd.R_drewN | apply Kd.R_drew)); exact Kd.R_mono HO_672002.out (fun _ hk => ⟨hk.1.1.1.1.1, ⟨hk.1.1.1.1.2.1, ⟨hk.1.1.1.1.2.2.1, ⟨hk.1.1.1.1.2.2.2.1, ⟨hk.1.1.1.1.2.2.2.2, ⟨hk.1.2, hk.2⟩⟩⟩⟩⟩⟩)⟩, ⟨by (try simp only [hl672001_56]); (try simp only [hl672002_56]); (with_reducible repeat (first | apply Kd.R_alloc | apply Kd.R_drewN | apply Kd.R_drew)); exact Kd.R_mono HO_681001.out (fun _ hk => ⟨hk.1.1.1.1.1, ⟨hk.1.1.1.1.2.1, ⟨hk.1.1.1.1.2.2.1, ⟨hk.1.1.1.1.2.2.2.1, ⟨hk.1.1.1.1.2.2.2.2, ⟨hk.1.2, hk.2⟩⟩⟩⟩⟩⟩)⟩, ⟨by (try simp only [hl672001_56]); (try simp only [hl672002_56]); (with_reducible repeat (first | apply Kd.R_alloc | apply Kd.R_drewN | apply Kd.R_drew)); exact Kd.R_mono HO_681002.out (fun _ hk => ⟨hk.1.1.1.1.1, ⟨hk.1.1.1.1.2.1, ⟨hk.1.1.1.1.2.2.1, ⟨hk.1.1.1.1.2.2.2.1, ⟨hk.1.1.1.1.2.2.2.2, ⟨hk.1.2, hk.2⟩⟩⟩⟩⟩⟩)⟩, ⟨by (try simp only [hl672001_56]); (try simp only [hl672002_56]); (with_reducible repeat (first | apply Kd.R_alloc | apply Kd.R_drewN | apply Kd.R_drew)); exact Kd.R_mono HO708.out (fun _ hk => ⟨hk.1.1.1.1.1.1.1.2, ⟨hk.1.1.1.1.1.1.2, ⟨hk.1.1.1.1.1.2, ⟨hk.1.1.1.1.2, ⟨hk.1.1.1.2, ⟨hk.1.1.2, hk.1.1.1.1.1.1.1.1⟩⟩⟩⟩⟩⟩)⟩, ⟨by (try simp only [hl672001_56]); (try simp only [hl672002_56]); (with_reducible repeat (first | apply Kd.R_alloc | apply Kd.R_drewN | apply Kd.R_drew)); exact Kd.R_mono HO711.out (fun _ hk => ⟨hk.1.1.1.1.1.1.1.2, ⟨hk.1.1.1.1.1.1.2, ⟨hk.1.1.1.1.1.2, ⟨hk.1.1.1.1.2, ⟨hk.1.1.1.2, ⟨hk.1.1.2, hk.1.1.1.1.1.1.1.1⟩⟩⟩⟩⟩⟩)⟩, ⟨by (try simp only [hl672001_56]); (try simp only [hl672002_56]); exact pkK BK646.out⟩, ⟨by (try simp only [hl672001_56]); (try simp only [hl672002_56]); exact pkK BK663.out⟩, ⟨by (try simp only [hl672001_56]); (try simp only [hl672002_56]); exact pkK BK671.out⟩, ⟨by (try simp only [hl672001_56]); (try simp only [hl672002_56]); exact pkK BK680.out⟩, ⟨by (try simp only [hl672001_56]); (try simp only [hl672002_56]); exact pkK BK713.out⟩, ⟨pkW HB.out⟩⟩
            ·replace c110 := Bool.eq_false_iff.mpr c110
             subst c110
             replace H : (laws_FnExactStandAt.j2 kj56 t694 true t672 t695 t696) = some r := by rw [if_neg (show ¬ (false = true) by decide)] at H; exact H
             cases kj56 with
             | zero => exact absurd H (by simp [laws_FnExactStandAt.j2])
             | succ k_ => (simp only [laws_FnExactStandAt.j2, if_pos] at H; exact absurd (Option.some.inj H) (by rw [HQ_.out]; simp))
           case rest =>
            clear HC86
            try clear c1
            try clear c2
            try clear p2
            try clear c3
            try clear c4
            try clear c4b0
            try clear c5
            try clear c6
            try clear c7
            try clear c8
            try clear c9
            try clear c10
            try clear c11
            try clear c22
            try clear c23
            try clear c25
            try clear c27
            try clear c28
            try clear c29
            try clear c30
            try clear c35
            try clear c36
            try clear c37
            try clear c38
            try clear c43
            try clear c44
            try clear c45
            try clear c46
            try clear c48
            try clear c49
            try clear c52
            try clear c55
            try clear c63
            try clear c64
            try clear c65
            try clear c68
            try clear c68b0
            try clear c70
            try clear c71
            try clear c72
            try clear c73
            try clear c75
            try clear c76
            try clear c79
            try clear c82
            try clear c82b0
            try clear c83
            try clear c83b0
            try clear c83b1
            try clear c87
            try clear c88
            try clear c89
            try clear c94
            try clear c95
            try clear c102
            try clear c103
            try clear c104
            try clear c105
            try clear c110
            try clear c111
            try clear c112
            try clear c113
            try clear c114
            try clear c116
            try clear c117
            try clear c118
            try clear hcz106_0
            try clear hcz106_1
            try clear hcz106_2
            try clear hcz115_0
            try clear hcz115_1
            try clear hcz115_2
            try clear hcz119_0
            try clear hcz119_1
            try clear hcz119_2
            try clear hcz14_0
            try clear hcz14_1
            try clear hcz14_2
            try clear hcz16_0
            try clear hcz16_1
            try clear hcz16_2
            try clear hcz23_0
            try clear hcz23_1
            try clear hcz23_2
            try clear hcz26_0
            try clear hcz26_1
            try clear hcz26_2
            try clear hcz31_0
            try clear hcz31_1
            try clear hcz31_2
            try clear hcz39_0
            try clear hcz39_1
            try clear hcz39_2
            try clear hcz47_0
            try clear hcz47_1
            try clear hcz47_2
            try clear hcz50_0
            try clear hcz50_1
            try clear hcz50_2
            try clear hcz66_0
            try clear hcz66_1
            try clear hcz66_2
            try clear hcz6_0
            try clear hcz6_1
            try clear hcz6_2
            try clear hcz74_0
            try clear hcz74_1
            try clear hcz74_2
            try clear hcz77_0
            try clear hcz77_1
            try clear hcz77_2
            try clear hcz90_0
            try clear hcz90_1
            try clear hcz90_2
            try clear hcz92_0
            try clear hcz92_1
            try clear hcz92_2
            try clear hcz96_0
            try clear hcz96_1
            try clear hcz96_2
            try clear hfz106_0
            try clear hfz106_1
            try clear hfz106_2
            try clear hfz115_0
            try clear hfz115_1
            try clear hfz115_2
            try clear hfz119_0
            try clear hfz119_1
            try clear hfz119_2
            try clear hfz14_0
            try clear hfz14_1
            try clear hfz14_2
            try clear hfz16_0
            try clear hfz16_1
            try clear hfz16_2
            try clear hfz23_0
            try clear hfz23_1
            try clear hfz23_2
            try clear hfz26_0
            try clear hfz26_1
            try clear hfz26_2
            try clear hfz31_0
            try clear hfz31_1
            try clear hfz31_2
            try clear hfz39_0
            try clear hfz39_1
            try clear hfz39_2
            try clear hfz47_0
            try clear hfz47_1
            try clear hfz47_2
            try clear hfz50_0
            try clear hfz50_1
            try clear hfz50_2
            try clear hfz66_0
            try clear hfz66_1
            try clear hfz66_2
            try clear hfz6_0
            try clear hfz6_1
            try clear hfz6_2
            try clear hfz74_0
            try clear hfz74_1
            try clear hfz74_2
            try clear hfz77_0
            try clear hfz77_1
            try clear hfz77_2
            try clear hfz90_0
            try clear hfz90_1
            try clear hfz90_2
            try clear hfz92_0
            try clear hfz92_1
            try clear hfz92_2
            try clear hfz96_0
            try clear hfz96_1
            try clear hfz96_2
            try clear p2
            obtain ⟨kq, x92_85, rfl, HA, HJ85, HO_664001, HO_664002, HO_672001, HO_672002, HO_681001, HO_681002, HO_714001, HO_714002, BK646, BK663, BK671, BK680, BK713, HB⟩ := hcut
            have hl681001_85 := (Kd.R_reads' HO_681001.out).1
            rw [hl681001_85] at HO_681001
            (try simp only [hl681001_85])
            (try simp only [hl681001_85] at BK646)
            (try simp only [hl681001_85] at BK663)
            (try simp only [hl681001_85] at BK671)
            (try simp only [hl681001_85] at BK680)
            (try simp only [hl681001_85] at BK713)
            (try simp only [hl681001_85] at HO_664001)
            (try simp only [hl681001_85] at HO_664002)
            (try simp only [hl681001_85] at HO_672001)
            (try simp only [hl681001_85] at HO_672002)
            (try simp only [hl681001_85] at HO_681002)
            (try simp only [hl681001_85] at HO_714001)
            (try simp only [hl681001_85] at HO_714002)
            have hl681002_85 := (Kd.R_reads' HO_681002.out).1
            rw [hl681002_85] at HO_681002
            (try simp only [hl681002_85])
            (try simp only [hl681002_85] at BK646)
            (try simp only [hl681002_85] at BK663)
            (try simp only [hl681002_85] at BK671)
            (try simp only [hl681002_85] at BK680)
            (try simp only [hl681002_85] at BK713)
            (try simp only [hl681002_85] at HO_664001)
            (try simp only [hl681002_85] at HO_664002)
            (try simp only [hl681002_85] at HO_672001)
            (try simp only [hl681002_85] at HO_672002)
            (try simp only [hl681002_85] at HO_681001)
            (try simp only [hl681002_85] at HO_714001)
            (try simp only [hl681002_85] at HO_714002)
            cases kq with
            | zero => exact absurd HA.out (by simp [laws_FnExactStandAt.j2])
            | succ kj85 =>
             have H := HA.out
             clear HA
             simp only [laws_FnExactStandAt.j2] at H
             by_cases c121 : x92_85 = true
             ·subst c121
              replace H : (some false) = some r := by rw [if_pos rfl] at H; exact H
              exact absurd (Option.some.inj H) (by rw [HQ_.out]; simp)
             ·replace c121 := Bool.eq_false_iff.mpr c121
              subst c121
              replace H : ((laws_heldLatch.f kj85 t672 t695 t696 1).bind fun t715 => (if t715 < 0 then (some false) else (if t715 = t694 then (some true) else (some false)))) = some r := by rw [if_neg (show ¬ (false = true) by decide)] at H; exact H
              replace H := Option.bind_eq_some_iff.mp H
              obtain ⟨t715, A1220, H⟩ := H
              replace H : (if t715 < 0 then (some false) else (if t715 = t694 then (some true) else (some false))) = some r := H
              have A122 := am A1220
              clear A1220
              by_cases c123 : t715 < 0
              ·rw [if_pos c123] at H
               have c123b0 : decide (t715 < 0) = true := decide_eq_true c123
               clear c123
               exact absurd (Option.some.inj H) (by rw [HQ_.out]; simp)
              ·rw [if_neg c123] at H
               have c123b0 : decide (t715 < 0) = false := decide_eq_false c123
               clear c123
               by_cases c124 : t715 = t694
               ·rw [if_pos c124] at H
                have c124b0 : (t715 == t694) = true := beq_iff_eq.mpr c124
                have c124b1 : (t715 != t694) = false := bne_eq_false_iff_eq.mpr c124
                clear c124
                obtain rfl := Option.some.inj H
                have hnb125 := NB680_646.out
                have hnc125 := NB646_680.out
                have hnb126 := NB680_663.out
                have hnc126 := NB663_680.out
                have hnb127 := NB680_671.out
                have hnc127 := NB671_680.out
                have hnb128 := NB680_713.out
                have hnc128 := NB713_680.out
                obtain ⟨hcz129_0, hcz129_1, hcz129_2, hfz129_0, hfz129_1, hfz129_2⟩ := bk3 BK680.out
                go_wp2_with (first | ((with_reducible refine gate_callee (f := 37) rfl ?_); refine goesL_ (some 95) rfl rfl Try.func37 (by kernel_rfl) rfl #[.agg #[.int .i64 t672, .slice Ao40 t695.length co40, .slice Ao41 t696.length co41], .int .i64 1] rfl mpx ?_; (with_reducible refine (laws_heldLatch.calls kj85 t672 _ _ t695 _ _ t696 1 t715 _ ?side1 ?side2 ?side3 ?side4 A122.out).mono ?_); (case side1 => exact pkC (Kd.R_reads' HO_681001.out).2.2); (case side2 => exact (Kd.R_reads' HO_681001.out).2.1); (case side3 => exact pkC (Kd.R_reads' HO_681002.out).2.2); (case side4 => exact (Kd.R_reads' HO_681002.out).2.1); rintro e w130 ⟨rfl, hb⟩; refine ⟨_, rfl, ?_⟩; replace HO_664001 := am (Kd.R_below (pkR HO_664001.out) hb); replace HO_664002 := am (Kd.R_below (pkR HO_664002.out) hb); replace HO_672001 := am (Kd.R_below (pkR HO_672001.out) hb); replace HO_672002 := am (Kd.R_below (pkR HO_672002.out) hb); replace HO_681001 := am (Kd.R_below (pkR HO_681001.out) hb); replace HO_681002 := am (Kd.R_below (pkR HO_681002.out) hb); replace HO_714001 := am (Kd.R_below (pkR HO_714001.out) hb); replace HO_714002 := am (Kd.R_below (pkR HO_714002.out) hb); replace BK646 := am (blk_below (pkK BK646.out) hb); replace BK663 := am (blk_below (pkK BK663.out) hb); replace BK671 := am (blk_below (pkK BK671.out) hb); replace BK680 := am (blk_below (pkK BK680.out) hb); replace BK713 := am (blk_below (pkK BK713.out) hb); replace HB := am (below_step (pkW HB.out) hb); (try clear hb)))
                go_ret
                exact ⟨rfe, pkW HB.out⟩
               ·rw [if_neg c124] at H
                have c124b0 : (t715 == t694) = false := beq_eq_false_iff_ne.mpr c124
                have c124b1 : (t715 != t694) = true := bne_iff_ne.mpr c124
                exact absurd (Option.some.inj H) (by rw [HQ_.out]; simp)
          ·rw [if_neg c83] at H
           have c83b0 : (t697 == t694) = false := beq_eq_false_iff_ne.mpr c83
           have c83b1 : (t697 != t694) = true := bne_iff_ne.mpr c83
           exact absurd (Option.some.inj H) (by rw [HQ_.out]; simp)
     ·replace c55 := Bool.eq_false_iff.mpr c55
      subst c55
      replace H : (some false) = some r := by rw [if_neg (show ¬ (false = true) by decide)] at H; exact H
      exact absurd (Option.some.inj H) (by rw [HQ_.out]; simp)
end Go.Proofs.Ytffcphplnilokaa.Z
