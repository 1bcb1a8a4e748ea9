/- The Go functions spec_DrawSetTimer as Lean functions, each with a proof that its code comes to just these answers; conditions: those of each theorem. -/
import Derived.Test.YtfgjfheiekhmlaaZx0
import Derived.Test.YtfgjfheiekhmlaaZx14
import Derived.Test.YtfgjfheiekhmlaaZx16
import Derived.Test.YtfgjfheiekhmlaaZx19
namespace Go.Proofs.Ytfgjfheiekhmlaa.Z
open Go.RowKit Go.Proofs.YtfgjfheiekhmlaaW.PrintWords Go.Proofs.YtfgjfheiekhmlaaW.PrintLast Go.Proofs.YtfgjfheiekhmlaaW.PrintMore
attribute [local go_sem] max2_int min2_int max_two min_two max_three min_three max_four min_four   -- for this text's walks alone
set_option linter.unusedVariables false
set_option linter.unusedSimpArgs false
def spec_DrawSetTimer.f (k : Nat) (l0 : List Int) : Option (Int × (List (S46)) × Int × Int) := (spec_l1New.f k l0).bind fun bt662 => ((spec_l4Some.f k bt662.1 bt662.2.1 bt662.2.2).bind fun bt666 => ((spec_l1PickInt.f bt662.1 bt666.2.2.1 bt666.2.2.2 (([0, 1, 2, 5, 9, 15, 20, 21, 100, 1000000000, 9223372036854775807, (-1)] : List Int))).bind fun bt676 => ((spec_l1PickInt.f bt662.1 bt676.2.1 bt676.2.2 (([0, 1, 2, 3, 23, 24, (-1)] : List Int))).bind fun bt682 => (some (bt666.1, bt666.2.1, bt676.1, bt682.1)))))
theorem spec_DrawSetTimer.mono : ∀ a0 k, LeO (spec_DrawSetTimer.f k a0) (spec_DrawSetTimer.f (k + 1) a0) := by
 intro a0 k
 unfold spec_DrawSetTimer.f
 repeat' first
   | (with_reducible exact spec_l1New.mono _ _)
   | (with_reducible exact spec_l4Some.mono _ _ _ _)
   | (with_reducible exact LeO.refl _)
   | (with_reducible exact LeO.none _)
   | (with_reducible refine LeO.ite ?_ ?_)
   | (with_reducible refine LeO.bind ?_ (fun _ => ?_))
def spec_DrawSetTimer.T4 : Bool × List (List Nat × List Nat) := (true, [([], []), ([], []), ([], []), ([], []), ([2, 3], [2, 3]), ([0, 4, 0], [0]), ([1, 5, 0, 1, 5], [1]), ([4, 6, 0, 1, 2, 3, 4, 5, 6], [4])])
def spec_DrawSetTimer.B4 : List Nat := [0, 0, 0, 0, 12, 29, 63, 127]
theorem spec_DrawSetTimer.tab4 : rtab .any (opsOf Try.f30 4) = spec_DrawSetTimer.T4 := by kernel_rfl
theorem spec_DrawSetTimer.bits4 : waitsOk spec_DrawSetTimer.T4.2 spec_DrawSetTimer.B4 = true := by kernel_rfl
set_option maxHeartbeats 8000000 in
set_option maxRecDepth 100000 in
theorem spec_DrawSetTimer.calls (k : Nat) (A0 : Option Addr) (c0 : Nat) (l0 : List Int) (r1 : Int) (r2 : List (S46)) (r3 : Int) (r4 : Int) (w : World) (hr0 : Kd.C (Kd.int .u8) w A0 l0.length l0) (hc0 : l0.length ≤ c0) (h : spec_DrawSetTimer.f k l0 = some (r1, r2, r3, r4)) :
  Calls Try.prog 30 #[.slice A0 l0.length c0] w fun e w' => ∃ v1_ : Value, e = .returned (.tuple #[.agg #[.int .i64 r1, v1_], .int .i64 r3, .int .i64 r4]) ∧ Kd.R k46 46 w' w.heap.size (fun _ => True) v1_ r2 ∧ Below w.heap.size w w' := by
 have hu29 := Try.underlying29
 have HR0 := am hr0
 have HC0 := am hc0
 clear hr0 hc0
 have HB := am (Below.refl w.heap.size w)
 have H : ((spec_l1New.f k l0).bind fun bt662 => ((spec_l4Some.f k bt662.1 bt662.2.1 bt662.2.2).bind fun bt666 => ((spec_l1PickInt.f bt662.1 bt666.2.2.1 bt666.2.2.2 (([0, 1, 2, 5, 9, 15, 20, 21, 100, 1000000000, 9223372036854775807, (-1)] : List Int))).bind fun bt676 => ((spec_l1PickInt.f bt662.1 bt676.2.1 bt676.2.2 (([0, 1, 2, 3, 23, 24, (-1)] : List Int))).bind fun bt682 => (some (bt666.1, bt666.2.1, bt676.1, bt682.1)))))) = some (r1, r2, r3, r4) := h
 clear h
 replace H := Option.bind_eq_some_iff.mp H
 obtain ⟨⟨t662, t663, t664⟩, A20, H⟩ := H
 replace H : ((spec_l4Some.f k t662 t663 t664).bind fun bt666 => ((spec_l1PickInt.f t662 bt666.2.2.1 bt666.2.2.2 (([0, 1, 2, 5, 9, 15, 20, 21, 100, 1000000000, 9223372036854775807, (-1)] : List Int))).bind fun bt676 => ((spec_l1PickInt.f t662 bt676.2.1 bt676.2.2 (([0, 1, 2, 3, 23, 24, (-1)] : List Int))).bind fun bt682 => (some (bt666.1, bt666.2.1, bt676.1, bt682.1))))) = some (r1, r2, r3, r4) := H
 have A2 := am A20
 clear A20
 replace H := Option.bind_eq_some_iff.mp H
 obtain ⟨⟨t666, t667, t670, t671⟩, A30, H⟩ := H
 replace H : ((spec_l1PickInt.f t662 t670 t671 (([0, 1, 2, 5, 9, 15, 20, 21, 100, 1000000000, 9223372036854775807, (-1)] : List Int))).bind fun bt676 => ((spec_l1PickInt.f t662 bt676.2.1 bt676.2.2 (([0, 1, 2, 3, 23, 24, (-1)] : List Int))).bind fun bt682 => (some (t666, t667, bt676.1, bt682.1)))) = some (r1, r2, r3, r4) := H
 have A3 := am A30
 clear A30
 obtain ⟨y673, hy673⟩ : ∃ y_ : List Int, y_ = (([0, 1, 2, 5, 9, 15, 20, 21, 100, 1000000000, 9223372036854775807, (-1)] : List Int)) := ⟨_, rfl⟩
 replace H : ((spec_l1PickInt.f t662 t670 t671 y673).bind fun bt676 => ((spec_l1PickInt.f t662 bt676.2.1 bt676.2.2 (([0, 1, 2, 3, 23, 24, (-1)] : List Int))).bind fun bt682 => (some (t666, t667, bt676.1, bt682.1)))) = some (r1, r2, r3, r4) := by first | (rw [hy673]; with_reducible exact H) | (have H2_ := (Option.bind_some _ _).symm.trans H; rw [hy673]; with_reducible exact H2_) | (have H2_ := (Option.bind_some _ _).symm.trans H; with_reducible exact H2_) | with_reducible exact H | (rw [hy673]; exact H) | exact H
 have Ny673 := am hy673
 clear hy673
 replace H := Option.bind_eq_some_iff.mp H
 obtain ⟨⟨t676, t677, t678⟩, A40, H⟩ := H
 replace H : ((spec_l1PickInt.f t662 t677 t678 (([0, 1, 2, 3, 23, 24, (-1)] : List Int))).bind fun bt682 => (some (t666, t667, t676, bt682.1))) = some (r1, r2, r3, r4) := H
 have A4 := am A40
 clear A40
 obtain ⟨y679, hy679⟩ : ∃ y_ : List Int, y_ = (([0, 1, 2, 3, 23, 24, (-1)] : List Int)) := ⟨_, rfl⟩
 replace H : ((spec_l1PickInt.f t662 t677 t678 y679).bind fun bt682 => (some (t666, t667, t676, bt682.1))) = some (r1, r2, r3, r4) := by first | (rw [hy679]; with_reducible exact H) | (have H2_ := (Option.bind_some _ _).symm.trans H; rw [hy679]; with_reducible exact H2_) | (have H2_ := (Option.bind_some _ _).symm.trans H; with_reducible exact H2_) | with_reducible exact H | (rw [hy679]; exact H) | exact H
 have Ny679 := am hy679
 clear hy679
 replace H := Option.bind_eq_some_iff.mp H
 obtain ⟨⟨t682, t683, t684⟩, A50, H⟩ := H
 replace H : (some (t666, t667, t676, t682)) = some (r1, r2, r3, r4) := H
 have A5 := am A50
 clear A50
 simp only [Option.some.injEq, Prod.mk.injEq] at H
 obtain ⟨rfl, rfl, rfl, rfl⟩ := H
 go_enter Try.func30, Try.ntmps30
 try go_wp2_with (first | ((with_reducible refine gate_dst (N := 2) rfl ?_); refine box_event ?hg (N := 2) ?hd (cs := #[.int .i64 0, .slice none 0 0]) (t := 29) ?hr ?_; (case hd => rfl); (case hg => rfl); (case hr => first | (go_simp; done) | (go_simp; rfl)); intro gb661 hg w6 hbox hb; have BK661 := am (hbox); have GW661 := am ((by rw [hg]; exact (below_size (pkB HB.out)) : w.heap.size ≤ gb661)); have GE661 := am ((by rw [hg]; exact (below_size (pkB HB.out)) : w.heap.size ≤ gb661)); replace HB := am (below_step (pkB HB.out) hb); clear hb hbox hg) | ((with_reducible refine gate_callee (f := 43) rfl ?_); refine goesL_ (some 9) rfl rfl Try.func43 (by kernel_rfl) rfl #[.slice A0 l0.length c0] rfl mpx ?_; (with_reducible refine (spec_l1New.calls k _ _ l0 t662 t663 t664 w _ ?side1 ?side2 ?side3 A2.out).mono ?_); (case side1 => repeat (first | (with_reducible first | exact HB.out | apply below_alloc | apply pw_below_drewN | apply below_drew1 | refine below_set ?_ GE661.out) | exact HB.out)); (case side2 => exact HR0.out); (case side3 => exact HC0.out); rintro e w7 ⟨g665, rfl, hi, hb, hb2⟩; refine ⟨_, rfl, ?_⟩; replace HB := am (hb); have HI665 := am (hi); have NB665_661 := am (IsS72.ne_blk hi (blk_below (pkK BK661.out) hb2) (by decide)); have NB661_665 := am (Ne.symm (IsS72.ne_blk hi (blk_below (pkK BK661.out) hb2) (by decide))); replace BK661 := am (blk_below (pkK BK661.out) hb2); (try clear hb hb2 hi)) | ((with_reducible refine gate_callee (f := 44) rfl ?_); refine goesL_ (some 11) rfl rfl Try.func44 (by kernel_rfl) rfl #[.pointer (some ⟨g665, 0, none⟩)] rfl mpx ?_; (with_reducible refine (spec_l4Some.calls k g665 t662 t663 t664 t666 t667 t670 t671 w _ ?side1 ?side2 A3.out).mono ?_); (case side1 => repeat (first | (with_reducible first | exact HI665.out | apply IsS72.alloc | apply IsS72.drewN | apply IsS72.drew | apply IsS72.set_1 | apply IsS72.set_2 | refine IsS72.far ?_ NB665_661.out _) | exact HI665.out)); (case side2 => repeat (first | (with_reducible first | exact HB.out | apply below_alloc | apply pw_below_drewN | apply below_drew1 | refine below_set ?_ (IsS72.ge HI665.out) | refine below_set ?_ GE661.out) | exact HB.out)); rintro e w8 ⟨v668, rfl, ho0, hi, hb, hk⟩; refine ⟨_, rfl, ?_⟩; replace BK661 := am (KeepBut.blk hk (g' := gb661) (o := .cells #[.int .i64 0, .slice none 0 0] 29 (0, 0)) (pkK BK661.out) NB661_665.out (by simp)); have HO669 := am (Kd.R_lower ho0 (below_size (by repeat (first | (with_reducible first | exact HB.out | apply below_alloc | apply pw_below_drewN | apply below_drew1 | refine below_set ?_ (IsS72.ge HI665.out) | refine below_set ?_ GE661.out) | exact HB.out)))); replace HB := am (hb); replace HI665 := am (hi); (try clear hb hk hi ho0)) | ((with_reducible refine gate_dst (N := 6) rfl ?_); refine box_event ?hg (N := 6) ?hd (cs := #[.int .i64 0, .slice none 0 0]) (t := 29) ?hr ?_; (case hd => rfl); (case hg => rfl); (case hr => first | (go_simp; done) | (go_simp; rfl)); intro gb672 hg w9 hbox hb; replace HO669 := am (Kd.R_below (pkR HO669.out) hb); have BK672 := am (hbox); have GW672 := am ((by rw [hg]; exact (below_size (by repeat (first | (with_reducible first | exact HB.out | apply below_alloc | apply pw_below_drewN | apply below_drew1 | refine below_set ?_ (IsS72.ge HI665.out) | refine below_set ?_ GE661.out) | exact HB.out))) : w.heap.size ≤ gb672)); have GE672 := am ((by rw [hg]; exact (below_size (by repeat (first | (with_reducible first | exact HB.out | apply below_alloc | apply pw_below_drewN | apply below_drew1 | refine below_set ?_ (IsS72.ge HI665.out) | refine below_set ?_ GE661.out) | exact HB.out))) : w.heap.size ≤ gb672)); replace HB := am (below_step (by repeat (first | (with_reducible first | exact HB.out | apply below_alloc | apply pw_below_drewN | apply below_drew1 | refine below_set ?_ (IsS72.ge HI665.out) | refine below_set ?_ GE661.out) | exact HB.out)) hb); have NB661_672 := am ((by rw [hg]; exact Nat.ne_of_lt (blk_lt (g := gb661) (o := .cells #[.int .i64 0, .slice none 0 0] 29 (0, 0)) (pkK BK661.out)) : gb661 ≠ gb672)); have NB672_661 := am ((by rw [hg]; exact Nat.ne_of_gt (blk_lt (g := gb661) (o := .cells #[.int .i64 0, .slice none 0 0] 29 (0, 0)) (pkK BK661.out)) : gb672 ≠ gb661)); replace BK661 := am (blk_below (pkK BK661.out) hb); have NB665_672 := am ((by rw [hg]; exact Nat.ne_of_lt (IsS72.lt (show IsS72 w _ g665 t662 t670 t671 from IsS72.pk HI665.out)) : g665 ≠ gb672)); have NB672_665 := am ((by rw [hg]; exact Nat.ne_of_gt (IsS72.lt (show IsS72 w _ g665 t662 t670 t671 from IsS72.pk HI665.out)) : gb672 ≠ g665)); replace HI665 := am (IsS72.below (IsS72.pk HI665.out) hb); clear hb hbox hg; have hnb10 := NB672_661.out; have hnc10 := NB661_672.out; have hnb11 := NB672_665.out; have hnc11 := NB665_672.out; obtain ⟨hcz12_0, hcz12_1, hfz12_0, hfz12_1⟩ := bk2 BK672.out; obtain ⟨Ao13, co13, eo13⟩ := Kd.R_slice HO669.out; subst eo13) | ((with_reducible refine gate_dst (N := 13) rfl ?_); refine Kd.R_lit (Kd.int .i64) _ 3 ?hg (N := 13) ?hd (xs := ([0, 1, 2, 5, 9, 15, 20, 21, 100, 1000000000, 9223372036854775807, (-1)] : List Int)) (inner := [.int .i64 0, .int .i64 1, .int .i64 2, .int .i64 5, .int .i64 9, .int .i64 15, .int .i64 20, .int .i64 21, .int .i64 100, .int .i64 1000000000, .int .i64 9223372036854775807, .int .i64 (-1)]) (ok := fun _ => True) (okp := fun _ => True) ?hr ?hp (fun _ hk => hk) trivial (Below.refl _ _) (Nat.le_refl _) (by simp) ?_; (case hd => rfl); (case hg => rfl); (case hr => first | (go_simp; done) | (go_simp; rfl)); (case hp => exact (Reps.one (show Kd.M (Kd.int .i64) _ _ _ 0 [.int .i64 0] from rfl) (Reps.one (show Kd.M (Kd.int .i64) _ _ _ 1 [.int .i64 1] from rfl) (Reps.one (show Kd.M (Kd.int .i64) _ _ _ 2 [.int .i64 2] from rfl) (Reps.one (show Kd.M (Kd.int .i64) _ _ _ 5 [.int .i64 5] from rfl) (Reps.one (show Kd.M (Kd.int .i64) _ _ _ 9 [.int .i64 9] from rfl) (Reps.one (show Kd.M (Kd.int .i64) _ _ _ 15 [.int .i64 15] from rfl) (Reps.one (show Kd.M (Kd.int .i64) _ _ _ 20 [.int .i64 20] from rfl) (Reps.one (show Kd.M (Kd.int .i64) _ _ _ 21 [.int .i64 21] from rfl) (Reps.one (show Kd.M (Kd.int .i64) _ _ _ 100 [.int .i64 100] from rfl) (Reps.one (show Kd.M (Kd.int .i64) _ _ _ 1000000000 [.int .i64 1000000000] from rfl) (Reps.one (show Kd.M (Kd.int .i64) _ _ _ 9223372036854775807 [.int .i64 9223372036854775807] from rfl) (Reps.one (show Kd.M (Kd.int .i64) _ _ _ (-1) [.int .i64 (-1)] from rfl) (Reps.none _ _)))))))))))))); intro v674 w14 ho15 hb hg_ hnew_; clear hg_ hnew_; (first | rw [← Ny673.out] at ho15 | (simp only [Int.reduceToNat] at ho15; rw [← Ny673.out] at ho15)); replace HO669 := am (Kd.R_below (by (with_reducible repeat (first | apply Kd.R_alloc | apply Kd.R_drewN | apply Kd.R_drew)); exact (Kd.R_mono (Kd.R_far (p := ⟨gb672, 1, none⟩) (Kd.R_far (p := ⟨gb672, 0, none⟩) (Kd.R_types HO669.out BK672.out (by decide)) (fun _ hk => hk.2) (.int .i64 t666)) (fun _ hk => hk.2) (.slice Ao13 t667.length co13)) (fun _ h_ => h_.1))) hb); have HO675 := am (Kd.R_lower ho15 (below_size (by repeat (first | (with_reducible first | exact HB.out | apply below_alloc | apply pw_below_drewN | apply below_drew1 | refine below_set ?_ (IsS72.ge HI665.out) | refine below_set ?_ GE661.out | refine below_set ?_ GE672.out) | exact HB.out)))); replace BK661 := am (blk_below (g := gb661) (o := .cells #[.int .i64 0, .slice none 0 0] 29 (0, 0)) (by (with_reducible repeat (first | refine blk_drewN ?_ _ | refine blk_drew ?_ | refine blk_alloc ?_ _)); refine blk_far ?_ NB661_672.out _; (with_reducible repeat (first | refine blk_drewN ?_ _ | refine blk_drew ?_ | refine blk_alloc ?_ _)); refine blk_far ?_ NB661_672.out _; exact pkK BK661.out) hb); replace BK672 := am (blk_below (g := gb672) (o := .cells #[.int .i64 t666, .slice Ao13 t667.length co13] 29 (0, 0)) (by (with_reducible repeat (first | refine blk_drewN ?_ _ | refine blk_drew ?_ | refine blk_alloc ?_ _)); refine blk_put (cs := #[.int .i64 t666, .slice none 0 0]) ?_ 1 _ rfl; (with_reducible repeat (first | refine blk_drewN ?_ _ | refine blk_drew ?_ | refine blk_alloc ?_ _)); refine blk_put (cs := #[.int .i64 0, .slice none 0 0]) ?_ 0 _ rfl; exact pkK BK672.out) hb); replace HB := am (below_step (by repeat (first | (with_reducible first | exact HB.out | apply below_alloc | apply pw_below_drewN | apply below_drew1 | refine below_set ?_ (IsS72.ge HI665.out) | refine below_set ?_ GE661.out | refine below_set ?_ GE672.out) | exact HB.out)) hb); replace HI665 := am (IsS72.below (show IsS72 w ((w9.setCell ⟨gb672, 0, none⟩ (.int .i64 t666)).setCell ⟨gb672, 1, none⟩ (.slice Ao13 t667.length co13)) g665 t662 t670 t671 from IsS72.pk HI665.out) hb); clear hb ho15; obtain ⟨Ao16, co16, eo16⟩ := Kd.R_slice HO675.out; subst eo16) | ((with_reducible refine gate_callee (f := 45) rfl ?_); refine goesL_ (some 14) rfl rfl Try.func45 (by kernel_rfl) rfl #[.pointer (some ⟨g665, 0, none⟩), .slice Ao16 y673.length co16] rfl mpx ?_; (with_reducible refine (spec_l1PickInt.calls g665 t662 t670 t671 _ _ y673 t676 t677 t678 w _ ?side1 ?side2 ?side3 ?side4 ?side5 A4.out).mono ?_); (case side1 => repeat (first | (with_reducible first | exact HI665.out | apply IsS72.alloc | apply IsS72.drewN | apply IsS72.drew | apply IsS72.set_1 | apply IsS72.set_2 | refine IsS72.far ?_ NB665_661.out _ | refine IsS72.far ?_ NB665_672.out _) | exact HI665.out)); (case side2 => repeat (first | (with_reducible first | exact HB.out | apply below_alloc | apply pw_below_drewN | apply below_drew1 | refine below_set ?_ (IsS72.ge HI665.out) | refine below_set ?_ GE661.out | refine below_set ?_ GE672.out) | exact HB.out)); (case side3 => exact pkC (Kd.R_reads' HO675.out).2.2); (case side4 => exact (Kd.R_reads' HO675.out).2.1); (case side5 => exact far_slice (IsS72.own_ne HI665.out HO675.out (by decide))); rintro e w17 ⟨rfl, hi, hb, hk⟩; refine ⟨_, rfl, ?_⟩; replace BK661 := am (KeepBut.blk hk (g' := gb661) (o := .cells #[.int .i64 0, .slice none 0 0] 29 (0, 0)) (pkK BK661.out) NB661_665.out (by simp)); replace HO669 := am (Kd.R_mono (Kd.R_keep (IsS72.apart (show IsS72 w _ g665 t662 t670 t671 from IsS72.pk HI665.out) (pkR HO669.out) (by decide)) hk (fun _ h => h.2)) (fun _ h => h.1)); replace BK672 := am (KeepBut.blk hk (g' := gb672) (o := .cells #[.int .i64 t666, .slice Ao13 t667.length co13] 29 (0, 0)) (pkK BK672.out) NB672_665.out (by simp)); replace HO675 := am (Kd.R_mono (Kd.R_keep (IsS72.apart (show IsS72 w _ g665 t662 t670 t671 from IsS72.pk HI665.out) (pkR HO675.out) (by decide)) hk (fun _ h => h.2)) (fun _ h => h.1)); replace HB := am (hb); replace HI665 := am (hi); (try clear hb hk hi)))
 replace HO669 := am (Kd.R_drew HO669.out)
 replace HO675 := am (Kd.R_drew HO675.out)
 replace BK661 := am (blk_drew BK661.out)
 replace BK672 := am (blk_drew BK672.out)
 replace HI665 := am (IsS72.drew HI665.out)
 replace HB := am (below_drew1 HB.out)
 refine start_ (n := 8) (S := fun w' => w'.cell? ⟨gb672, 0, none⟩ = some (.int .i64 t666) ∧ w'.cell? ⟨gb672, 1, none⟩ = some (.slice Ao13 t667.length co13)) (ds := []) #[false, false, false, false, false, false, false, false] (by kernel_rfl) rfl rfl ⟨(blk_cell BK672.out 0).trans rfl, (blk_cell BK672.out 1).trans rfl⟩ (fun hHeld => ?_); refine with_tabW spec_DrawSetTimer.tab4 spec_DrawSetTimer.bits4 (fun HT_ HW_ => ?_)
 generalize w17.drew = w18 at HO669 HO675 BK661 BK672 HI665 HB hHeld ⊢
 refine pure_ (i := 1) (N := some 16) (v := ?_) (a' := ?_) #[false, true, false, false, false, false, false, false] rfl rfl (any_of HT_.out (by kernel_rfl)) (fun _ _ _ h => h) (Or.inl ⟨by rfl, ?_⟩) ?_ ?_
 rotate_left
 ·intro w'
  go_simp
  with_reducible rfl
 rotate_left
 ·simp only [Act.put, List.setIfInBounds_toArray, List.set_cons_zero, List.set_cons_succ, i64_w, i32_w]
  rfl
 refine pure_ (i := 2) (N := some 17) (v := ?_) (a' := ?_) #[false, true, true, false, false, false, false, false] rfl rfl (any_of HT_.out (by kernel_rfl)) (fun _ _ _ h => h) (Or.inl ⟨by rfl, ?_⟩) ?_ ?_
 rotate_left
 ·intro w'
  go_simp
  with_reducible rfl
 rotate_left
 ·simp only [Act.put, List.setIfInBounds_toArray, List.set_cons_zero, List.set_cons_succ, i64_w, i32_w]
  rfl
 refine take_ (i := 0) (N := some 15) (v := ?_) (a' := ?_) #[true, true, true, false, false, false, false, false] rfl rfl (take_ofW HT_.out HW_.out (by kernel_rfl)) (fun _ _ _ h => h) (Or.inl ⟨by rfl, ?_⟩) hHeld ?_ ?_
 rotate_left
 ·rintro w' ⟨s0, s1⟩
  go_simp
  with_reducible rfl
 rotate_left
 ·simp only [Act.put, List.setIfInBounds_toArray, List.set_cons_zero, List.set_cons_succ, i64_w, i32_w]
  rfl
 refine one_ (i := 3) (N := some 18) #[true, true, true, true, false, false, false, false] rfl rfl (one_of HT_.out (by kernel_rfl)) (by decide) (fun K hK => ?_)
 refine Kd.R_lit_step (Kd.int .i64) _ 3 ?hg (N := 18) ?hd (xs := ([0, 1, 2, 3, 23, 24, (-1)] : List Int)) (inner := [.int .i64 0, .int .i64 1, .int .i64 2, .int .i64 3, .int .i64 23, .int .i64 24, .int .i64 (-1)]) (ok := fun _ => True) (okp := fun _ => True) ?hr ?hp (fun _ hk => hk) trivial (Below.refl _ _) (Nat.le_refl _) (by simp) ?_; (case hd => rfl); (case hg => rfl); (case hr => first | (go_simp; done) | (go_simp; rfl)); (case hp => exact (Reps.one (show Kd.M (Kd.int .i64) _ _ _ 0 [.int .i64 0] from rfl) (Reps.one (show Kd.M (Kd.int .i64) _ _ _ 1 [.int .i64 1] from rfl) (Reps.one (show Kd.M (Kd.int .i64) _ _ _ 2 [.int .i64 2] from rfl) (Reps.one (show Kd.M (Kd.int .i64) _ _ _ 3 [.int .i64 3] from rfl) (Reps.one (show Kd.M (Kd.int .i64) _ _ _ 23 [.int .i64 23] from rfl) (Reps.one (show Kd.M (Kd.int .i64) _ _ _ 24 [.int .i64 24] from rfl) (Reps.one (show Kd.M (Kd.int .i64) _ _ _ (-1) [.int .i64 (-1)] from rfl) (Reps.none _ _)))))))))
 intro v680 w19 ho20 hb hg_ hnew_
 clear hg_ hnew_
 (first | rw [← Ny679.out] at ho20 | (simp only [Int.reduceToNat] at ho20; rw [← Ny679.out] at ho20))
 replace HO669 := am (Kd.R_below (pkR HO669.out) hb)
 have HO681 := am (Kd.R_lower (Kd.R_new' ho20 (Kd.R_lt (pkR HO675.out))) (below_size (by repeat (first | (with_reducible first | exact HB.out | apply below_alloc | apply pw_below_drewN | apply below_drew1 | refine below_set ?_ (IsS72.ge HI665.out) | refine below_set ?_ GE661.out | refine below_set ?_ GE672.out) | exact HB.out))))
 replace HO675 := am (Kd.R_elder' (pkR HO675.out) (Kd.R_base ho20) hb)
 replace BK661 := am (blk_below (pkK BK661.out) hb)
 replace BK672 := am (blk_below (pkK BK672.out) hb)
 replace HB := am (below_step (by repeat (first | (with_reducible first | exact HB.out | apply below_alloc | apply pw_below_drewN | apply below_drew1 | refine below_set ?_ (IsS72.ge HI665.out) | refine below_set ?_ GE661.out | refine below_set ?_ GE672.out) | exact HB.out)) hb)
 replace HI665 := am (IsS72.below (IsS72.pk HI665.out) hb)
 clear hb ho20
 obtain ⟨Ao21, co21, eo21⟩ := Kd.R_slice HO681.out
 (first | subst eo21 | (injection eo21 with f1_ f2_ f3_; have f4_ := f1_.symm; have f5_ := f3_.symm; clear f1_ f2_ f3_; subst f4_; subst f5_))
 refine hK.out _ _ ⟨(blk_cell BK672.out 0).trans rfl, (blk_cell BK672.out 1).trans rfl⟩ (fun hHeld => ?_)
 clear hK K
 refine norm_ (a' := ?_) ?_ ?_
 rotate_left
 ·show Act.put _ (some 18) _ = _
  simp only [Act.put, List.setIfInBounds_toArray, List.set_cons_zero, List.set_cons_succ, i64_w, i32_w]
  rfl
 refine one_ (i := 4) (N := some 19) #[true, true, true, true, true, false, false, false] rfl rfl (one_of HT_.out (by kernel_rfl)) (by decide) (fun K hK => ?_)
 refine goes_ Try.func45 (by kernel_rfl) rfl #[.pointer (some ⟨g665, 0, none⟩), .slice Ao21 y679.length co21] (by rfl) rfl rfl mpx ?_
 with_reducible refine (spec_l1PickInt.calls g665 t662 t677 t678 _ _ y679 t682 t683 t684 w _ ?side1 ?side2 ?side3 ?side4 ?side5 A5.out).mono ?_
 (case side1 => repeat (first | (with_reducible first | exact HI665.out | apply IsS72.alloc | apply IsS72.drewN | apply IsS72.drew | apply IsS72.set_1 | apply IsS72.set_2 | refine IsS72.far ?_ NB665_661.out _ | refine IsS72.far ?_ NB665_672.out _) | exact HI665.out))
 (case side2 => repeat (first | (with_reducible first | exact HB.out | apply below_alloc | apply pw_below_drewN | apply below_drew1 | refine below_set ?_ (IsS72.ge HI665.out) | refine below_set ?_ GE661.out | refine below_set ?_ GE672.out) | exact HB.out))
 (case side3 => exact pkC (Kd.R_reads' HO681.out).2.2)
 (case side4 => exact (Kd.R_reads' HO681.out).2.1)
 (case side5 => exact far_slice (IsS72.own_ne HI665.out HO681.out (by decide)))
 rintro e w22 ⟨rfl, hi, hb, hk⟩
 refine ⟨_, rfl, ?_⟩
 replace BK661 := am (KeepBut.blk hk (g' := gb661) (o := .cells #[.int .i64 0, .slice none 0 0] 29 (0, 0)) (pkK BK661.out) NB661_665.out (by simp))
 replace HO669 := am (Kd.R_mono (Kd.R_keep (IsS72.apart (show IsS72 w _ g665 t662 t677 t678 from IsS72.pk HI665.out) (pkR HO669.out) (by decide)) hk (fun _ h => h.2)) (fun _ h => h.1))
 replace BK672 := am (KeepBut.blk hk (g' := gb672) (o := .cells #[.int .i64 t666, .slice Ao13 t667.length co13] 29 (0, 0)) (pkK BK672.out) NB672_665.out (by simp))
 replace HO675 := am (Kd.R_mono (Kd.R_keep (IsS72.apart (show IsS72 w _ g665 t662 t677 t678 from IsS72.pk HI665.out) (pkR HO675.out) (by decide)) hk (fun _ h => h.2)) (fun _ h => h.1))
 replace HO681 := am (Kd.R_mono (Kd.R_keep (IsS72.apart (show IsS72 w _ g665 t662 t677 t678 from IsS72.pk HI665.out) (pkR HO681.out) (by decide)) hk (fun _ h => h.2)) (fun _ h => h.1))
 replace HB := am (hb)
 replace HI665 := am (hi)
 (try clear hb); (try clear hk hi)
 refine hK.out _ _ ⟨(blk_cell BK672.out 0).trans rfl, (blk_cell BK672.out 1).trans rfl⟩ (fun hHeld => ?_)
 clear hK K
 refine norm_ (a' := ?_) ?_ ?_
 rotate_left
 ·show Act.put _ (some 19) _ = _
  simp only [Act.put, List.setIfInBounds_toArray, List.set_cons_zero, List.set_cons_succ, i64_w, i32_w]
  rfl
 refine one_ (i := 5) (N := none) #[true, true, true, true, true, true, false, false] rfl rfl (one_of HT_.out (by kernel_rfl)) (by decide) (fun K hK => ?_)
 have hs23 : w22.cell? ⟨gb661, 0, none⟩ = some (.int .i64 0) := (blk_cell BK661.out 0).trans rfl
 have hfs23 := blk_frozen BK661.out 0
 have hns23_1 := NB672_661.out
 have hms23_1 := NB661_672.out
 have hs24 : w22.cell? ⟨gb661, 1, none⟩ = some (.slice none 0 0) := (blk_cell BK661.out 1).trans rfl
 have hfs24 := blk_frozen BK661.out 1
 have hns24_1 := NB672_661.out
 have hms24_1 := NB661_672.out
 refine skip_ (w1 := ?_) (by rfl) rfl ?_ ?_
 rotate_left
 ·go_simp
  rfl
 refine hK.out _ _ ⟨((cell_far (p := ⟨gb661, _, none⟩) NB672_661.out _).trans (((cell_far (p := ⟨gb661, _, none⟩) NB672_661.out _).trans (hHeld.1)))), ((cell_far (p := ⟨gb661, _, none⟩) NB672_661.out _).trans (((cell_far (p := ⟨gb661, _, none⟩) NB672_661.out _).trans (hHeld.2))))⟩ (fun hHeld => ?_)
 clear hK K
 refine pure_ (i := 6) (N := some 3) (v := ?_) (a' := ?_) #[true, true, true, true, true, true, true, false] rfl rfl (any_of HT_.out (by kernel_rfl)) (fun _ _ _ h => h) (Or.inl ⟨by rfl, ?_⟩) ?_ ?_
 rotate_left
 ·intro w'
  go_simp
  with_reducible rfl
 rotate_left
 ·simp only [Act.put, List.setIfInBounds_toArray, List.set_cons_zero, List.set_cons_succ, i64_w, i32_w]
  rfl
 refine pure_ (i := 7) (N := some 4) (v := ?_) (a' := ?_) #[true, true, true, true, true, true, true, true] rfl rfl (any_of HT_.out (by kernel_rfl)) (fun _ _ _ h => h) (Or.inl ⟨by rfl, ?_⟩) ?_ ?_
 rotate_left
 ·intro w'
  go_simp
  with_reducible rfl
 rotate_left
 ·simp only [Act.put, List.setIfInBounds_toArray, List.set_cons_zero, List.set_cons_succ, i64_w, i32_w]
  rfl
 refine done_ (done_of HT_.out (by kernel_rfl)) ?_
 try go_wp2
 refine bodyPost_ret (results_ctt rfl _ _ gb661 29 #[.int .i64 t666, .slice Ao13 t667.length co13] (0, 0) _ rfl (by (with_reducible repeat (first | refine blk_drewN ?_ _ | refine blk_drew ?_ | refine blk_alloc ?_ _)); refine blk_put (cs := #[.int .i64 t666, .slice none 0 0]) ?_ 1 _ rfl; (with_reducible repeat (first | refine blk_drewN ?_ _ | refine blk_drew ?_ | refine blk_alloc ?_ _)); refine blk_put (cs := #[.int .i64 0, .slice none 0 0]) ?_ 0 _ rfl; exact pkK BK661.out) Try.underlying29 rfl (by kernel_rfl)) rfl ?_
 exact ⟨_, rfe, by (with_reducible repeat (first | apply Kd.R_alloc | apply Kd.R_drewN | apply Kd.R_drew)); exact Kd.R_mono (Kd.R_far (p := ⟨gb661, 1, none⟩) (Kd.R_far (p := ⟨gb661, 0, none⟩) (Kd.R_types HO669.out BK661.out (by decide)) (fun _ hk => hk.2) (.int .i64 t666)) (fun _ hk => hk.2) (.slice Ao13 t667.length co13)) (fun _ hk => trivial), by repeat (first | (with_reducible first | exact HB.out | apply below_alloc | apply pw_below_drewN | apply below_drew1 | refine below_set ?_ (IsS72.ge HI665.out) | refine below_set ?_ GE661.out | refine below_set ?_ GE672.out) | exact HB.out)⟩
end Go.Proofs.Ytfgjfheiekhmlaa.Z
