/- The Go functions spec_QuitLatch as Lean functions, each with a proof that its code comes to just these answers; conditions: those of each theorem. -/
import Derived.Test.YtffcphplnilokaaZx0
import Derived.Test.YtffcphplnilokaaZx17
import Derived.Test.YtffcphplnilokaaZx21
import Derived.Test.YtffcphplnilokaaZx30
import Derived.Test.YtffcphplnilokaaZx35
namespace Go.Proofs.Ytffcphplnilokaa.Z
open Go.RowKit Go.Proofs.YtffcphplnilokaaW.PrintWords Go.Proofs.YtffcphplnilokaaW.PrintLast Go.Proofs.YtffcphplnilokaaW.PrintMore
attribute [local go_sem] max2_int min2_int max_two min_two max_three min_three max_four min_four   -- for this text's walks alone
set_option linter.unusedVariables false
set_option linter.unusedSimpArgs false
def spec_QuitLatch.j0 : Nat → Int → Bool → Int → List Int → List Int → Int → List Int → List Int → Option (Int × List Int × List Int × Int)
 | 0, _, _, _, _, _, _, _, _ => none
 | k + 1, x1, x14, x782000, x782001, x782002, x791000, x791001, x791002 => if x14 = true then (some (x791000, x791001, x791002, 3)) else ((spec_l2Less.f k x782001 x1).bind fun t794 => ((spec_l2Less.f k x782002 x1).bind fun t797 => (some (x791000, t794, t797, 0))))
def spec_QuitLatch.f (k : Nat) (a0_0 : Int) (l0_1 : List Int) (l0_2 : List Int) (a1 : Int) : Option (Int × List Int × List Int × Int) := (spec_l6CopyLatch.f a0_0 l0_1 l0_2).bind fun bt783 => ((spec_LatchOk.f k a0_0 l0_1 l0_2).bind fun t791 => (if t791 = true then ((spec_l2Has.f k l0_1 a1).bind fun t792 => (if t792 = true then (spec_QuitLatch.j0 k a1 false a0_0 l0_1 l0_2 bt783.1 bt783.2.1 bt783.2.2) else ((spec_l2Has.f k l0_2 a1).bind fun t793 => (spec_QuitLatch.j0 k a1 (!t793) a0_0 l0_1 l0_2 bt783.1 bt783.2.1 bt783.2.2)))) else (some (bt783.1, bt783.2.1, bt783.2.2, 1))))
theorem spec_QuitLatch.mono_l : ∀ k, (∀ y0 y1 y2 y3 y4 y5 y6 y7, LeO (spec_QuitLatch.j0 k y0 y1 y2 y3 y4 y5 y6 y7) (spec_QuitLatch.j0 (k + 1) y0 y1 y2 y3 y4 y5 y6 y7))
 | 0 => fun _ _ _ _ _ _ _ _ r h => by simp [spec_QuitLatch.j0] at h
 | k + 1 => by
  have ih0 := spec_QuitLatch.mono_l k
  ·intro y0 y1 y2 y3 y4 y5 y6 y7
   unfold spec_QuitLatch.j0
   repeat' first
   | (with_reducible exact ih0 _ _ _ _ _ _ _ _)
   | (with_reducible exact spec_LatchOk.mono _ _ _ _)
   | (with_reducible exact spec_l2Has.mono _ _ _)
   | (with_reducible exact spec_l2Less.mono _ _ _)
   | (with_reducible exact LeO.refl _)
   | (with_reducible exact LeO.none _)
   | (with_reducible refine LeO.ite ?_ ?_)
   | (with_reducible refine LeO.bind ?_ (fun _ => ?_))
theorem spec_QuitLatch.mono : ∀ a0 a1 a2 a3 k, LeO (spec_QuitLatch.f k a0 a1 a2 a3) (spec_QuitLatch.f (k + 1) a0 a1 a2 a3) := by
 intro a0 a1 a2 a3 k
 have ih0 := spec_QuitLatch.mono_l k
 unfold spec_QuitLatch.f
 repeat' first
   | (with_reducible exact ih0 _ _ _ _ _ _ _ _)
   | (with_reducible exact spec_LatchOk.mono _ _ _ _)
   | (with_reducible exact spec_l2Has.mono _ _ _)
   | (with_reducible exact spec_l2Less.mono _ _ _)
   | (with_reducible exact LeO.refl _)
   | (with_reducible exact LeO.none _)
   | (with_reducible refine LeO.ite ?_ ?_)
   | (with_reducible refine LeO.bind ?_ (fun _ => ?_))
set_option maxHeartbeats 8000000 in
set_option maxRecDepth 100000 in
theorem spec_QuitLatch.calls (k : Nat) (a0_0 : Int) (A0_1 : Option Addr) (c0_1 : Nat) (l0_1 : List Int) (A0_2 : Option Addr) (c0_2 : Nat) (l0_2 : List Int) (a1 : Int) (r1 : Int) (r2 : List Int) (r3 : List Int) (r4 : Int) (w : World) (hr0_1 : Kd.C (Kd.int .i64) w A0_1 l0_1.length l0_1) (hc0_1 : l0_1.length ≤ c0_1) (hr0_2 : Kd.C (Kd.int .i64) w A0_2 l0_2.length l0_2) (hc0_2 : l0_2.length ≤ c0_2) (h : spec_QuitLatch.f k a0_0 l0_1 l0_2 a1 = some (r1, r2, r3, r4)) :
  Calls Try.prog 40 #[.agg #[.int .i64 a0_0, .slice A0_1 l0_1.length c0_1, .slice A0_2 l0_2.length c0_2], .int .i64 a1] w fun e w' => ∃ v1_ v2_ : Value, e = .returned (.tuple #[.agg #[.int .i64 r1, v1_, v2_], .int .i64 r4]) ∧ Kd.R (Kd.int .i64) 3 w' w.heap.size (fun k_ => some k_ ≠ (v2_ : Value).ownBlock) v1_ r2 ∧ Kd.R (Kd.int .i64) 3 w' w.heap.size (fun k_ => some k_ ≠ (v1_ : Value).ownBlock) v2_ r3 ∧ Below w.heap.size w w' := by
 have hu46 := Try.underlying46
 have HR0_1 := am hr0_1
 have HC0_1 := am hc0_1
 clear hr0_1 hc0_1
 have HR0_2 := am hr0_2
 have HC0_2 := am hc0_2
 clear hr0_2 hc0_2
 have HB := am (Below.refl w.heap.size w)
 have H : ((spec_l6CopyLatch.f a0_0 l0_1 l0_2).bind fun bt783 => ((spec_LatchOk.f k a0_0 l0_1 l0_2).bind fun t791 => (if t791 = true then ((spec_l2Has.f k l0_1 a1).bind fun t792 => (if t792 = true then (spec_QuitLatch.j0 k a1 false a0_0 l0_1 l0_2 bt783.1 bt783.2.1 bt783.2.2) else ((spec_l2Has.f k l0_2 a1).bind fun t793 => (spec_QuitLatch.j0 k a1 (!t793) a0_0 l0_1 l0_2 bt783.1 bt783.2.1 bt783.2.2)))) else (some (bt783.1, bt783.2.1, bt783.2.2, 1))))) = some (r1, r2, r3, r4) := h
 clear h
 replace H := Option.bind_eq_some_iff.mp H
 obtain ⟨⟨t783, t784, t787⟩, A30, H⟩ := H
 replace H : ((spec_LatchOk.f k a0_0 l0_1 l0_2).bind fun t791 => (if t791 = true then ((spec_l2Has.f k l0_1 a1).bind fun t792 => (if t792 = true then (spec_QuitLatch.j0 k a1 false a0_0 l0_1 l0_2 t783 t784 t787) else ((spec_l2Has.f k l0_2 a1).bind fun t793 => (spec_QuitLatch.j0 k a1 (!t793) a0_0 l0_1 l0_2 t783 t784 t787)))) else (some (t783, t784, t787, 1)))) = some (r1, r2, r3, r4) := H
 have A3 := am A30
 clear A30
 replace H := Option.bind_eq_some_iff.mp H
 obtain ⟨t791, A40, H⟩ := H
 replace H : (if t791 = true then ((spec_l2Has.f k l0_1 a1).bind fun t792 => (if t792 = true then (spec_QuitLatch.j0 k a1 false a0_0 l0_1 l0_2 t783 t784 t787) else ((spec_l2Has.f k l0_2 a1).bind fun t793 => (spec_QuitLatch.j0 k a1 (!t793) a0_0 l0_1 l0_2 t783 t784 t787)))) else (some (t783, t784, t787, 1))) = some (r1, r2, r3, r4) := H
 have A4 := am A40
 clear A40
 by_cases c5 : t791 = true
 ·subst c5
  replace H : ((spec_l2Has.f k l0_1 a1).bind fun t792 => (if t792 = true then (spec_QuitLatch.j0 k a1 false a0_0 l0_1 l0_2 t783 t784 t787) else ((spec_l2Has.f k l0_2 a1).bind fun t793 => (spec_QuitLatch.j0 k a1 (!t793) a0_0 l0_1 l0_2 t783 t784 t787)))) = some (r1, r2, r3, r4) := by rw [if_pos rfl] at H; exact H
  have HC6 := am H
  clear H
  go_enter Try.func40, Try.ntmps40
  go_upto_region 4 with (first | ((with_reducible refine gate_dst (N := 2) rfl ?_); refine box_event ?hg (N := 2) ?hd (cs := #[.int .i64 a0_0, .slice A0_1 l0_1.length c0_1, .slice A0_2 l0_2.length c0_2]) (t := 46) ?hr ?_; (case hd => rfl); (case hg => rfl); (case hr => first | (go_simp; done) | (go_simp; rfl)); intro gb781 hg w7 hbox hb; have BK781 := am (hbox); have GW781 := am ((by rw [hg]; exact (below_size (pkB HB.out)) : w.heap.size ≤ gb781)); have GE781 := am ((by rw [hg]; exact (below_size (pkB HB.out)) : w.heap.size ≤ gb781)); replace HB := am (below_step (pkB HB.out) hb); clear hb hbox hg) | ((with_reducible refine gate_dst (N := 4) rfl ?_); refine box_event ?hg (N := 4) ?hd (cs := #[.int .i64 0, .slice none 0 0, .slice none 0 0]) (t := 46) ?hr ?_; (case hd => rfl); (case hg => rfl); (case hr => first | (go_simp; done) | (go_simp; rfl)); intro gb782 hg w8 hbox hb; have BK782 := am (hbox); have GW782 := am ((by rw [hg]; exact (below_size (pkW HB.out)) : w.heap.size ≤ gb782)); have GE782 := am ((by rw [hg]; exact (below_size (pkW HB.out)) : w.heap.size ≤ gb782)); replace HB := am (below_step (pkW HB.out) hb); have NB781_782 := am ((by rw [hg]; exact Nat.ne_of_lt (blk_lt (g := gb781) (o := .cells #[.int .i64 a0_0, .slice A0_1 l0_1.length c0_1, .slice A0_2 l0_2.length c0_2] 46 (0, 0)) (pkK BK781.out)) : gb781 ≠ gb782)); have NB782_781 := am ((by rw [hg]; exact Nat.ne_of_gt (blk_lt (g := gb781) (o := .cells #[.int .i64 a0_0, .slice A0_1 l0_1.length c0_1, .slice A0_2 l0_2.length c0_2] 46 (0, 0)) (pkK BK781.out)) : gb782 ≠ gb781)); replace BK781 := am (blk_below (pkK BK781.out) hb); clear hb hbox hg; have hnb9 := NB781_782.out; have hnc9 := NB782_781.out; obtain ⟨hcz10_0, hcz10_1, hcz10_2, hfz10_0, hfz10_1, hfz10_2⟩ := bk3 BK781.out) | ((with_reducible refine gate_callee (f := 74) rfl ?_); refine goesL_ (some 8) rfl rfl Try.func74 (by kernel_rfl) rfl #[.agg #[.int .i64 a0_0, .slice A0_1 l0_1.length c0_1, .slice A0_2 l0_2.length c0_2]] rfl mpx ?_; (with_reducible refine (spec_l6CopyLatch.calls a0_0 _ _ l0_1 _ _ l0_2 t783 t784 t787 _ ?side1 ?side2 ?side3 ?side4 A3.out).mono ?_); (case side1 => exact pkC (Kd.C_below HR0_1.out HB.out)); (case side2 => exact HC0_1.out); (case side3 => exact pkC (Kd.C_below HR0_2.out HB.out)); (case side4 => exact HC0_2.out); rintro e w11 ⟨v785, v788, rfl, ho0, ho1, hb⟩; refine ⟨_, rfl, ?_⟩; have HO786 := am (Kd.R_lower ho0 (below_size (pkW HB.out))); have HO789 := am (Kd.R_lower ho1 (below_size (pkW HB.out))); replace BK781 := am (blk_below (pkK BK781.out) hb); replace BK782 := am (blk_below (pkK BK782.out) hb); replace HB := am (below_step (pkW HB.out) hb); (try clear hb ho0 ho1)) | ((with_reducible refine gate_dst (N := 6) rfl ?_); refine box_event ?hg (N := 6) ?hd (cs := #[.int .i64 0, .slice none 0 0, .slice none 0 0]) (t := 46) ?hr ?_; (case hd => rfl); (case hg => rfl); (case hr => first | (go_simp; done) | (go_simp; rfl)); intro gb790 hg w12 hbox hb; replace HO786 := am (Kd.R_below (pkR HO786.out) hb); replace HO789 := am (Kd.R_below (pkR HO789.out) hb); have BK790 := am (hbox); have GW790 := am ((by rw [hg]; exact (below_size (pkW HB.out)) : w.heap.size ≤ gb790)); have GE790 := am ((by rw [hg]; exact (below_size (pkW HB.out)) : w.heap.size ≤ gb790)); replace HB := am (below_step (pkW HB.out) hb); have NB781_790 := am ((by rw [hg]; exact Nat.ne_of_lt (blk_lt (g := gb781) (o := .cells #[.int .i64 a0_0, .slice A0_1 l0_1.length c0_1, .slice A0_2 l0_2.length c0_2] 46 (0, 0)) (pkK BK781.out)) : gb781 ≠ gb790)); have NB790_781 := am ((by rw [hg]; exact Nat.ne_of_gt (blk_lt (g := gb781) (o := .cells #[.int .i64 a0_0, .slice A0_1 l0_1.length c0_1, .slice A0_2 l0_2.length c0_2] 46 (0, 0)) (pkK BK781.out)) : gb790 ≠ gb781)); replace BK781 := am (blk_below (pkK BK781.out) hb); have NB782_790 := am ((by rw [hg]; exact Nat.ne_of_lt (blk_lt (g := gb782) (o := .cells #[.int .i64 0, .slice none 0 0, .slice none 0 0] 46 (0, 0)) (pkK BK782.out)) : gb782 ≠ gb790)); have NB790_782 := am ((by rw [hg]; exact Nat.ne_of_gt (blk_lt (g := gb782) (o := .cells #[.int .i64 0, .slice none 0 0, .slice none 0 0] 46 (0, 0)) (pkK BK782.out)) : gb790 ≠ gb782)); replace BK782 := am (blk_below (pkK BK782.out) hb); clear hb hbox hg; have hnb13 := NB790_781.out; have hnc13 := NB781_790.out; have hnb14 := NB790_782.out; have hnc14 := NB782_790.out; obtain ⟨hcz15_0, hcz15_1, hcz15_2, hfz15_0, hfz15_1, hfz15_2⟩ := bk3 BK790.out; obtain ⟨Ao16, co16, eo16⟩ := Kd.R_slice HO786.out; subst eo16; obtain ⟨Ao17, co17, eo17⟩ := Kd.R_slice HO789.out; subst eo17; obtain ⟨hcz18_0, hcz18_1, hcz18_2, hfz18_0, hfz18_1, hfz18_2⟩ := bk3 BK781.out) | ((with_reducible refine gate_callee (f := 24) rfl ?_); refine goesL_ (some 11) rfl rfl Try.func24 (by kernel_rfl) rfl #[.agg #[.int .i64 a0_0, .slice A0_1 l0_1.length c0_1, .slice A0_2 l0_2.length c0_2]] rfl mpx ?_; (with_reducible refine (spec_LatchOk.calls k a0_0 _ _ l0_1 _ _ l0_2 true _ ?side1 ?side2 ?side3 ?side4 A4.out).mono ?_); (case side1 => exact Kd.C_below HR0_1.out (pkW HB.out)); (case side2 => exact HC0_1.out); (case side3 => exact Kd.C_below HR0_2.out (pkW HB.out)); (case side4 => exact HC0_2.out); rintro e w19 ⟨rfl, hb⟩; refine ⟨_, rfl, ?_⟩; replace HO786 := am (Kd.R_below (by (with_reducible repeat (first | apply Kd.R_alloc | apply Kd.R_drewN | apply Kd.R_drew)); exact (Kd.R_mono (Kd.R_far (p := ⟨gb790, 2, none⟩) (Kd.R_far (p := ⟨gb790, 1, none⟩) (Kd.R_far (p := ⟨gb790, 0, none⟩) (Kd.R_types HO786.out BK790.out (by decide)) (fun _ hk => hk.2) (.int .i64 t783)) (fun _ hk => hk.2) (.slice Ao16 t784.length co16)) (fun _ hk => hk.2) (.slice Ao17 t787.length co17)) (fun _ h_ => h_.1))) hb); replace HO789 := am (Kd.R_below (by (with_reducible repeat (first | apply Kd.R_alloc | apply Kd.R_drewN | apply Kd.R_drew)); exact (Kd.R_mono (Kd.R_far (p := ⟨gb790, 2, none⟩) (Kd.R_far (p := ⟨gb790, 1, none⟩) (Kd.R_far (p := ⟨gb790, 0, none⟩) (Kd.R_types HO789.out BK790.out (by decide)) (fun _ hk => hk.2) (.int .i64 t783)) (fun _ hk => hk.2) (.slice Ao16 t784.length co16)) (fun _ hk => hk.2) (.slice Ao17 t787.length co17)) (fun _ h_ => h_.1))) hb); replace BK781 := am (blk_below (g := gb781) (o := .cells #[.int .i64 a0_0, .slice A0_1 l0_1.length c0_1, .slice A0_2 l0_2.length c0_2] 46 (0, 0)) (by (with_reducible repeat (first | refine blk_drewN ?_ _ | refine blk_drew ?_ | refine blk_alloc ?_ _)); refine blk_far ?_ NB781_790.out _; (with_reducible repeat (first | refine blk_drewN ?_ _ | refine blk_drew ?_ | refine blk_alloc ?_ _)); refine blk_far ?_ NB781_790.out _; (with_reducible repeat (first | refine blk_drewN ?_ _ | refine blk_drew ?_ | refine blk_alloc ?_ _)); refine blk_far ?_ NB781_790.out _; exact pkK BK781.out) hb); replace BK782 := am (blk_below (g := gb782) (o := .cells #[.int .i64 0, .slice none 0 0, .slice none 0 0] 46 (0, 0)) (by (with_reducible repeat (first | refine blk_drewN ?_ _ | refine blk_drew ?_ | refine blk_alloc ?_ _)); refine blk_far ?_ NB782_790.out _; (with_reducible repeat (first | refine blk_drewN ?_ _ | refine blk_drew ?_ | refine blk_alloc ?_ _)); refine blk_far ?_ NB782_790.out _; (with_reducible repeat (first | refine blk_drewN ?_ _ | refine blk_drew ?_ | refine blk_alloc ?_ _)); refine blk_far ?_ NB782_790.out _; exact pkK BK782.out) hb); replace BK790 := am (blk_below (g := gb790) (o := .cells #[.int .i64 t783, .slice Ao16 t784.length co16, .slice Ao17 t787.length co17] 46 (0, 0)) (by (with_reducible repeat (first | refine blk_drewN ?_ _ | refine blk_drew ?_ | refine blk_alloc ?_ _)); refine blk_put (cs := #[.int .i64 t783, .slice Ao16 t784.length co16, .slice none 0 0]) ?_ 2 _ rfl; (with_reducible repeat (first | refine blk_drewN ?_ _ | refine blk_drew ?_ | refine blk_alloc ?_ _)); refine blk_put (cs := #[.int .i64 t783, .slice none 0 0, .slice none 0 0]) ?_ 1 _ rfl; (with_reducible repeat (first | refine blk_drewN ?_ _ | refine blk_drew ?_ | refine blk_alloc ?_ _)); refine blk_put (cs := #[.int .i64 0, .slice none 0 0, .slice none 0 0]) ?_ 0 _ rfl; exact pkK BK790.out) hb); replace HB := am (below_step (pkW HB.out) hb); (try clear hb)))
  (try simp only [Act.put, List.setIfInBounds_toArray, List.set_cons_zero, List.set_cons_succ])
  go_cut [14] (fun v14 wc => ∃ (kq : Nat) (x14_5 : Bool), v14 = .bool x14_5 ∧ Aside0 (spec_QuitLatch.j0 kq a1 x14_5 a0_0 l0_1 l0_2 t783 t784 t787 = some (r1, r2, r3, r4)) ∧ Aside0 (kq ≤ k) ∧ Aside0 (Kd.R (Kd.int .i64) 3 wc w.heap.size (fun k_ => some k_ ≠ ((.slice Ao17 t787.length co17) : Value).ownBlock) (.slice Ao16 t784.length co16) t784) ∧ Aside0 (Kd.R (Kd.int .i64) 3 wc w.heap.size (fun k_ => some k_ ≠ ((.slice Ao16 t784.length co16) : Value).ownBlock) (.slice Ao17 t787.length co17) t787) ∧ Aside0 (wc.heap[gb781]? = some (.cells #[.int .i64 a0_0, (.slice A0_1 l0_1.length c0_1), (.slice A0_2 l0_2.length c0_2)] 46 (0, 0))) ∧ Aside0 (wc.heap[gb782]? = some (.cells #[.int .i64 0, (.slice none 0 0), (.slice none 0 0)] 46 (0, 0))) ∧ Aside0 (wc.heap[gb790]? = some (.cells #[.int .i64 t783, (.slice Ao16 t784.length co16), (.slice Ao17 t787.length co17)] 46 (0, 0))) ∧ Aside0 (Below w.heap.size w wc))
  case first =>
   have H := HC6.out
   clear HC6
   replace H := Option.bind_eq_some_iff.mp H
   obtain ⟨t792, A200, H⟩ := H
   replace H : (if t792 = true then (spec_QuitLatch.j0 k a1 false a0_0 l0_1 l0_2 t783 t784 t787) else ((spec_l2Has.f k l0_2 a1).bind fun t793 => (spec_QuitLatch.j0 k a1 (!t793) a0_0 l0_1 l0_2 t783 t784 t787))) = some (r1, r2, r3, r4) := H
   have A20 := am A200
   clear A200
   by_cases c21 : t792 = true
   ·subst c21
    replace H : (spec_QuitLatch.j0 k a1 false a0_0 l0_1 l0_2 t783 t784 t787) = some (r1, r2, r3, r4) := by rw [if_pos rfl] at H; exact H
    have H' := am H
    clear H
    have hnb22 := NB781_782.out
    have hnc22 := NB782_781.out
    have hnb23 := NB781_790.out
    have hnc23 := NB790_781.out
    obtain ⟨hcz24_0, hcz24_1, hcz24_2, hfz24_0, hfz24_1, hfz24_2⟩ := bk3 BK781.out
    go_wp2_with (first | ((with_reducible refine gate_callee (f := 76) rfl ?_); refine goesL_ (some 18) rfl rfl Try.func76 (by kernel_rfl) rfl #[.slice A0_1 l0_1.length c0_1, .int .i64 a1] rfl mpx ?_; (with_reducible refine (spec_l2Has.calls k _ _ l0_1 a1 true _ ?side1 ?side2 A20.out).mono ?_); (case side1 => exact pkC (Kd.C_below HR0_1.out HB.out)); (case side2 => exact HC0_1.out); rintro e w' ⟨rfl, ⟨nd, rfl⟩⟩; refine ⟨_, rfl, ?_⟩))
    go_meet
    case rel => exact ⟨_, (false), rfx, H', ⟨by first | omega | exact Nat.le_refl _⟩, ⟨pkR HO786.out⟩, ⟨pkR HO789.out⟩, ⟨pkK BK781.out⟩, ⟨pkK BK782.out⟩, ⟨pkK BK790.out⟩, ⟨pkW HB.out⟩⟩
   ·replace c21 := Bool.eq_false_iff.mpr c21
    subst c21
    replace H : ((spec_l2Has.f k l0_2 a1).bind fun t793 => (spec_QuitLatch.j0 k a1 (!t793) a0_0 l0_1 l0_2 t783 t784 t787)) = some (r1, r2, r3, r4) := by rw [if_neg (show ¬ (false = true) by decide)] at H; exact H
    replace H := Option.bind_eq_some_iff.mp H
    obtain ⟨t793, A250, H⟩ := H
    replace H : (spec_QuitLatch.j0 k a1 (!t793) a0_0 l0_1 l0_2 t783 t784 t787) = some (r1, r2, r3, r4) := H
    have A25 := am A250
    clear A250
    have H' := am H
    clear H
    have hnb26 := NB781_782.out
    have hnc26 := NB782_781.out
    have hnb27 := NB781_790.out
    have hnc27 := NB790_781.out
    obtain ⟨hcz28_0, hcz28_1, hcz28_2, hfz28_0, hfz28_1, hfz28_2⟩ := bk3 BK781.out
    go_wp2_with (first | ((with_reducible refine gate_callee (f := 76) rfl ?_); refine goesL_ (some 18) rfl rfl Try.func76 (by kernel_rfl) rfl #[.slice A0_1 l0_1.length c0_1, .int .i64 a1] rfl mpx ?_; (with_reducible refine (spec_l2Has.calls k _ _ l0_1 a1 false _ ?side1 ?side2 A20.out).mono ?_); (case side1 => exact pkC (Kd.C_below HR0_1.out HB.out)); (case side2 => exact HC0_1.out); rintro e w' ⟨rfl, ⟨nd, rfl⟩⟩; refine ⟨_, rfl, ?_⟩) | (go_at_call 76; (with_reducible refine (spec_l2Has.calls k _ _ l0_2 a1 t793 _ ?side1 ?side2 A25.out).mono ?_); (case side1 => repeat (first | exact (Kd.C_below HR0_2.out (pkW HB.out)) | (with_reducible refine Kd.C_alloc ?_ _) | (with_reducible refine Kd.C_drewN ?_ _) | (with_reducible refine Kd.C_drew ?_))); (case side2 => exact HC0_2.out); rintro e w' ⟨rfl, ⟨nd, rfl⟩⟩))
    go_meet
    case rel => exact ⟨_, (!t793), rfx, H', ⟨by first | omega | exact Nat.le_refl _⟩, ⟨pkR HO786.out⟩, ⟨pkR HO789.out⟩, ⟨pkK BK781.out⟩, ⟨pkK BK782.out⟩, ⟨pkK BK790.out⟩, ⟨pkW HB.out⟩⟩
  case rest =>
   clear HC6
   try clear c1
   try clear c2
   try clear p2
   try clear c4
   try clear c5
   try clear c7
   try clear c9
   try clear c13
   try clear c14
   try clear c21
   try clear c22
   try clear c23
   try clear c24
   try clear c26
   try clear c27
   try clear hcz10_0
   try clear hcz10_1
   try clear hcz10_2
   try clear hcz15_0
   try clear hcz15_1
   try clear hcz15_2
   try clear hcz18_0
   try clear hcz18_1
   try clear hcz18_2
   try clear hcz24_0
   try clear hcz24_1
   try clear hcz24_2
   try clear hcz28_0
   try clear hcz28_1
   try clear hcz28_2
   try clear hfz10_0
   try clear hfz10_1
   try clear hfz10_2
   try clear hfz15_0
   try clear hfz15_1
   try clear hfz15_2
   try clear hfz18_0
   try clear hfz18_1
   try clear hfz18_2
   try clear hfz24_0
   try clear hfz24_1
   try clear hfz24_2
   try clear hfz28_0
   try clear hfz28_1
   try clear hfz28_2
   obtain ⟨kq, x14_5, rfl, HA, HJ5, HO_791001, HO_791002, BK781, BK782, BK790, HB⟩ := hcut
   cases kq with
   | zero => exact absurd HA.out (by simp [spec_QuitLatch.j0])
   | succ kj5 =>
    have H := HA.out
    clear HA
    simp only [spec_QuitLatch.j0] at H
    by_cases c29 : x14_5 = true
    ·subst c29
     replace H : (some (t783, t784, t787, 3)) = some (r1, r2, r3, r4) := by rw [if_pos rfl] at H; exact H
     simp only [Option.some.injEq, Prod.mk.injEq] at H
     obtain ⟨rfl, rfl, rfl, rfl⟩ := H
     have hnb30 := NB790_781.out
     have hnc30 := NB781_790.out
     have hnb31 := NB790_782.out
     have hnc31 := NB782_790.out
     obtain ⟨hcz32_0, hcz32_1, hcz32_2, hfz32_0, hfz32_1, hfz32_2⟩ := bk3 BK790.out
     have hnb33 := NB782_781.out
     have hnc33 := NB781_782.out
     obtain ⟨hcz34_0, hcz34_1, hcz34_2, hfz34_0, hfz34_1, hfz34_2⟩ := bk3 BK782.out
     go_wp2
     refine bodyPost_ret (results_ct rfl _ _ gb782 46 #[.int .i64 t783, .slice Ao16 t784.length co16, .slice Ao17 t787.length co17] (0, 0) _ rfl (by (with_reducible repeat (first | refine blk_drewN ?_ _ | refine blk_drew ?_ | refine blk_alloc ?_ _)); refine blk_put (cs := #[.int .i64 t783, .slice Ao16 t784.length co16, .slice none 0 0]) ?_ 2 _ rfl; (with_reducible repeat (first | refine blk_drewN ?_ _ | refine blk_drew ?_ | refine blk_alloc ?_ _)); refine blk_put (cs := #[.int .i64 t783, .slice none 0 0, .slice none 0 0]) ?_ 1 _ rfl; (with_reducible repeat (first | refine blk_drewN ?_ _ | refine blk_drew ?_ | refine blk_alloc ?_ _)); refine blk_put (cs := #[.int .i64 0, .slice none 0 0, .slice none 0 0]) ?_ 0 _ rfl; exact pkK BK782.out) Try.underlying46 rfl (by kernel_rfl)) rfl ?_
     exact ⟨_, _, rfe, by (with_reducible repeat (first | apply Kd.R_alloc | apply Kd.R_drewN | apply Kd.R_drew)); exact Kd.R_mono (Kd.R_far (p := ⟨gb782, 2, none⟩) (Kd.R_far (p := ⟨gb782, 1, none⟩) (Kd.R_far (p := ⟨gb782, 0, none⟩) (Kd.R_types HO_791001.out BK782.out (by decide)) (fun _ hk => hk.2) (.int .i64 t783)) (fun _ hk => hk.2) (.slice Ao16 t784.length co16)) (fun _ hk => hk.2) (.slice Ao17 t787.length co17)) (fun _ hk => hk.1), by (with_reducible repeat (first | apply Kd.R_alloc | apply Kd.R_drewN | apply Kd.R_drew)); exact Kd.R_mono (Kd.R_far (p := ⟨gb782, 2, none⟩) (Kd.R_far (p := ⟨gb782, 1, none⟩) (Kd.R_far (p := ⟨gb782, 0, none⟩) (Kd.R_types HO_791002.out BK782.out (by decide)) (fun _ hk => hk.2) (.int .i64 t783)) (fun _ hk => hk.2) (.slice Ao16 t784.length co16)) (fun _ hk => hk.2) (.slice Ao17 t787.length co17)) (fun _ hk => hk.1), pkW HB.out⟩
    ·replace c29 := Bool.eq_false_iff.mpr c29
     subst c29
     replace H : ((spec_l2Less.f kj5 l0_1 a1).bind fun t794 => ((spec_l2Less.f kj5 l0_2 a1).bind fun t797 => (some (t783, t794, t797, 0)))) = some (r1, r2, r3, r4) := by rw [if_neg (show ¬ (false = true) by decide)] at H; exact H
     replace H := Option.bind_eq_some_iff.mp H
     obtain ⟨t794, A350, H⟩ := H
     replace H : ((spec_l2Less.f kj5 l0_2 a1).bind fun t797 => (some (t783, t794, t797, 0))) = some (r1, r2, r3, r4) := H
     have A35 := am A350
     clear A350
     replace H := Option.bind_eq_some_iff.mp H
     obtain ⟨t797, A360, H⟩ := H
     replace H : (some (t783, t794, t797, 0)) = some (r1, r2, r3, r4) := H
     have A36 := am A360
     clear A360
     simp only [Option.some.injEq, Prod.mk.injEq] at H
     obtain ⟨rfl, rfl, rfl, rfl⟩ := H
     have hnb37 := NB781_782.out
     have hnc37 := NB782_781.out
     have hnb38 := NB781_790.out
     have hnc38 := NB790_781.out
     obtain ⟨hcz39_0, hcz39_1, hcz39_2, hfz39_0, hfz39_1, hfz39_2⟩ := bk3 BK781.out
     go_wp2_with (first | ((with_reducible refine gate_callee (f := 77) rfl ?_); refine goesL_ (some 31) rfl rfl Try.func77 (by kernel_rfl) rfl #[.slice A0_1 l0_1.length c0_1, .int .i64 a1] rfl mpx ?_; (with_reducible refine (spec_l2Less.calls kj5 _ _ l0_1 a1 t794 _ ?side1 ?side2 A35.out).mono ?_); (case side1 => exact pkC (Kd.C_below HR0_1.out HB.out)); (case side2 => exact HC0_1.out); rintro e w40 ⟨v795, rfl, ho0, hb⟩; refine ⟨_, rfl, ?_⟩; have HO796 := am (Kd.R_lower (Kd.R_new' (Kd.R_new' ho0 (Kd.R_lt (pkR HO_791001.out))) (Kd.R_lt (pkR HO_791002.out))) (below_size (pkW HB.out))); replace HO_791001 := am (Kd.R_elder' (pkR HO_791001.out) (Kd.R_base ho0) hb); replace HO_791002 := am (Kd.R_elder' (pkR HO_791002.out) (Kd.R_base ho0) hb); replace BK781 := am (blk_below (pkK BK781.out) hb); replace BK782 := am (blk_below (pkK BK782.out) hb); replace BK790 := am (blk_below (pkK BK790.out) hb); replace HB := am (below_step (pkW HB.out) hb); (try clear hb ho0); obtain ⟨Ao41, co41, eo41⟩ := Kd.R_slice HO796.out; subst eo41; have hnb42 := NB790_782.out; have hnc42 := NB782_790.out; obtain ⟨hcz43_0, hcz43_1, hcz43_2, hfz43_0, hfz43_1, hfz43_2⟩ := bk3 BK790.out; obtain ⟨hcz44_0, hcz44_1, hcz44_2, hfz44_0, hfz44_1, hfz44_2⟩ := bk3 BK781.out) | ((with_reducible refine gate_callee (f := 77) rfl ?_); refine goesL_ (some 36) rfl rfl Try.func77 (by kernel_rfl) rfl #[.slice A0_2 l0_2.length c0_2, .int .i64 a1] rfl mpx ?_; (with_reducible refine (spec_l2Less.calls kj5 _ _ l0_2 a1 t797 _ ?side1 ?side2 A36.out).mono ?_); (case side1 => exact Kd.C_below HR0_2.out (pkW HB.out)); (case side2 => exact HC0_2.out); rintro e w45 ⟨v798, rfl, ho0, hb⟩; refine ⟨_, rfl, ?_⟩; have HO799 := am (Kd.R_lower (Kd.R_new' (Kd.R_new' (Kd.R_new' ho0 (Kd.R_lt (by (with_reducible repeat (first | apply Kd.R_alloc | apply Kd.R_drewN | apply Kd.R_drew)); exact (Kd.R_mono (Kd.R_far (p := ⟨gb790, 1, none⟩) (Kd.R_types HO_791001.out BK790.out (by decide)) (fun _ hk => hk.2) (.slice Ao41 t794.length co41)) (fun _ h_ => h_.1))))) (Kd.R_lt (by (with_reducible repeat (first | apply Kd.R_alloc | apply Kd.R_drewN | apply Kd.R_drew)); exact (Kd.R_mono (Kd.R_far (p := ⟨gb790, 1, none⟩) (Kd.R_types HO_791002.out BK790.out (by decide)) (fun _ hk => hk.2) (.slice Ao41 t794.length co41)) (fun _ h_ => h_.1))))) (Kd.R_lt (by (with_reducible repeat (first | apply Kd.R_alloc | apply Kd.R_drewN | apply Kd.R_drew)); exact (Kd.R_mono (Kd.R_far (p := ⟨gb790, 1, none⟩) (Kd.R_types HO796.out BK790.out (by decide)) (fun _ hk => hk.2) (.slice Ao41 t794.length co41)) (fun _ h_ => h_.1))))) (below_size (pkW HB.out))); replace HO_791001 := am (Kd.R_elder' (by (with_reducible repeat (first | apply Kd.R_alloc | apply Kd.R_drewN | apply Kd.R_drew)); exact (Kd.R_mono (Kd.R_far (p := ⟨gb790, 1, none⟩) (Kd.R_types HO_791001.out BK790.out (by decide)) (fun _ hk => hk.2) (.slice Ao41 t794.length co41)) (fun _ h_ => h_.1))) (Kd.R_base ho0) hb); replace HO_791002 := am (Kd.R_elder' (by (with_reducible repeat (first | apply Kd.R_alloc | apply Kd.R_drewN | apply Kd.R_drew)); exact (Kd.R_mono (Kd.R_far (p := ⟨gb790, 1, none⟩) (Kd.R_types HO_791002.out BK790.out (by decide)) (fun _ hk => hk.2) (.slice Ao41 t794.length co41)) (fun _ h_ => h_.1))) (Kd.R_base ho0) hb); replace HO796 := am (Kd.R_elder' (by (with_reducible repeat (first | apply Kd.R_alloc | apply Kd.R_drewN | apply Kd.R_drew)); exact (Kd.R_mono (Kd.R_far (p := ⟨gb790, 1, none⟩) (Kd.R_types HO796.out BK790.out (by decide)) (fun _ hk => hk.2) (.slice Ao41 t794.length co41)) (fun _ h_ => h_.1))) (Kd.R_base ho0) hb); replace BK781 := am (blk_below (g := gb781) (o := .cells #[.int .i64 a0_0, .slice A0_1 l0_1.length c0_1, .slice A0_2 l0_2.length c0_2] 46 (0, 0)) (by (with_reducible repeat (first | refine blk_drewN ?_ _ | refine blk_drew ?_ | refine blk_alloc ?_ _)); refine blk_far ?_ NB781_790.out _; exact pkK BK781.out) hb); replace BK782 := am (blk_below (g := gb782) (o := .cells #[.int .i64 0, .slice none 0 0, .slice none 0 0] 46 (0, 0)) (by (with_reducible repeat (first | refine blk_drewN ?_ _ | refine blk_drew ?_ | refine blk_alloc ?_ _)); refine blk_far ?_ NB782_790.out _; exact pkK BK782.out) hb); replace BK790 := am (blk_below (g := gb790) (o := .cells #[.int .i64 t783, .slice Ao41 t794.length co41, .slice Ao17 t787.length co17] 46 (0, 0)) (by (with_reducible repeat (first | refine blk_drewN ?_ _ | refine blk_drew ?_ | refine blk_alloc ?_ _)); refine blk_put (cs := #[.int .i64 t783, .slice Ao16 t784.length co16, .slice Ao17 t787.length co17]) ?_ 1 _ rfl; exact pkK BK790.out) hb); replace HB := am (below_step (pkW HB.out) hb); (try clear hb ho0); obtain ⟨Ao46, co46, eo46⟩ := Kd.R_slice HO799.out; subst eo46; obtain ⟨hcz47_0, hcz47_1, hcz47_2, hfz47_0, hfz47_1, hfz47_2⟩ := bk3 BK790.out; obtain ⟨hcz48_0, hcz48_1, hcz48_2, hfz48_0, hfz48_1, hfz48_2⟩ := bk3 BK782.out))
     refine bodyPost_ret (results_ct rfl _ _ gb782 46 #[.int .i64 t783, .slice Ao41 t794.length co41, .slice Ao46 t797.length co46] (0, 0) _ rfl (by (with_reducible repeat (first | refine blk_drewN ?_ _ | refine blk_drew ?_ | refine blk_alloc ?_ _)); refine blk_put (cs := #[.int .i64 t783, .slice Ao41 t794.length co41, .slice none 0 0]) ?_ 2 _ rfl; (with_reducible repeat (first | refine blk_drewN ?_ _ | refine blk_drew ?_ | refine blk_alloc ?_ _)); refine blk_put (cs := #[.int .i64 t783, .slice none 0 0, .slice none 0 0]) ?_ 1 _ rfl; (with_reducible repeat (first | refine blk_drewN ?_ _ | refine blk_drew ?_ | refine blk_alloc ?_ _)); refine blk_put (cs := #[.int .i64 0, .slice none 0 0, .slice none 0 0]) ?_ 0 _ rfl; (with_reducible repeat (first | refine blk_drewN ?_ _ | refine blk_drew ?_ | refine blk_alloc ?_ _)); refine blk_far ?_ NB782_790.out _; exact pkK BK782.out) Try.underlying46 rfl (by kernel_rfl)) rfl ?_
     exact ⟨_, _, rfe, by (with_reducible repeat (first | apply Kd.R_alloc | apply Kd.R_drewN | apply Kd.R_drew)); exact Kd.R_mono (Kd.R_far (p := ⟨gb782, 2, none⟩) (Kd.R_far (p := ⟨gb782, 1, none⟩) (Kd.R_far (p := ⟨gb782, 0, none⟩) (Kd.R_far (p := ⟨gb790, 2, none⟩) (Kd.R_types (Kd.R_types HO796.out BK790.out (by decide)) BK782.out (by decide)) (fun _ hk => hk.1.2) (.slice Ao46 t797.length co46)) (fun _ hk => hk.2) (.int .i64 t783)) (fun _ hk => hk.2) (.slice Ao41 t794.length co41)) (fun _ hk => hk.2) (.slice Ao46 t797.length co46)) (fun _ hk => hk.1.1.2), by (with_reducible repeat (first | apply Kd.R_alloc | apply Kd.R_drewN | apply Kd.R_drew)); exact Kd.R_mono (Kd.R_far (p := ⟨gb782, 2, none⟩) (Kd.R_far (p := ⟨gb782, 1, none⟩) (Kd.R_far (p := ⟨gb782, 0, none⟩) (Kd.R_far (p := ⟨gb790, 2, none⟩) (Kd.R_types (Kd.R_types HO799.out BK790.out (by decide)) BK782.out (by decide)) (fun _ hk => hk.1.2) (.slice Ao46 t797.length co46)) (fun _ hk => hk.2) (.int .i64 t783)) (fun _ hk => hk.2) (.slice Ao41 t794.length co41)) (fun _ hk => hk.2) (.slice Ao46 t797.length co46)) (fun _ hk => hk.1.1.2), pkW HB.out⟩
 ·replace c5 := Bool.eq_false_iff.mpr c5
  subst c5
  replace H : (some (t783, t784, t787, 1)) = some (r1, r2, r3, r4) := by rw [if_neg (show ¬ (false = true) by decide)] at H; exact H
  simp only [Option.some.injEq, Prod.mk.injEq] at H
  obtain ⟨rfl, rfl, rfl, rfl⟩ := H
  go_enter Try.func40, Try.ntmps40
  go_wp2_with (first | ((with_reducible refine gate_dst (N := 2) rfl ?_); refine box_event ?hg (N := 2) ?hd (cs := #[.int .i64 a0_0, .slice A0_1 l0_1.length c0_1, .slice A0_2 l0_2.length c0_2]) (t := 46) ?hr ?_; (case hd => rfl); (case hg => rfl); (case hr => first | (go_simp; done) | (go_simp; rfl)); intro gb781 hg w49 hbox hb; have BK781 := am (hbox); have GW781 := am ((by rw [hg]; exact (below_size (pkB HB.out)) : w.heap.size ≤ gb781)); have GE781 := am ((by rw [hg]; exact (below_size (pkB HB.out)) : w.heap.size ≤ gb781)); replace HB := am (below_step (pkB HB.out) hb); clear hb hbox hg) | ((with_reducible refine gate_dst (N := 4) rfl ?_); refine box_event ?hg (N := 4) ?hd (cs := #[.int .i64 0, .slice none 0 0, .slice none 0 0]) (t := 46) ?hr ?_; (case hd => rfl); (case hg => rfl); (case hr => first | (go_simp; done) | (go_simp; rfl)); intro gb782 hg w50 hbox hb; have BK782 := am (hbox); have GW782 := am ((by rw [hg]; exact (below_size (pkW HB.out)) : w.heap.size ≤ gb782)); have GE782 := am ((by rw [hg]; exact (below_size (pkW HB.out)) : w.heap.size ≤ gb782)); replace HB := am (below_step (pkW HB.out) hb); have NB781_782 := am ((by rw [hg]; exact Nat.ne_of_lt (blk_lt (g := gb781) (o := .cells #[.int .i64 a0_0, .slice A0_1 l0_1.length c0_1, .slice A0_2 l0_2.length c0_2] 46 (0, 0)) (pkK BK781.out)) : gb781 ≠ gb782)); have NB782_781 := am ((by rw [hg]; exact Nat.ne_of_gt (blk_lt (g := gb781) (o := .cells #[.int .i64 a0_0, .slice A0_1 l0_1.length c0_1, .slice A0_2 l0_2.length c0_2] 46 (0, 0)) (pkK BK781.out)) : gb782 ≠ gb781)); replace BK781 := am (blk_below (pkK BK781.out) hb); clear hb hbox hg; have hnb51 := NB781_782.out; have hnc51 := NB782_781.out; obtain ⟨hcz52_0, hcz52_1, hcz52_2, hfz52_0, hfz52_1, hfz52_2⟩ := bk3 BK781.out) | ((with_reducible refine gate_callee (f := 74) rfl ?_); refine goesL_ (some 8) rfl rfl Try.func74 (by kernel_rfl) rfl #[.agg #[.int .i64 a0_0, .slice A0_1 l0_1.length c0_1, .slice A0_2 l0_2.length c0_2]] rfl mpx ?_; (with_reducible refine (spec_l6CopyLatch.calls a0_0 _ _ l0_1 _ _ l0_2 t783 t784 t787 _ ?side1 ?side2 ?side3 ?side4 A3.out).mono ?_); (case side1 => exact pkC (Kd.C_below HR0_1.out HB.out)); (case side2 => exact HC0_1.out); (case side3 => exact pkC (Kd.C_below HR0_2.out HB.out)); (case side4 => exact HC0_2.out); rintro e w53 ⟨v785, v788, rfl, ho0, ho1, hb⟩; refine ⟨_, rfl, ?_⟩; have HO786 := am (Kd.R_lower ho0 (below_size (pkW HB.out))); have HO789 := am (Kd.R_lower ho1 (below_size (pkW HB.out))); replace BK781 := am (blk_below (pkK BK781.out) hb); replace BK782 := am (blk_below (pkK BK782.out) hb); replace HB := am (below_step (pkW HB.out) hb); (try clear hb ho0 ho1)) | ((with_reducible refine gate_dst (N := 6) rfl ?_); refine box_event ?hg (N := 6) ?hd (cs := #[.int .i64 0, .slice none 0 0, .slice none 0 0]) (t := 46) ?hr ?_; (case hd => rfl); (case hg => rfl); (case hr => first | (go_simp; done) | (go_simp; rfl)); intro gb790 hg w54 hbox hb; replace HO786 := am (Kd.R_below (pkR HO786.out) hb); replace HO789 := am (Kd.R_below (pkR HO789.out) hb); have BK790 := am (hbox); have GW790 := am ((by rw [hg]; exact (below_size (pkW HB.out)) : w.heap.size ≤ gb790)); have GE790 := am ((by rw [hg]; exact (below_size (pkW HB.out)) : w.heap.size ≤ gb790)); replace HB := am (below_step (pkW HB.out) hb); have NB781_790 := am ((by rw [hg]; exact Nat.ne_of_lt (blk_lt (g := gb781) (o := .cells #[.int .i64 a0_0, .slice A0_1 l0_1.length c0_1, .slice A0_2 l0_2.length c0_2] 46 (0, 0)) (pkK BK781.out)) : gb781 ≠ gb790)); have NB790_781 := am ((by rw [hg]; exact Nat.ne_of_gt (blk_lt (g := gb781) (o := .cells #[.int .i64 a0_0, .slice A0_1 l0_1.length c0_1, .slice A0_2 l0_2.length c0_2] 46 (0, 0)) (pkK BK781.out)) : gb790 ≠ gb781)); replace BK781 := am (blk_below (pkK BK781.out) hb); have NB782_790 := am ((by rw [hg]; exact Nat.ne_of_lt (blk_lt (g := gb782) (o := .cells #[.int .i64 0, .slice none 0 0, .slice none 0 0] 46 (0, 0)) (pkK BK782.out)) : gb782 ≠ gb790)); have NB790_782 := am ((by rw [hg]; exact Nat.ne_of_gt (blk_lt (g := gb782) (o := .cells #[.int .i64 0, .slice none 0 0, .slice none 0 0] 46 (0, 0)) (pkK BK782.out)) : gb790 ≠ gb782)); replace BK782 := am (blk_below (pkK BK782.out) hb); clear hb hbox hg; have hnb55 := NB790_781.out; have hnc55 := NB781_790.out; have hnb56 := NB790_782.out; have hnc56 := NB782_790.out; obtain ⟨hcz57_0, hcz57_1, hcz57_2, hfz57_0, hfz57_1, hfz57_2⟩ := bk3 BK790.out; obtain ⟨Ao58, co58, eo58⟩ := Kd.R_slice HO786.out; subst eo58; obtain ⟨Ao59, co59, eo59⟩ := Kd.R_slice HO789.out; subst eo59; obtain ⟨hcz60_0, hcz60_1, hcz60_2, hfz60_0, hfz60_1, hfz60_2⟩ := bk3 BK781.out) | ((with_reducible refine gate_callee (f := 24) rfl ?_); refine goesL_ (some 11) rfl rfl Try.func24 (by kernel_rfl) rfl #[.agg #[.int .i64 a0_0, .slice A0_1 l0_1.length c0_1, .slice A0_2 l0_2.length c0_2]] rfl mpx ?_; (with_reducible refine (spec_LatchOk.calls k a0_0 _ _ l0_1 _ _ l0_2 false _ ?side1 ?side2 ?side3 ?side4 A4.out).mono ?_); (case side1 => exact Kd.C_below HR0_1.out (pkW HB.out)); (case side2 => exact HC0_1.out); (case side3 => exact Kd.C_below HR0_2.out (pkW HB.out)); (case side4 => exact HC0_2.out); rintro e w61 ⟨rfl, hb⟩; refine ⟨_, rfl, ?_⟩; replace HO786 := am (Kd.R_below (by (with_reducible repeat (first | apply Kd.R_alloc | apply Kd.R_drewN | apply Kd.R_drew)); exact (Kd.R_mono (Kd.R_far (p := ⟨gb790, 2, none⟩) (Kd.R_far (p := ⟨gb790, 1, none⟩) (Kd.R_far (p := ⟨gb790, 0, none⟩) (Kd.R_types HO786.out BK790.out (by decide)) (fun _ hk => hk.2) (.int .i64 t783)) (fun _ hk => hk.2) (.slice Ao58 t784.length co58)) (fun _ hk => hk.2) (.slice Ao59 t787.length co59)) (fun _ h_ => h_.1))) hb); replace HO789 := am (Kd.R_below (by (with_reducible repeat (first | apply Kd.R_alloc | apply Kd.R_drewN | apply Kd.R_drew)); exact (Kd.R_mono (Kd.R_far (p := ⟨gb790, 2, none⟩) (Kd.R_far (p := ⟨gb790, 1, none⟩) (Kd.R_far (p := ⟨gb790, 0, none⟩) (Kd.R_types HO789.out BK790.out (by decide)) (fun _ hk => hk.2) (.int .i64 t783)) (fun _ hk => hk.2) (.slice Ao58 t784.length co58)) (fun _ hk => hk.2) (.slice Ao59 t787.length co59)) (fun _ h_ => h_.1))) hb); replace BK781 := am (blk_below (g := gb781) (o := .cells #[.int .i64 a0_0, .slice A0_1 l0_1.length c0_1, .slice A0_2 l0_2.length c0_2] 46 (0, 0)) (by (with_reducible repeat (first | refine blk_drewN ?_ _ | refine blk_drew ?_ | refine blk_alloc ?_ _)); refine blk_far ?_ NB781_790.out _; (with_reducible repeat (first | refine blk_drewN ?_ _ | refine blk_drew ?_ | refine blk_alloc ?_ _)); refine blk_far ?_ NB781_790.out _; (with_reducible repeat (first | refine blk_drewN ?_ _ | refine blk_drew ?_ | refine blk_alloc ?_ _)); refine blk_far ?_ NB781_790.out _; exact pkK BK781.out) hb); replace BK782 := am (blk_below (g := gb782) (o := .cells #[.int .i64 0, .slice none 0 0, .slice none 0 0] 46 (0, 0)) (by (with_reducible repeat (first | refine blk_drewN ?_ _ | refine blk_drew ?_ | refine blk_alloc ?_ _)); refine blk_far ?_ NB782_790.out _; (with_reducible repeat (first | refine blk_drewN ?_ _ | refine blk_drew ?_ | refine blk_alloc ?_ _)); refine blk_far ?_ NB782_790.out _; (with_reducible repeat (first | refine blk_drewN ?_ _ | refine blk_drew ?_ | refine blk_alloc ?_ _)); refine blk_far ?_ NB782_790.out _; exact pkK BK782.out) hb); replace BK790 := am (blk_below (g := gb790) (o := .cells #[.int .i64 t783, .slice Ao58 t784.length co58, .slice Ao59 t787.length co59] 46 (0, 0)) (by (with_reducible repeat (first | refine blk_drewN ?_ _ | refine blk_drew ?_ | refine blk_alloc ?_ _)); refine blk_put (cs := #[.int .i64 t783, .slice Ao58 t784.length co58, .slice none 0 0]) ?_ 2 _ rfl; (with_reducible repeat (first | refine blk_drewN ?_ _ | refine blk_drew ?_ | refine blk_alloc ?_ _)); refine blk_put (cs := #[.int .i64 t783, .slice none 0 0, .slice none 0 0]) ?_ 1 _ rfl; (with_reducible repeat (first | refine blk_drewN ?_ _ | refine blk_drew ?_ | refine blk_alloc ?_ _)); refine blk_put (cs := #[.int .i64 0, .slice none 0 0, .slice none 0 0]) ?_ 0 _ rfl; exact pkK BK790.out) hb); replace HB := am (below_step (pkW HB.out) hb); (try clear hb); obtain ⟨hcz62_0, hcz62_1, hcz62_2, hfz62_0, hfz62_1, hfz62_2⟩ := bk3 BK790.out; obtain ⟨hcz63_0, hcz63_1, hcz63_2, hfz63_0, hfz63_1, hfz63_2⟩ := bk3 BK782.out))
  refine bodyPost_ret (results_ct rfl _ _ gb782 46 #[.int .i64 t783, .slice Ao58 t784.length co58, .slice Ao59 t787.length co59] (0, 0) _ rfl (by (with_reducible repeat (first | refine blk_drewN ?_ _ | refine blk_drew ?_ | refine blk_alloc ?_ _)); refine blk_put (cs := #[.int .i64 t783, .slice Ao58 t784.length co58, .slice none 0 0]) ?_ 2 _ rfl; (with_reducible repeat (first | refine blk_drewN ?_ _ | refine blk_drew ?_ | refine blk_alloc ?_ _)); refine blk_put (cs := #[.int .i64 t783, .slice none 0 0, .slice none 0 0]) ?_ 1 _ rfl; (with_reducible repeat (first | refine blk_drewN ?_ _ | refine blk_drew ?_ | refine blk_alloc ?_ _)); refine blk_put (cs := #[.int .i64 0, .slice none 0 0, .slice none 0 0]) ?_ 0 _ rfl; exact pkK BK782.out) Try.underlying46 rfl (by kernel_rfl)) rfl ?_
  exact ⟨_, _, rfe, by (with_reducible repeat (first | apply Kd.R_alloc | apply Kd.R_drewN | apply Kd.R_drew)); exact Kd.R_mono (Kd.R_far (p := ⟨gb782, 2, none⟩) (Kd.R_far (p := ⟨gb782, 1, none⟩) (Kd.R_far (p := ⟨gb782, 0, none⟩) (Kd.R_types HO786.out BK782.out (by decide)) (fun _ hk => hk.2) (.int .i64 t783)) (fun _ hk => hk.2) (.slice Ao58 t784.length co58)) (fun _ hk => hk.2) (.slice Ao59 t787.length co59)) (fun _ hk => hk.1), by (with_reducible repeat (first | apply Kd.R_alloc | apply Kd.R_drewN | apply Kd.R_drew)); exact Kd.R_mono (Kd.R_far (p := ⟨gb782, 2, none⟩) (Kd.R_far (p := ⟨gb782, 1, none⟩) (Kd.R_far (p := ⟨gb782, 0, none⟩) (Kd.R_types HO789.out BK782.out (by decide)) (fun _ hk => hk.2) (.int .i64 t783)) (fun _ hk => hk.2) (.slice Ao58 t784.length co58)) (fun _ hk => hk.2) (.slice Ao59 t787.length co59)) (fun _ hk => hk.1), pkW HB.out⟩
end Go.Proofs.Ytffcphplnilokaa.Z
