/- The Go functions impl_QuitLatch as Lean functions, each with a proof that its code comes to just these answers; conditions: those of each theorem. -/
import Derived.Test.YtffcphplnilokaaZx0
import Derived.Test.YtffcphplnilokaaZx2
import Derived.Test.YtffcphplnilokaaZx11
import Derived.Test.YtffcphplnilokaaZx22
import Derived.Test.YtffcphplnilokaaZx25
namespace Go.Proofs.Ytffcphplnilokaa.Z
open Go.RowKit Go.Proofs.YtffcphplnilokaaW.PrintWords Go.Proofs.YtffcphplnilokaaW.PrintLast Go.Proofs.YtffcphplnilokaaW.PrintMore
attribute [local go_sem] max2_int min2_int max_two min_two max_three min_three max_four min_four   -- for this text's walks alone
set_option linter.unusedVariables false
set_option linter.unusedSimpArgs false
def impl_QuitLatch.j0 : Nat → Int → Bool → Int → List Int → List Int → Int → List Int → List Int → Option (Int × List Int × List Int × Int)
 | 0, _, _, _, _, _, _, _, _ => none
 | k + 1, x1, x14, x801000, x801001, x801002, x810000, x810001, x810002 => if x14 = true then (some (x810000, x810001, x810002, 3)) else ((impl_without.f k x801001 x1).bind fun t813 => ((impl_without.f k x801002 x1).bind fun t816 => (some (x810000, t813, t816, 0))))
def impl_QuitLatch.f (k : Nat) (a0_0 : Int) (l0_1 : List Int) (l0_2 : List Int) (a1 : Int) : Option (Int × List Int × List Int × Int) := (impl_copyLatch.f a0_0 l0_1 l0_2).bind fun bt802 => ((impl_LatchOk.f k a0_0 l0_1 l0_2).bind fun t810 => (if t810 = true then ((slices_Contains_int_int.f k l0_1 a1).bind fun t811 => (if t811 = true then (impl_QuitLatch.j0 k a1 false a0_0 l0_1 l0_2 bt802.1 bt802.2.1 bt802.2.2) else ((slices_Contains_int_int.f k l0_2 a1).bind fun t812 => (impl_QuitLatch.j0 k a1 (!t812) a0_0 l0_1 l0_2 bt802.1 bt802.2.1 bt802.2.2)))) else (some (bt802.1, bt802.2.1, bt802.2.2, 1))))
theorem impl_QuitLatch.mono_l : ∀ k, (∀ y0 y1 y2 y3 y4 y5 y6 y7, LeO (impl_QuitLatch.j0 k y0 y1 y2 y3 y4 y5 y6 y7) (impl_QuitLatch.j0 (k + 1) y0 y1 y2 y3 y4 y5 y6 y7))
 | 0 => fun _ _ _ _ _ _ _ _ r h => by simp [impl_QuitLatch.j0] at h
 | k + 1 => by
  have ih0 := impl_QuitLatch.mono_l k
  ·intro y0 y1 y2 y3 y4 y5 y6 y7
   unfold impl_QuitLatch.j0
   repeat' first
   | (with_reducible exact ih0 _ _ _ _ _ _ _ _)
   | (with_reducible exact impl_LatchOk.mono _ _ _ _)
   | (with_reducible exact impl_without.mono _ _ _)
   | (with_reducible exact slices_Contains_int_int.mono _ _ _)
   | (with_reducible exact LeO.refl _)
   | (with_reducible exact LeO.none _)
   | (with_reducible refine LeO.ite ?_ ?_)
   | (with_reducible refine LeO.bind ?_ (fun _ => ?_))
theorem impl_QuitLatch.mono : ∀ a0 a1 a2 a3 k, LeO (impl_QuitLatch.f k a0 a1 a2 a3) (impl_QuitLatch.f (k + 1) a0 a1 a2 a3) := by
 intro a0 a1 a2 a3 k
 have ih0 := impl_QuitLatch.mono_l k
 unfold impl_QuitLatch.f
 repeat' first
   | (with_reducible exact ih0 _ _ _ _ _ _ _ _)
   | (with_reducible exact impl_LatchOk.mono _ _ _ _)
   | (with_reducible exact impl_without.mono _ _ _)
   | (with_reducible exact slices_Contains_int_int.mono _ _ _)
   | (with_reducible exact LeO.refl _)
   | (with_reducible exact LeO.none _)
   | (with_reducible refine LeO.ite ?_ ?_)
   | (with_reducible refine LeO.bind ?_ (fun _ => ?_))
set_option maxHeartbeats 8000000 in
set_option maxRecDepth 100000 in
theorem impl_QuitLatch.calls (k : Nat) (a0_0 : Int) (A0_1 : Option Addr) (c0_1 : Nat) (l0_1 : List Int) (A0_2 : Option Addr) (c0_2 : Nat) (l0_2 : List Int) (a1 : Int) (r1 : Int) (r2 : List Int) (r3 : List Int) (r4 : Int) (w : World) (hr0_1 : Kd.C (Kd.int .i64) w A0_1 l0_1.length l0_1) (hc0_1 : l0_1.length ≤ c0_1) (hr0_2 : Kd.C (Kd.int .i64) w A0_2 l0_2.length l0_2) (hc0_2 : l0_2.length ≤ c0_2) (h : impl_QuitLatch.f k a0_0 l0_1 l0_2 a1 = some (r1, r2, r3, r4)) :
  Calls Try.prog 41 #[.agg #[.int .i64 a0_0, .slice A0_1 l0_1.length c0_1, .slice A0_2 l0_2.length c0_2], .int .i64 a1] w fun e w' => ∃ v1_ v2_ : Value, e = .returned (.tuple #[.agg #[.int .i64 r1, v1_, v2_], .int .i64 r4]) ∧ Kd.R (Kd.int .i64) 3 w' w.heap.size (fun k_ => some k_ ≠ (v2_ : Value).ownBlock) v1_ r2 ∧ Kd.R (Kd.int .i64) 3 w' w.heap.size (fun k_ => some k_ ≠ (v1_ : Value).ownBlock) v2_ r3 ∧ Below w.heap.size w w' := by
 have hu46 := Try.underlying46
 have HR0_1 := am hr0_1
 have HC0_1 := am hc0_1
 clear hr0_1 hc0_1
 have HR0_2 := am hr0_2
 have HC0_2 := am hc0_2
 clear hr0_2 hc0_2
 have HB := am (Below.refl w.heap.size w)
 have H : ((impl_copyLatch.f a0_0 l0_1 l0_2).bind fun bt802 => ((impl_LatchOk.f k a0_0 l0_1 l0_2).bind fun t810 => (if t810 = true then ((slices_Contains_int_int.f k l0_1 a1).bind fun t811 => (if t811 = true then (impl_QuitLatch.j0 k a1 false a0_0 l0_1 l0_2 bt802.1 bt802.2.1 bt802.2.2) else ((slices_Contains_int_int.f k l0_2 a1).bind fun t812 => (impl_QuitLatch.j0 k a1 (!t812) a0_0 l0_1 l0_2 bt802.1 bt802.2.1 bt802.2.2)))) else (some (bt802.1, bt802.2.1, bt802.2.2, 1))))) = some (r1, r2, r3, r4) := h
 clear h
 replace H := Option.bind_eq_some_iff.mp H
 obtain ⟨⟨t802, t803, t806⟩, A30, H⟩ := H
 replace H : ((impl_LatchOk.f k a0_0 l0_1 l0_2).bind fun t810 => (if t810 = true then ((slices_Contains_int_int.f k l0_1 a1).bind fun t811 => (if t811 = true then (impl_QuitLatch.j0 k a1 false a0_0 l0_1 l0_2 t802 t803 t806) else ((slices_Contains_int_int.f k l0_2 a1).bind fun t812 => (impl_QuitLatch.j0 k a1 (!t812) a0_0 l0_1 l0_2 t802 t803 t806)))) else (some (t802, t803, t806, 1)))) = some (r1, r2, r3, r4) := H
 have A3 := am A30
 clear A30
 replace H := Option.bind_eq_some_iff.mp H
 obtain ⟨t810, A40, H⟩ := H
 replace H : (if t810 = true then ((slices_Contains_int_int.f k l0_1 a1).bind fun t811 => (if t811 = true then (impl_QuitLatch.j0 k a1 false a0_0 l0_1 l0_2 t802 t803 t806) else ((slices_Contains_int_int.f k l0_2 a1).bind fun t812 => (impl_QuitLatch.j0 k a1 (!t812) a0_0 l0_1 l0_2 t802 t803 t806)))) else (some (t802, t803, t806, 1))) = some (r1, r2, r3, r4) := H
 have A4 := am A40
 clear A40
 by_cases c5 : t810 = true
 ·subst c5
  replace H : ((slices_Contains_int_int.f k l0_1 a1).bind fun t811 => (if t811 = true then (impl_QuitLatch.j0 k a1 false a0_0 l0_1 l0_2 t802 t803 t806) else ((slices_Contains_int_int.f k l0_2 a1).bind fun t812 => (impl_QuitLatch.j0 k a1 (!t812) a0_0 l0_1 l0_2 t802 t803 t806)))) = some (r1, r2, r3, r4) := by rw [if_pos rfl] at H; exact H
  have HC6 := am H
  clear H
  go_enter Try.func41, Try.ntmps41
  go_upto_region 4 with (first | ((with_reducible refine gate_dst (N := 2) rfl ?_); refine box_event ?hg (N := 2) ?hd (cs := #[.int .i64 a0_0, .slice A0_1 l0_1.length c0_1, .slice A0_2 l0_2.length c0_2]) (t := 46) ?hr ?_; (case hd => rfl); (case hg => rfl); (case hr => first | (go_simp; done) | (go_simp; rfl)); intro gb800 hg w7 hbox hb; have BK800 := am (hbox); have GW800 := am ((by rw [hg]; exact (below_size (pkB HB.out)) : w.heap.size ≤ gb800)); have GE800 := am ((by rw [hg]; exact (below_size (pkB HB.out)) : w.heap.size ≤ gb800)); replace HB := am (below_step (pkB HB.out) hb); clear hb hbox hg) | ((with_reducible refine gate_dst (N := 4) rfl ?_); refine box_event ?hg (N := 4) ?hd (cs := #[.int .i64 0, .slice none 0 0, .slice none 0 0]) (t := 46) ?hr ?_; (case hd => rfl); (case hg => rfl); (case hr => first | (go_simp; done) | (go_simp; rfl)); intro gb801 hg w8 hbox hb; have BK801 := am (hbox); have GW801 := am ((by rw [hg]; exact (below_size (pkW HB.out)) : w.heap.size ≤ gb801)); have GE801 := am ((by rw [hg]; exact (below_size (pkW HB.out)) : w.heap.size ≤ gb801)); replace HB := am (below_step (pkW HB.out) hb); have NB800_801 := am ((by rw [hg]; exact Nat.ne_of_lt (blk_lt (g := gb800) (o := .cells #[.int .i64 a0_0, .slice A0_1 l0_1.length c0_1, .slice A0_2 l0_2.length c0_2] 46 (0, 0)) (pkK BK800.out)) : gb800 ≠ gb801)); have NB801_800 := am ((by rw [hg]; exact Nat.ne_of_gt (blk_lt (g := gb800) (o := .cells #[.int .i64 a0_0, .slice A0_1 l0_1.length c0_1, .slice A0_2 l0_2.length c0_2] 46 (0, 0)) (pkK BK800.out)) : gb801 ≠ gb800)); replace BK800 := am (blk_below (pkK BK800.out) hb); clear hb hbox hg; have hnb9 := NB800_801.out; have hnc9 := NB801_800.out; obtain ⟨hcz10_0, hcz10_1, hcz10_2, hfz10_0, hfz10_1, hfz10_2⟩ := bk3 BK800.out) | ((with_reducible refine gate_callee (f := 70) rfl ?_); refine goesL_ (some 8) rfl rfl Try.func70 (by kernel_rfl) rfl #[.agg #[.int .i64 a0_0, .slice A0_1 l0_1.length c0_1, .slice A0_2 l0_2.length c0_2]] rfl mpx ?_; (with_reducible refine (impl_copyLatch.calls a0_0 _ _ l0_1 _ _ l0_2 t802 t803 t806 _ ?side1 ?side2 ?side3 ?side4 A3.out).mono ?_); (case side1 => exact pkC (Kd.C_below HR0_1.out HB.out)); (case side2 => exact HC0_1.out); (case side3 => exact pkC (Kd.C_below HR0_2.out HB.out)); (case side4 => exact HC0_2.out); rintro e w11 ⟨v804, v807, rfl, ho0, ho1, hb⟩; refine ⟨_, rfl, ?_⟩; have HO805 := am (Kd.R_lower ho0 (below_size (pkW HB.out))); have HO808 := am (Kd.R_lower ho1 (below_size (pkW HB.out))); replace BK800 := am (blk_below (pkK BK800.out) hb); replace BK801 := am (blk_below (pkK BK801.out) hb); replace HB := am (below_step (pkW HB.out) hb); (try clear hb ho0 ho1)) | ((with_reducible refine gate_dst (N := 6) rfl ?_); refine box_event ?hg (N := 6) ?hd (cs := #[.int .i64 0, .slice none 0 0, .slice none 0 0]) (t := 46) ?hr ?_; (case hd => rfl); (case hg => rfl); (case hr => first | (go_simp; done) | (go_simp; rfl)); intro gb809 hg w12 hbox hb; replace HO805 := am (Kd.R_below (pkR HO805.out) hb); replace HO808 := am (Kd.R_below (pkR HO808.out) hb); have BK809 := am (hbox); have GW809 := am ((by rw [hg]; exact (below_size (pkW HB.out)) : w.heap.size ≤ gb809)); have GE809 := am ((by rw [hg]; exact (below_size (pkW HB.out)) : w.heap.size ≤ gb809)); replace HB := am (below_step (pkW HB.out) hb); have NB800_809 := am ((by rw [hg]; exact Nat.ne_of_lt (blk_lt (g := gb800) (o := .cells #[.int .i64 a0_0, .slice A0_1 l0_1.length c0_1, .slice A0_2 l0_2.length c0_2] 46 (0, 0)) (pkK BK800.out)) : gb800 ≠ gb809)); have NB809_800 := am ((by rw [hg]; exact Nat.ne_of_gt (blk_lt (g := gb800) (o := .cells #[.int .i64 a0_0, .slice A0_1 l0_1.length c0_1, .slice A0_2 l0_2.length c0_2] 46 (0, 0)) (pkK BK800.out)) : gb809 ≠ gb800)); replace BK800 := am (blk_below (pkK BK800.out) hb); have NB801_809 := am ((by rw [hg]; exact Nat.ne_of_lt (blk_lt (g := gb801) (o := .cells #[.int .i64 0, .slice none 0 0, .slice none 0 0] 46 (0, 0)) (pkK BK801.out)) : gb801 ≠ gb809)); have NB809_801 := am ((by rw [hg]; exact Nat.ne_of_gt (blk_lt (g := gb801) (o := .cells #[.int .i64 0, .slice none 0 0, .slice none 0 0] 46 (0, 0)) (pkK BK801.out)) : gb809 ≠ gb801)); replace BK801 := am (blk_below (pkK BK801.out) hb); clear hb hbox hg; have hnb13 := NB809_800.out; have hnc13 := NB800_809.out; have hnb14 := NB809_801.out; have hnc14 := NB801_809.out; obtain ⟨hcz15_0, hcz15_1, hcz15_2, hfz15_0, hfz15_1, hfz15_2⟩ := bk3 BK809.out; obtain ⟨Ao16, co16, eo16⟩ := Kd.R_slice HO805.out; subst eo16; obtain ⟨Ao17, co17, eo17⟩ := Kd.R_slice HO808.out; subst eo17; obtain ⟨hcz18_0, hcz18_1, hcz18_2, hfz18_0, hfz18_1, hfz18_2⟩ := bk3 BK800.out) | ((with_reducible refine gate_callee (f := 26) rfl ?_); refine goesL_ (some 11) rfl rfl Try.func26 (by kernel_rfl) rfl #[.agg #[.int .i64 a0_0, .slice A0_1 l0_1.length c0_1, .slice A0_2 l0_2.length c0_2]] rfl mpx ?_; (with_reducible refine (impl_LatchOk.calls k a0_0 _ _ l0_1 _ _ l0_2 true _ ?side1 ?side2 ?side3 ?side4 A4.out).mono ?_); (case side1 => exact Kd.C_below HR0_1.out (pkW HB.out)); (case side2 => exact HC0_1.out); (case side3 => exact Kd.C_below HR0_2.out (pkW HB.out)); (case side4 => exact HC0_2.out); rintro e w19 ⟨rfl, hb⟩; refine ⟨_, rfl, ?_⟩; replace HO805 := am (Kd.R_below (by (with_reducible repeat (first | apply Kd.R_alloc | apply Kd.R_drewN | apply Kd.R_drew)); exact (Kd.R_mono (Kd.R_far (p := ⟨gb809, 2, none⟩) (Kd.R_far (p := ⟨gb809, 1, none⟩) (Kd.R_far (p := ⟨gb809, 0, none⟩) (Kd.R_types HO805.out BK809.out (by decide)) (fun _ hk => hk.2) (.int .i64 t802)) (fun _ hk => hk.2) (.slice Ao16 t803.length co16)) (fun _ hk => hk.2) (.slice Ao17 t806.length co17)) (fun _ h_ => h_.1))) hb); replace HO808 := am (Kd.R_below (by (with_reducible repeat (first | apply Kd.R_alloc | apply Kd.R_drewN | apply Kd.R_drew)); exact (Kd.R_mono (Kd.R_far (p := ⟨gb809, 2, none⟩) (Kd.R_far (p := ⟨gb809, 1, none⟩) (Kd.R_far (p := ⟨gb809, 0, none⟩) (Kd.R_types HO808.out BK809.out (by decide)) (fun _ hk => hk.2) (.int .i64 t802)) (fun _ hk => hk.2) (.slice Ao16 t803.length co16)) (fun _ hk => hk.2) (.slice Ao17 t806.length co17)) (fun _ h_ => h_.1))) hb); replace BK800 := am (blk_below (g := gb800) (o := .cells #[.int .i64 a0_0, .slice A0_1 l0_1.length c0_1, .slice A0_2 l0_2.length c0_2] 46 (0, 0)) (by (with_reducible repeat (first | refine blk_drewN ?_ _ | refine blk_drew ?_ | refine blk_alloc ?_ _)); refine blk_far ?_ NB800_809.out _; (with_reducible repeat (first | refine blk_drewN ?_ _ | refine blk_drew ?_ | refine blk_alloc ?_ _)); refine blk_far ?_ NB800_809.out _; (with_reducible repeat (first | refine blk_drewN ?_ _ | refine blk_drew ?_ | refine blk_alloc ?_ _)); refine blk_far ?_ NB800_809.out _; exact pkK BK800.out) hb); replace BK801 := am (blk_below (g := gb801) (o := .cells #[.int .i64 0, .slice none 0 0, .slice none 0 0] 46 (0, 0)) (by (with_reducible repeat (first | refine blk_drewN ?_ _ | refine blk_drew ?_ | refine blk_alloc ?_ _)); refine blk_far ?_ NB801_809.out _; (with_reducible repeat (first | refine blk_drewN ?_ _ | refine blk_drew ?_ | refine blk_alloc ?_ _)); refine blk_far ?_ NB801_809.out _; (with_reducible repeat (first | refine blk_drewN ?_ _ | refine blk_drew ?_ | refine blk_alloc ?_ _)); refine blk_far ?_ NB801_809.out _; exact pkK BK801.out) hb); replace BK809 := am (blk_below (g := gb809) (o := .cells #[.int .i64 t802, .slice Ao16 t803.length co16, .slice Ao17 t806.length co17] 46 (0, 0)) (by (with_reducible repeat (first | refine blk_drewN ?_ _ | refine blk_drew ?_ | refine blk_alloc ?_ _)); refine blk_put (cs := #[.int .i64 t802, .slice Ao16 t803.length co16, .slice none 0 0]) ?_ 2 _ rfl; (with_reducible repeat (first | refine blk_drewN ?_ _ | refine blk_drew ?_ | refine blk_alloc ?_ _)); refine blk_put (cs := #[.int .i64 t802, .slice none 0 0, .slice none 0 0]) ?_ 1 _ rfl; (with_reducible repeat (first | refine blk_drewN ?_ _ | refine blk_drew ?_ | refine blk_alloc ?_ _)); refine blk_put (cs := #[.int .i64 0, .slice none 0 0, .slice none 0 0]) ?_ 0 _ rfl; exact pkK BK809.out) hb); replace HB := am (below_step (pkW HB.out) hb); (try clear hb)))
  (try simp only [Act.put, List.setIfInBounds_toArray, List.set_cons_zero, List.set_cons_succ])
  go_cut [14] (fun v14 wc => ∃ (kq : Nat) (x14_5 : Bool), v14 = .bool x14_5 ∧ Aside0 (impl_QuitLatch.j0 kq a1 x14_5 a0_0 l0_1 l0_2 t802 t803 t806 = some (r1, r2, r3, r4)) ∧ Aside0 (kq ≤ k) ∧ Aside0 (Kd.R (Kd.int .i64) 3 wc w.heap.size (fun k_ => some k_ ≠ ((.slice Ao17 t806.length co17) : Value).ownBlock) (.slice Ao16 t803.length co16) t803) ∧ Aside0 (Kd.R (Kd.int .i64) 3 wc w.heap.size (fun k_ => some k_ ≠ ((.slice Ao16 t803.length co16) : Value).ownBlock) (.slice Ao17 t806.length co17) t806) ∧ Aside0 (wc.heap[gb800]? = some (.cells #[.int .i64 a0_0, (.slice A0_1 l0_1.length c0_1), (.slice A0_2 l0_2.length c0_2)] 46 (0, 0))) ∧ Aside0 (wc.heap[gb801]? = some (.cells #[.int .i64 0, (.slice none 0 0), (.slice none 0 0)] 46 (0, 0))) ∧ Aside0 (wc.heap[gb809]? = some (.cells #[.int .i64 t802, (.slice Ao16 t803.length co16), (.slice Ao17 t806.length co17)] 46 (0, 0))) ∧ Aside0 (Below w.heap.size w wc))
  case first =>
   have H := HC6.out
   clear HC6
   replace H := Option.bind_eq_some_iff.mp H
   obtain ⟨t811, A200, H⟩ := H
   replace H : (if t811 = true then (impl_QuitLatch.j0 k a1 false a0_0 l0_1 l0_2 t802 t803 t806) else ((slices_Contains_int_int.f k l0_2 a1).bind fun t812 => (impl_QuitLatch.j0 k a1 (!t812) a0_0 l0_1 l0_2 t802 t803 t806))) = some (r1, r2, r3, r4) := H
   have A20 := am A200
   clear A200
   by_cases c21 : t811 = true
   ·subst c21
    replace H : (impl_QuitLatch.j0 k a1 false a0_0 l0_1 l0_2 t802 t803 t806) = some (r1, r2, r3, r4) := by rw [if_pos rfl] at H; exact H
    have H' := am H
    clear H
    have hnb22 := NB800_801.out
    have hnc22 := NB801_800.out
    have hnb23 := NB800_809.out
    have hnc23 := NB809_800.out
    obtain ⟨hcz24_0, hcz24_1, hcz24_2, hfz24_0, hfz24_1, hfz24_2⟩ := bk3 BK800.out
    go_wp2_with (first | ((with_reducible refine gate_callee (f := 59) rfl ?_); refine goesL_ (some 18) rfl rfl Try.func59 (by kernel_rfl) rfl #[.slice A0_1 l0_1.length c0_1, .int .i64 a1] rfl mpx ?_; (with_reducible refine (slices_Contains_int_int.calls k _ _ l0_1 a1 true _ ?side1 ?side2 A20.out).mono ?_); (case side1 => exact pkC (Kd.C_below HR0_1.out HB.out)); (case side2 => exact HC0_1.out); rintro e w' ⟨rfl, ⟨nd, rfl⟩⟩; refine ⟨_, rfl, ?_⟩))
    go_meet
    case rel => exact ⟨_, (false), rfx, H', ⟨by first | omega | exact Nat.le_refl _⟩, ⟨pkR HO805.out⟩, ⟨pkR HO808.out⟩, ⟨pkK BK800.out⟩, ⟨pkK BK801.out⟩, ⟨pkK BK809.out⟩, ⟨pkW HB.out⟩⟩
   ·replace c21 := Bool.eq_false_iff.mpr c21
    subst c21
    replace H : ((slices_Contains_int_int.f k l0_2 a1).bind fun t812 => (impl_QuitLatch.j0 k a1 (!t812) a0_0 l0_1 l0_2 t802 t803 t806)) = some (r1, r2, r3, r4) := by rw [if_neg (show ¬ (false = true) by decide)] at H; exact H
    replace H := Option.bind_eq_some_iff.mp H
    obtain ⟨t812, A250, H⟩ := H
    replace H : (impl_QuitLatch.j0 k a1 (!t812) a0_0 l0_1 l0_2 t802 t803 t806) = some (r1, r2, r3, r4) := H
    have A25 := am A250
    clear A250
    have H' := am H
    clear H
    have hnb26 := NB800_801.out
    have hnc26 := NB801_800.out
    have hnb27 := NB800_809.out
    have hnc27 := NB809_800.out
    obtain ⟨hcz28_0, hcz28_1, hcz28_2, hfz28_0, hfz28_1, hfz28_2⟩ := bk3 BK800.out
    go_wp2_with (first | ((with_reducible refine gate_callee (f := 59) rfl ?_); refine goesL_ (some 18) rfl rfl Try.func59 (by kernel_rfl) rfl #[.slice A0_1 l0_1.length c0_1, .int .i64 a1] rfl mpx ?_; (with_reducible refine (slices_Contains_int_int.calls k _ _ l0_1 a1 false _ ?side1 ?side2 A20.out).mono ?_); (case side1 => exact pkC (Kd.C_below HR0_1.out HB.out)); (case side2 => exact HC0_1.out); rintro e w' ⟨rfl, ⟨nd, rfl⟩⟩; refine ⟨_, rfl, ?_⟩) | (go_at_call 59; (with_reducible refine (slices_Contains_int_int.calls k _ _ l0_2 a1 t812 _ ?side1 ?side2 A25.out).mono ?_); (case side1 => repeat (first | exact (Kd.C_below HR0_2.out (pkW HB.out)) | (with_reducible refine Kd.C_alloc ?_ _) | (with_reducible refine Kd.C_drewN ?_ _) | (with_reducible refine Kd.C_drew ?_))); (case side2 => exact HC0_2.out); rintro e w' ⟨rfl, ⟨nd, rfl⟩⟩))
    go_meet
    case rel => exact ⟨_, (!t812), rfx, H', ⟨by first | omega | exact Nat.le_refl _⟩, ⟨pkR HO805.out⟩, ⟨pkR HO808.out⟩, ⟨pkK BK800.out⟩, ⟨pkK BK801.out⟩, ⟨pkK BK809.out⟩, ⟨pkW HB.out⟩⟩
  case rest =>
   clear HC6
   try clear c1
   try clear c2
   try clear p2
   try clear c4
   try clear c5
   try clear c7
   try clear c9
   try clear c13
   try clear c14
   try clear c21
   try clear c22
   try clear c23
   try clear c26
   try clear c27
   try clear hcz10_0
   try clear hcz10_1
   try clear hcz10_2
   try clear hcz15_0
   try clear hcz15_1
   try clear hcz15_2
   try clear hcz18_0
   try clear hcz18_1
   try clear hcz18_2
   try clear hcz24_0
   try clear hcz24_1
   try clear hcz24_2
   try clear hcz28_0
   try clear hcz28_1
   try clear hcz28_2
   try clear hfz10_0
   try clear hfz10_1
   try clear hfz10_2
   try clear hfz15_0
   try clear hfz15_1
   try clear hfz15_2
   try clear hfz18_0
   try clear hfz18_1
   try clear hfz18_2
   try clear hfz24_0
   try clear hfz24_1
   try clear hfz24_2
   try clear hfz28_0
   try clear hfz28_1
   try clear hfz28_2
   obtain ⟨kq, x14_5, rfl, HA, HJ5, HO_810001, HO_810002, BK800, BK801, BK809, HB⟩ := hcut
   cases kq with
   | zero => exact absurd HA.out (by simp [impl_QuitLatch.j0])
   | succ kj5 =>
    have H := HA.out
    clear HA
    simp only [impl_QuitLatch.j0] at H
    by_cases c29 : x14_5 = true
    ·subst c29
     replace H : (some (t802, t803, t806, 3)) = some (r1, r2, r3, r4) := by rw [if_pos rfl] at H; exact H
     simp only [Option.some.injEq, Prod.mk.injEq] at H
     obtain ⟨rfl, rfl, rfl, rfl⟩ := H
     have hnb30 := NB809_800.out
     have hnc30 := NB800_809.out
     have hnb31 := NB809_801.out
     have hnc31 := NB801_809.out
     obtain ⟨hcz32_0, hcz32_1, hcz32_2, hfz32_0, hfz32_1, hfz32_2⟩ := bk3 BK809.out
     have hnb33 := NB801_800.out
     have hnc33 := NB800_801.out
     obtain ⟨hcz34_0, hcz34_1, hcz34_2, hfz34_0, hfz34_1, hfz34_2⟩ := bk3 BK801.out
     go_wp2
     refine bodyPost_ret (results_ct rfl _ _ gb801 46 #[.int .i64 t802, .slice Ao16 t803.length co16, .slice Ao17 t806.length co17] (0, 0) _ rfl (by (with_reducible repeat (first | refine blk_drewN ?_ _ | refine blk_drew ?_ | refine blk_alloc ?_ _)); refine blk_put (cs := #[.int .i64 t802, .slice Ao16 t803.length co16, .slice none 0 0]) ?_ 2 _ rfl; (with_reducible repeat (first | refine blk_drewN ?_ _ | refine blk_drew ?_ | refine blk_alloc ?_ _)); refine blk_put (cs := #[.int .i64 t802, .slice none 0 0, .slice none 0 0]) ?_ 1 _ rfl; (with_reducible repeat (first | refine blk_drewN ?_ _ | refine blk_drew ?_ | refine blk_alloc ?_ _)); refine blk_put (cs := #[.int .i64 0, .slice none 0 0, .slice none 0 0]) ?_ 0 _ rfl; exact pkK BK801.out) Try.underlying46 rfl (by kernel_rfl)) rfl ?_
     exact ⟨_, _, rfe, by (with_reducible repeat (first | apply Kd.R_alloc | apply Kd.R_drewN | apply Kd.R_drew)); exact Kd.R_mono (Kd.R_far (p := ⟨gb801, 2, none⟩) (Kd.R_far (p := ⟨gb801, 1, none⟩) (Kd.R_far (p := ⟨gb801, 0, none⟩) (Kd.R_types HO_810001.out BK801.out (by decide)) (fun _ hk => hk.2) (.int .i64 t802)) (fun _ hk => hk.2) (.slice Ao16 t803.length co16)) (fun _ hk => hk.2) (.slice Ao17 t806.length co17)) (fun _ hk => hk.1), by (with_reducible repeat (first | apply Kd.R_alloc | apply Kd.R_drewN | apply Kd.R_drew)); exact Kd.R_mono (Kd.R_far (p := ⟨gb801, 2, none⟩) (Kd.R_far (p := ⟨gb801, 1, none⟩) (Kd.R_far (p := ⟨gb801, 0, none⟩) (Kd.R_types HO_810002.out BK801.out (by decide)) (fun _ hk => hk.2) (.int .i64 t802)) (fun _ hk => hk.2) (.slice Ao16 t803.length co16)) (fun _ hk => hk.2) (.slice Ao17 t806.length co17)) (fun _ hk => hk.1), pkW HB.out⟩
    ·replace c29 := Bool.eq_false_iff.mpr c29
     subst c29
     replace H : ((impl_without.f kj5 l0_1 a1).bind fun t813 => ((impl_without.f kj5 l0_2 a1).bind fun t816 => (some (t802, t813, t816, 0)))) = some (r1, r2, r3, r4) := by rw [if_neg (show ¬ (false = true) by decide)] at H; exact H
     replace H := Option.bind_eq_some_iff.mp H
     obtain ⟨t813, A350, H⟩ := H
     replace H : ((impl_without.f kj5 l0_2 a1).bind fun t816 => (some (t802, t813, t816, 0))) = some (r1, r2, r3, r4) := H
     have A35 := am A350
     clear A350
     replace H := Option.bind_eq_some_iff.mp H
     obtain ⟨t816, A360, H⟩ := H
     replace H : (some (t802, t813, t816, 0)) = some (r1, r2, r3, r4) := H
     have A36 := am A360
     clear A360
     simp only [Option.some.injEq, Prod.mk.injEq] at H
     obtain ⟨rfl, rfl, rfl, rfl⟩ := H
     have hnb37 := NB800_801.out
     have hnc37 := NB801_800.out
     have hnb38 := NB800_809.out
     have hnc38 := NB809_800.out
     obtain ⟨hcz39_0, hcz39_1, hcz39_2, hfz39_0, hfz39_1, hfz39_2⟩ := bk3 BK800.out
     go_wp2_with (first | ((with_reducible refine gate_callee (f := 60) rfl ?_); refine goesL_ (some 31) rfl rfl Try.func60 (by kernel_rfl) rfl #[.slice A0_1 l0_1.length c0_1, .int .i64 a1] rfl mpx ?_; (with_reducible refine (impl_without.calls kj5 _ _ l0_1 a1 t813 _ ?side1 ?side2 A35.out).mono ?_); (case side1 => exact pkC (Kd.C_below HR0_1.out HB.out)); (case side2 => exact HC0_1.out); rintro e w40 ⟨v814, rfl, ho0, hb⟩; refine ⟨_, rfl, ?_⟩; have HO815 := am (Kd.R_lower (Kd.R_new' (Kd.R_new' ho0 (Kd.R_lt (pkR HO_810001.out))) (Kd.R_lt (pkR HO_810002.out))) (below_size (pkW HB.out))); replace HO_810001 := am (Kd.R_elder' (pkR HO_810001.out) (Kd.R_base ho0) hb); replace HO_810002 := am (Kd.R_elder' (pkR HO_810002.out) (Kd.R_base ho0) hb); replace BK800 := am (blk_below (pkK BK800.out) hb); replace BK801 := am (blk_below (pkK BK801.out) hb); replace BK809 := am (blk_below (pkK BK809.out) hb); replace HB := am (below_step (pkW HB.out) hb); (try clear hb ho0); obtain ⟨Ao41, co41, eo41⟩ := Kd.R_slice HO815.out; subst eo41; have hnb42 := NB809_801.out; have hnc42 := NB801_809.out; obtain ⟨hcz43_0, hcz43_1, hcz43_2, hfz43_0, hfz43_1, hfz43_2⟩ := bk3 BK809.out; obtain ⟨hcz44_0, hcz44_1, hcz44_2, hfz44_0, hfz44_1, hfz44_2⟩ := bk3 BK800.out) | ((with_reducible refine gate_callee (f := 60) rfl ?_); refine goesL_ (some 36) rfl rfl Try.func60 (by kernel_rfl) rfl #[.slice A0_2 l0_2.length c0_2, .int .i64 a1] rfl mpx ?_; (with_reducible refine (impl_without.calls kj5 _ _ l0_2 a1 t816 _ ?side1 ?side2 A36.out).mono ?_); (case side1 => exact Kd.C_below HR0_2.out (pkW HB.out)); (case side2 => exact HC0_2.out); rintro e w45 ⟨v817, rfl, ho0, hb⟩; refine ⟨_, rfl, ?_⟩; have HO818 := am (Kd.R_lower (Kd.R_new' (Kd.R_new' (Kd.R_new' ho0 (Kd.R_lt (by (with_reducible repeat (first | apply Kd.R_alloc | apply Kd.R_drewN | apply Kd.R_drew)); exact (Kd.R_mono (Kd.R_far (p := ⟨gb809, 1, none⟩) (Kd.R_types HO_810001.out BK809.out (by decide)) (fun _ hk => hk.2) (.slice Ao41 t813.length co41)) (fun _ h_ => h_.1))))) (Kd.R_lt (by (with_reducible repeat (first | apply Kd.R_alloc | apply Kd.R_drewN | apply Kd.R_drew)); exact (Kd.R_mono (Kd.R_far (p := ⟨gb809, 1, none⟩) (Kd.R_types HO_810002.out BK809.out (by decide)) (fun _ hk => hk.2) (.slice Ao41 t813.length co41)) (fun _ h_ => h_.1))))) (Kd.R_lt (by (with_reducible repeat (first | apply Kd.R_alloc | apply Kd.R_drewN | apply Kd.R_drew)); exact (Kd.R_mono (Kd.R_far (p := ⟨gb809, 1, none⟩) (Kd.R_types HO815.out BK809.out (by decide)) (fun _ hk => hk.2) (.slice Ao41 t813.length co41)) (fun _ h_ => h_.1))))) (below_size (pkW HB.out))); replace HO_810001 := am (Kd.R_elder' (by (with_reducible repeat (first | apply Kd.R_alloc | apply Kd.R_drewN | apply Kd.R_drew)); exact (Kd.R_mono (Kd.R_far (p := ⟨gb809, 1, none⟩) (Kd.R_types HO_810001.out BK809.out (by decide)) (fun _ hk => hk.2) (.slice Ao41 t813.length co41)) (fun _ h_ => h_.1))) (Kd.R_base ho0) hb); replace HO_810002 := am (Kd.R_elder' (by (with_reducible repeat (first | apply Kd.R_alloc | apply Kd.R_drewN | apply Kd.R_drew)); exact (Kd.R_mono (Kd.R_far (p := ⟨gb809, 1, none⟩) (Kd.R_types HO_810002.out BK809.out (by decide)) (fun _ hk => hk.2) (.slice Ao41 t813.length co41)) (fun _ h_ => h_.1))) (Kd.R_base ho0) hb); replace HO815 := am (Kd.R_elder' (by (with_reducible repeat (first | apply Kd.R_alloc | apply Kd.R_drewN | apply Kd.R_drew)); exact (Kd.R_mono (Kd.R_far (p := ⟨gb809, 1, none⟩) (Kd.R_types HO815.out BK809.out (by decide)) (fun _ hk => hk.2) (.slice Ao41 t813.length co41)) (fun _ h_ => h_.1))) (Kd.R_base ho0) hb); replace BK800 := am (blk_below (g := gb800) (o := .cells #[.int .i64 a0_0, .slice A0_1 l0_1.length c0_1, .slice A0_2 l0_2.length c0_2] 46 (0, 0)) (by (with_reducible repeat (first | refine blk_drewN ?_ _ | refine blk_drew ?_ | refine blk_alloc ?_ _)); refine blk_far ?_ NB800_809.out _; exact pkK BK800.out) hb); replace BK801 := am (blk_below (g := gb801) (o := .cells #[.int .i64 0, .slice none 0 0, .slice none 0 0] 46 (0, 0)) (by (with_reducible repeat (first | refine blk_drewN ?_ _ | refine blk_drew ?_ | refine blk_alloc ?_ _)); refine blk_far ?_ NB801_809.out _; exact pkK BK801.out) hb); replace BK809 := am (blk_below (g := gb809) (o := .cells #[.int .i64 t802, .slice Ao41 t813.length co41, .slice Ao17 t806.length co17] 46 (0, 0)) (by (with_reducible repeat (first | refine blk_drewN ?_ _ | refine blk_drew ?_ | refine blk_alloc ?_ _)); refine blk_put (cs := #[.int .i64 t802, .slice Ao16 t803.length co16, .slice Ao17 t806.length co17]) ?_ 1 _ rfl; exact pkK BK809.out) hb); replace HB := am (below_step (pkW HB.out) hb); (try clear hb ho0); obtain ⟨Ao46, co46, eo46⟩ := Kd.R_slice HO818.out; subst eo46; obtain ⟨hcz47_0, hcz47_1, hcz47_2, hfz47_0, hfz47_1, hfz47_2⟩ := bk3 BK809.out; obtain ⟨hcz48_0, hcz48_1, hcz48_2, hfz48_0, hfz48_1, hfz48_2⟩ := bk3 BK801.out))
     refine bodyPost_ret (results_ct rfl _ _ gb801 46 #[.int .i64 t802, .slice Ao41 t813.length co41, .slice Ao46 t816.length co46] (0, 0) _ rfl (by (with_reducible repeat (first | refine blk_drewN ?_ _ | refine blk_drew ?_ | refine blk_alloc ?_ _)); refine blk_put (cs := #[.int .i64 t802, .slice Ao41 t813.length co41, .slice none 0 0]) ?_ 2 _ rfl; (with_reducible repeat (first | refine blk_drewN ?_ _ | refine blk_drew ?_ | refine blk_alloc ?_ _)); refine blk_put (cs := #[.int .i64 t802, .slice none 0 0, .slice none 0 0]) ?_ 1 _ rfl; (with_reducible repeat (first | refine blk_drewN ?_ _ | refine blk_drew ?_ | refine blk_alloc ?_ _)); refine blk_put (cs := #[.int .i64 0, .slice none 0 0, .slice none 0 0]) ?_ 0 _ rfl; (with_reducible repeat (first | refine blk_drewN ?_ _ | refine blk_drew ?_ | refine blk_alloc ?_ _)); refine blk_far ?_ NB801_809.out _; exact pkK BK801.out) Try.underlying46 rfl (by kernel_rfl)) rfl ?_
     exact ⟨_, _, rfe, by (with_reducible repeat (first | apply Kd.R_alloc | apply Kd.R_drewN | apply Kd.R_drew)); exact Kd.R_mono (Kd.R_far (p := ⟨gb801, 2, none⟩) (Kd.R_far (p := ⟨gb801, 1, none⟩) (Kd.R_far (p := ⟨gb801, 0, none⟩) (Kd.R_far (p := ⟨gb809, 2, none⟩) (Kd.R_types (Kd.R_types HO815.out BK809.out (by decide)) BK801.out (by decide)) (fun _ hk => hk.1.2) (.slice Ao46 t816.length co46)) (fun _ hk => hk.2) (.int .i64 t802)) (fun _ hk => hk.2) (.slice Ao41 t813.length co41)) (fun _ hk => hk.2) (.slice Ao46 t816.length co46)) (fun _ hk => hk.1.1.2), by (with_reducible repeat (first | apply Kd.R_alloc | apply Kd.R_drewN | apply Kd.R_drew)); exact Kd.R_mono (Kd.R_far (p := ⟨gb801, 2, none⟩) (Kd.R_far (p := ⟨gb801, 1, none⟩) (Kd.R_far (p := ⟨gb801, 0, none⟩) (Kd.R_far (p := ⟨gb809, 2, none⟩) (Kd.R_types (Kd.R_types HO818.out BK809.out (by decide)) BK801.out (by decide)) (fun _ hk => hk.1.2) (.slice Ao46 t816.length co46)) (fun _ hk => hk.2) (.int .i64 t802)) (fun _ hk => hk.2) (.slice Ao41 t813.length co41)) (fun _ hk => hk.2) (.slice Ao46 t816.length co46)) (fun _ hk => hk.1.1.2), pkW HB.out⟩
 ·replace c5 := Bool.eq_false_iff.mpr c5
  subst c5
  replace H : (some (t802, t803, t806, 1)) = some (r1, r2, r3, r4) := by rw [if_neg (show ¬ (false = true) by decide)] at H; exact H
  simp only [Option.some.injEq, Prod.mk.injEq] at H
  obtain ⟨rfl, rfl, rfl, rfl⟩ := H
  go_enter Try.func41, Try.ntmps41
  go_wp2_with (first | ((with_reducible refine gate_dst (N := 2) rfl ?_); refine box_event ?hg (N := 2) ?hd (cs := #[.int .i64 a0_0, .slice A0_1 l0_1.length c0_1, .slice A0_2 l0_2.length c0_2]) (t := 46) ?hr ?_; (case hd => rfl); (case hg => rfl); (case hr => first | (go_simp; done) | (go_simp; rfl)); intro gb800 hg w49 hbox hb; have BK800 := am (hbox); have GW800 := am ((by rw [hg]; exact (below_size (pkB HB.out)) : w.heap.size ≤ gb800)); have GE800 := am ((by rw [hg]; exact (below_size (pkB HB.out)) : w.heap.size ≤ gb800)); replace HB := am (below_step (pkB HB.out) hb); clear hb hbox hg) | ((with_reducible refine gate_dst (N := 4) rfl ?_); refine box_event ?hg (N := 4) ?hd (cs := #[.int .i64 0, .slice none 0 0, .slice none 0 0]) (t := 46) ?hr ?_; (case hd => rfl); (case hg => rfl); (case hr => first | (go_simp; done) | (go_simp; rfl)); intro gb801 hg w50 hbox hb; have BK801 := am (hbox); have GW801 := am ((by rw [hg]; exact (below_size (pkW HB.out)) : w.heap.size ≤ gb801)); have GE801 := am ((by rw [hg]; exact (below_size (pkW HB.out)) : w.heap.size ≤ gb801)); replace HB := am (below_step (pkW HB.out) hb); have NB800_801 := am ((by rw [hg]; exact Nat.ne_of_lt (blk_lt (g := gb800) (o := .cells #[.int .i64 a0_0, .slice A0_1 l0_1.length c0_1, .slice A0_2 l0_2.length c0_2] 46 (0, 0)) (pkK BK800.out)) : gb800 ≠ gb801)); have NB801_800 := am ((by rw [hg]; exact Nat.ne_of_gt (blk_lt (g := gb800) (o := .cells #[.int .i64 a0_0, .slice A0_1 l0_1.length c0_1, .slice A0_2 l0_2.length c0_2] 46 (0, 0)) (pkK BK800.out)) : gb801 ≠ gb800)); replace BK800 := am (blk_below (pkK BK800.out) hb); clear hb hbox hg; have hnb51 := NB800_801.out; have hnc51 := NB801_800.out; obtain ⟨hcz52_0, hcz52_1, hcz52_2, hfz52_0, hfz52_1, hfz52_2⟩ := bk3 BK800.out) | ((with_reducible refine gate_callee (f := 70) rfl ?_); refine goesL_ (some 8) rfl rfl Try.func70 (by kernel_rfl) rfl #[.agg #[.int .i64 a0_0, .slice A0_1 l0_1.length c0_1, .slice A0_2 l0_2.length c0_2]] rfl mpx ?_; (with_reducible refine (impl_copyLatch.calls a0_0 _ _ l0_1 _ _ l0_2 t802 t803 t806 _ ?side1 ?side2 ?side3 ?side4 A3.out).mono ?_); (case side1 => exact pkC (Kd.C_below HR0_1.out HB.out)); (case side2 => exact HC0_1.out); (case side3 => exact pkC (Kd.C_below HR0_2.out HB.out)); (case side4 => exact HC0_2.out); rintro e w53 ⟨v804, v807, rfl, ho0, ho1, hb⟩; refine ⟨_, rfl, ?_⟩; have HO805 := am (Kd.R_lower ho0 (below_size (pkW HB.out))); have HO808 := am (Kd.R_lower ho1 (below_size (pkW HB.out))); replace BK800 := am (blk_below (pkK BK800.out) hb); replace BK801 := am (blk_below (pkK BK801.out) hb); replace HB := am (below_step (pkW HB.out) hb); (try clear hb ho0 ho1)) | ((with_reducible refine gate_dst (N := 6) rfl ?_); refine box_event ?hg (N := 6) ?hd (cs := #[.int .i64 0, .slice none 0 0, .slice none 0 0]) (t := 46) ?hr ?_; (case hd => rfl); (case hg => rfl); (case hr => first | (go_simp; done) | (go_simp; rfl)); intro gb809 hg w54 hbox hb; replace HO805 := am (Kd.R_below (pkR HO805.out) hb); replace HO808 := am (Kd.R_below (pkR HO808.out) hb); have BK809 := am (hbox); have GW809 := am ((by rw [hg]; exact (below_size (pkW HB.out)) : w.heap.size ≤ gb809)); have GE809 := am ((by rw [hg]; exact (below_size (pkW HB.out)) : w.heap.size ≤ gb809)); replace HB := am (below_step (pkW HB.out) hb); have NB800_809 := am ((by rw [hg]; exact Nat.ne_of_lt (blk_lt (g := gb800) (o := .cells #[.int .i64 a0_0, .slice A0_1 l0_1.length c0_1, .slice A0_2 l0_2.length c0_2] 46 (0, 0)) (pkK BK800.out)) : gb800 ≠ gb809)); have NB809_800 := am ((by rw [hg]; exact Nat.ne_of_gt (blk_lt (g := gb800) (o := .cells #[.int .i64 a0_0, .slice A0_1 l0_1.length c0_1, .slice A0_2 l0_2.length c0_2] 46 (0, 0)) (pkK BK800.out)) : gb809 ≠ gb800)); replace BK800 := am (blk_below (pkK BK800.out) hb); have NB801_809 := am ((by rw [hg]; exact Nat.ne_of_lt (blk_lt (g := gb801) (o := .cells #[.int .i64 0, .slice none 0 0, .slice none 0 0] 46 (0, 0)) (pkK BK801.out)) : gb801 ≠ gb809)); have NB809_801 := am ((by rw [hg]; exact Nat.ne_of_gt (blk_lt (g := gb801) (o := .cells #[.int .i64 0, .slice none 0 0, .slice none 0 0] 46 (0, 0)) (pkK BK801.out)) : gb809 ≠ gb801)); replace BK801 := am (blk_below (pkK BK801.out) hb); clear hb hbox hg; have hnb55 := NB809_800.out; have hnc55 := NB800_809.out; have hnb56 := NB809_801.out; have hnc56 := NB801_809.out; obtain ⟨hcz57_0, hcz57_1, hcz57_2, hfz57_0, hfz57_1, hfz57_2⟩ := bk3 BK809.out; obtain ⟨Ao58, co58, eo58⟩ := Kd.R_slice HO805.out; subst eo58; obtain ⟨Ao59, co59, eo59⟩ := Kd.R_slice HO808.out; subst eo59; obtain ⟨hcz60_0, hcz60_1, hcz60_2, hfz60_0, hfz60_1, hfz60_2⟩ := bk3 BK800.out) | ((with_reducible refine gate_callee (f := 26) rfl ?_); refine goesL_ (some 11) rfl rfl Try.func26 (by kernel_rfl) rfl #[.agg #[.int .i64 a0_0, .slice A0_1 l0_1.length c0_1, .slice A0_2 l0_2.length c0_2]] rfl mpx ?_; (with_reducible refine (impl_LatchOk.calls k a0_0 _ _ l0_1 _ _ l0_2 false _ ?side1 ?side2 ?side3 ?side4 A4.out).mono ?_); (case side1 => exact Kd.C_below HR0_1.out (pkW HB.out)); (case side2 => exact HC0_1.out); (case side3 => exact Kd.C_below HR0_2.out (pkW HB.out)); (case side4 => exact HC0_2.out); rintro e w61 ⟨rfl, hb⟩; refine ⟨_, rfl, ?_⟩; replace HO805 := am (Kd.R_below (by (with_reducible repeat (first | apply Kd.R_alloc | apply Kd.R_drewN | apply Kd.R_drew)); exact (Kd.R_mono (Kd.R_far (p := ⟨gb809, 2, none⟩) (Kd.R_far (p := ⟨gb809, 1, none⟩) (Kd.R_far (p := ⟨gb809, 0, none⟩) (Kd.R_types HO805.out BK809.out (by decide)) (fun _ hk => hk.2) (.int .i64 t802)) (fun _ hk => hk.2) (.slice Ao58 t803.length co58)) (fun _ hk => hk.2) (.slice Ao59 t806.length co59)) (fun _ h_ => h_.1))) hb); replace HO808 := am (Kd.R_below (by (with_reducible repeat (first | apply Kd.R_alloc | apply Kd.R_drewN | apply Kd.R_drew)); exact (Kd.R_mono (Kd.R_far (p := ⟨gb809, 2, none⟩) (Kd.R_far (p := ⟨gb809, 1, none⟩) (Kd.R_far (p := ⟨gb809, 0, none⟩) (Kd.R_types HO808.out BK809.out (by decide)) (fun _ hk => hk.2) (.int .i64 t802)) (fun _ hk => hk.2) (.slice Ao58 t803.length co58)) (fun _ hk => hk.2) (.slice Ao59 t806.length co59)) (fun _ h_ => h_.1))) hb); replace BK800 := am (blk_below (g := gb800) (o := .cells #[.int .i64 a0_0, .slice A0_1 l0_1.length c0_1, .slice A0_2 l0_2.length c0_2] 46 (0, 0)) (by (with_reducible repeat (first | refine blk_drewN ?_ _ | refine blk_drew ?_ | refine blk_alloc ?_ _)); refine blk_far ?_ NB800_809.out _; (with_reducible repeat (first | refine blk_drewN ?_ _ | refine blk_drew ?_ | refine blk_alloc ?_ _)); refine blk_far ?_ NB800_809.out _; (with_reducible repeat (first | refine blk_drewN ?_ _ | refine blk_drew ?_ | refine blk_alloc ?_ _)); refine blk_far ?_ NB800_809.out _; exact pkK BK800.out) hb); replace BK801 := am (blk_below (g := gb801) (o := .cells #[.int .i64 0, .slice none 0 0, .slice none 0 0] 46 (0, 0)) (by (with_reducible repeat (first | refine blk_drewN ?_ _ | refine blk_drew ?_ | refine blk_alloc ?_ _)); refine blk_far ?_ NB801_809.out _; (with_reducible repeat (first | refine blk_drewN ?_ _ | refine blk_drew ?_ | refine blk_alloc ?_ _)); refine blk_far ?_ NB801_809.out _; (with_reducible repeat (first | refine blk_drewN ?_ _ | refine blk_drew ?_ | refine blk_alloc ?_ _)); refine blk_far ?_ NB801_809.out _; exact pkK BK801.out) hb); replace BK809 := am (blk_below (g := gb809) (o := .cells #[.int .i64 t802, .slice Ao58 t803.length co58, .slice Ao59 t806.length co59] 46 (0, 0)) (by (with_reducible repeat (first | refine blk_drewN ?_ _ | refine blk_drew ?_ | refine blk_alloc ?_ _)); refine blk_put (cs := #[.int .i64 t802, .slice Ao58 t803.length co58, .slice none 0 0]) ?_ 2 _ rfl; (with_reducible repeat (first | refine blk_drewN ?_ _ | refine blk_drew ?_ | refine blk_alloc ?_ _)); refine blk_put (cs := #[.int .i64 t802, .slice none 0 0, .slice none 0 0]) ?_ 1 _ rfl; (with_reducible repeat (first | refine blk_drewN ?_ _ | refine blk_drew ?_ | refine blk_alloc ?_ _)); refine blk_put (cs := #[.int .i64 0, .slice none 0 0, .slice none 0 0]) ?_ 0 _ rfl; exact pkK BK809.out) hb); replace HB := am (below_step (pkW HB.out) hb); (try clear hb); obtain ⟨hcz62_0, hcz62_1, hcz62_2, hfz62_0, hfz62_1, hfz62_2⟩ := bk3 BK809.out; obtain ⟨hcz63_0, hcz63_1, hcz63_2, hfz63_0, hfz63_1, hfz63_2⟩ := bk3 BK801.out))
  refine bodyPost_ret (results_ct rfl _ _ gb801 46 #[.int .i64 t802, .slice Ao58 t803.length co58, .slice Ao59 t806.length co59] (0, 0) _ rfl (by (with_reducible repeat (first | refine blk_drewN ?_ _ | refine blk_drew ?_ | refine blk_alloc ?_ _)); refine blk_put (cs := #[.int .i64 t802, .slice Ao58 t803.length co58, .slice none 0 0]) ?_ 2 _ rfl; (with_reducible repeat (first | refine blk_drewN ?_ _ | refine blk_drew ?_ | refine blk_alloc ?_ _)); refine blk_put (cs := #[.int .i64 t802, .slice none 0 0, .slice none 0 0]) ?_ 1 _ rfl; (with_reducible repeat (first | refine blk_drewN ?_ _ | refine blk_drew ?_ | refine blk_alloc ?_ _)); refine blk_put (cs := #[.int .i64 0, .slice none 0 0, .slice none 0 0]) ?_ 0 _ rfl; exact pkK BK801.out) Try.underlying46 rfl (by kernel_rfl)) rfl ?_
  exact ⟨_, _, rfe, by (with_reducible repeat (first | apply Kd.R_alloc | apply Kd.R_drewN | apply Kd.R_drew)); exact Kd.R_mono (Kd.R_far (p := ⟨gb801, 2, none⟩) (Kd.R_far (p := ⟨gb801, 1, none⟩) (Kd.R_far (p := ⟨gb801, 0, none⟩) (Kd.R_types HO805.out BK801.out (by decide)) (fun _ hk => hk.2) (.int .i64 t802)) (fun _ hk => hk.2) (.slice Ao58 t803.length co58)) (fun _ hk => hk.2) (.slice Ao59 t806.length co59)) (fun _ hk => hk.1), by (with_reducible repeat (first | apply Kd.R_alloc | apply Kd.R_drewN | apply Kd.R_drew)); exact Kd.R_mono (Kd.R_far (p := ⟨gb801, 2, none⟩) (Kd.R_far (p := ⟨gb801, 1, none⟩) (Kd.R_far (p := ⟨gb801, 0, none⟩) (Kd.R_types HO808.out BK801.out (by decide)) (fun _ hk => hk.2) (.int .i64 t802)) (fun _ hk => hk.2) (.slice Ao58 t803.length co58)) (fun _ hk => hk.2) (.slice Ao59 t806.length co59)) (fun _ hk => hk.1), pkW HB.out⟩
end Go.Proofs.Ytffcphplnilokaa.Z
