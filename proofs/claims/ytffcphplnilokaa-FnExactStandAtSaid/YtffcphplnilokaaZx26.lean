/- The Go functions impl_StandAt as Lean functions, each with a proof that its code comes to just these answers; conditions: those of each theorem. -/
import Derived.Test.YtffcphplnilokaaZx0
import Derived.Test.YtffcphplnilokaaZx2
import Derived.Test.YtffcphplnilokaaZx22
import Derived.Test.YtffcphplnilokaaZx25
namespace Go.Proofs.Ytffcphplnilokaa.Z
open Go.RowKit Go.Proofs.YtffcphplnilokaaW.PrintWords Go.Proofs.YtffcphplnilokaaW.PrintLast Go.Proofs.YtffcphplnilokaaW.PrintMore
attribute [local go_sem] max2_int min2_int max_two min_two max_three min_three max_four min_four   -- for this text's walks alone
set_option linter.unusedVariables false
set_option linter.unusedSimpArgs false
mutual
def impl_StandAt.j0 : Nat → Int → Bool → Int → List Int → List Int → Int → List Int → List Int → Option (Int × List Int × List Int × Int)
 | 0, _, _, _, _, _, _, _, _ => none
 | k + 1, x1, x9, x412000, x412001, x412002, x421000, x421001, x421002 => if x9 = true then (some (x421000, x421001, x421002, 1)) else ((slices_Contains_int_int.f k x412001 x1).bind fun t423 => (if t423 = true then (impl_StandAt.j1 k x1 true x412000 x412001 x412002 x421000 x421001 x421002) else ((slices_Contains_int_int.f k x412002 x1).bind fun t424 => (impl_StandAt.j1 k x1 t424 x412000 x412001 x412002 x421000 x421001 x421002))))
def impl_StandAt.j1 : Nat → Int → Bool → Int → List Int → List Int → Int → List Int → List Int → Option (Int × List Int × List Int × Int)
 | 0, _, _, _, _, _, _, _, _ => none
 | k + 1, x1, x19, x412000, x412001, x412002, x421000, x421001, x421002 => if x19 = true then (some (x421000, x421001, x421002, 5)) else (if x412000 = 0 then (some (x421000, x421001, x421002, 0)) else (if (x412001.length : Int) = 32 then (some (x421000, x421001, x421002, 2)) else (if x421001.length < 17592186044416 then (some (x421000, (x421001 ++ [x1]), x421002, 4)) else (none))))
end
def impl_StandAt.f (k : Nat) (a0_0 : Int) (l0_1 : List Int) (l0_2 : List Int) (a1 : Int) : Option (Int × List Int × List Int × Int) := (impl_copyLatch.f a0_0 l0_1 l0_2).bind fun bt413 => ((impl_LatchOk.f k a0_0 l0_1 l0_2).bind fun t421 => (if t421 = true then ((impl_isClient.f a1).bind fun t422 => (impl_StandAt.j0 k a1 (!t422) a0_0 l0_1 l0_2 bt413.1 bt413.2.1 bt413.2.2)) else (impl_StandAt.j0 k a1 true a0_0 l0_1 l0_2 bt413.1 bt413.2.1 bt413.2.2)))
theorem impl_StandAt.mono_l : ∀ k, (∀ y0 y1 y2 y3 y4 y5 y6 y7, LeO (impl_StandAt.j0 k y0 y1 y2 y3 y4 y5 y6 y7) (impl_StandAt.j0 (k + 1) y0 y1 y2 y3 y4 y5 y6 y7)) ∧ (∀ y0 y1 y2 y3 y4 y5 y6 y7, LeO (impl_StandAt.j1 k y0 y1 y2 y3 y4 y5 y6 y7) (impl_StandAt.j1 (k + 1) y0 y1 y2 y3 y4 y5 y6 y7))
 | 0 => ⟨fun _ _ _ _ _ _ _ _ r h => by simp [impl_StandAt.j0] at h, fun _ _ _ _ _ _ _ _ r h => by simp [impl_StandAt.j1] at h⟩
 | k + 1 => by
  obtain ⟨ih0, ih1⟩ := impl_StandAt.mono_l k
  refine ⟨?_, ?_⟩
  ·intro y0 y1 y2 y3 y4 y5 y6 y7
   unfold impl_StandAt.j0
   repeat' first
   | (with_reducible exact ih0 _ _ _ _ _ _ _ _)
   | (with_reducible exact ih1 _ _ _ _ _ _ _ _)
   | (with_reducible exact impl_LatchOk.mono _ _ _ _)
   | (with_reducible exact slices_Contains_int_int.mono _ _ _)
   | (with_reducible exact LeO.refl _)
   | (with_reducible exact LeO.none _)
   | (with_reducible refine LeO.ite ?_ ?_)
   | (with_reducible refine LeO.bind ?_ (fun _ => ?_))
  ·intro y0 y1 y2 y3 y4 y5 y6 y7
   unfold impl_StandAt.j1
   repeat' first
   | (with_reducible exact ih0 _ _ _ _ _ _ _ _)
   | (with_reducible exact ih1 _ _ _ _ _ _ _ _)
   | (with_reducible exact impl_LatchOk.mono _ _ _ _)
   | (with_reducible exact slices_Contains_int_int.mono _ _ _)
   | (with_reducible exact LeO.refl _)
   | (with_reducible exact LeO.none _)
   | (with_reducible refine LeO.ite ?_ ?_)
   | (with_reducible refine LeO.bind ?_ (fun _ => ?_))
theorem impl_StandAt.mono : ∀ a0 a1 a2 a3 k, LeO (impl_StandAt.f k a0 a1 a2 a3) (impl_StandAt.f (k + 1) a0 a1 a2 a3) := by
 intro a0 a1 a2 a3 k
 obtain ⟨ih0, ih1⟩ := impl_StandAt.mono_l k
 unfold impl_StandAt.f
 repeat' first
   | (with_reducible exact ih0 _ _ _ _ _ _ _ _)
   | (with_reducible exact ih1 _ _ _ _ _ _ _ _)
   | (with_reducible exact impl_LatchOk.mono _ _ _ _)
   | (with_reducible exact slices_Contains_int_int.mono _ _ _)
   | (with_reducible exact LeO.refl _)
   | (with_reducible exact LeO.none _)
   | (with_reducible refine LeO.ite ?_ ?_)
   | (with_reducible refine LeO.bind ?_ (fun _ => ?_))
set_option maxHeartbeats 8000000 in
set_option maxRecDepth 100000 in
theorem impl_StandAt.calls (k : Nat) (a0_0 : Int) (A0_1 : Option Addr) (c0_1 : Nat) (l0_1 : List Int) (A0_2 : Option Addr) (c0_2 : Nat) (l0_2 : List Int) (a1 : Int) (r1 : Int) (r2 : List Int) (r3 : List Int) (r4 : Int) (w : World) (hr0_1 : Kd.C (Kd.int .i64) w A0_1 l0_1.length l0_1) (hc0_1 : l0_1.length ≤ c0_1) (hr0_2 : Kd.C (Kd.int .i64) w A0_2 l0_2.length l0_2) (hc0_2 : l0_2.length ≤ c0_2) (h : impl_StandAt.f k a0_0 l0_1 l0_2 a1 = some (r1, r2, r3, r4)) :
  Calls Try.prog 28 #[.agg #[.int .i64 a0_0, .slice A0_1 l0_1.length c0_1, .slice A0_2 l0_2.length c0_2], .int .i64 a1] w fun e w' => ∃ v1_ v2_ : Value, e = .returned (.tuple #[.agg #[.int .i64 r1, v1_, v2_], .int .i64 r4]) ∧ Kd.R (Kd.int .i64) 3 w' w.heap.size (fun k_ => some k_ ≠ (v2_ : Value).ownBlock) v1_ r2 ∧ Kd.R (Kd.int .i64) 3 w' w.heap.size (fun k_ => some k_ ≠ (v1_ : Value).ownBlock) v2_ r3 ∧ Below w.heap.size w w' := by
 have hu46 := Try.underlying46
 have HR0_1 := am hr0_1
 have HC0_1 := am hc0_1
 clear hr0_1 hc0_1
 have HR0_2 := am hr0_2
 have HC0_2 := am hc0_2
 clear hr0_2 hc0_2
 have HB := am (Below.refl w.heap.size w)
 have H : ((impl_copyLatch.f a0_0 l0_1 l0_2).bind fun bt413 => ((impl_LatchOk.f k a0_0 l0_1 l0_2).bind fun t421 => (if t421 = true then ((impl_isClient.f a1).bind fun t422 => (impl_StandAt.j0 k a1 (!t422) a0_0 l0_1 l0_2 bt413.1 bt413.2.1 bt413.2.2)) else (impl_StandAt.j0 k a1 true a0_0 l0_1 l0_2 bt413.1 bt413.2.1 bt413.2.2)))) = some (r1, r2, r3, r4) := h
 clear h
 replace H := Option.bind_eq_some_iff.mp H
 obtain ⟨⟨t413, t414, t417⟩, A30, H⟩ := H
 replace H : ((impl_LatchOk.f k a0_0 l0_1 l0_2).bind fun t421 => (if t421 = true then ((impl_isClient.f a1).bind fun t422 => (impl_StandAt.j0 k a1 (!t422) a0_0 l0_1 l0_2 t413 t414 t417)) else (impl_StandAt.j0 k a1 true a0_0 l0_1 l0_2 t413 t414 t417))) = some (r1, r2, r3, r4) := H
 have A3 := am A30
 clear A30
 have HC4 := am H
 clear H
 go_enter Try.func28, Try.ntmps28
 go_upto_region 2 with (first | ((with_reducible refine gate_dst (N := 2) rfl ?_); refine box_event ?hg (N := 2) ?hd (cs := #[.int .i64 a0_0, .slice A0_1 l0_1.length c0_1, .slice A0_2 l0_2.length c0_2]) (t := 46) ?hr ?_; (case hd => rfl); (case hg => rfl); (case hr => first | (go_simp; done) | (go_simp; rfl)); intro gb411 hg w5 hbox hb; have BK411 := am (hbox); have GW411 := am ((by rw [hg]; exact (below_size (pkB HB.out)) : w.heap.size ≤ gb411)); have GE411 := am ((by rw [hg]; exact (below_size (pkB HB.out)) : w.heap.size ≤ gb411)); replace HB := am (below_step (pkB HB.out) hb); clear hb hbox hg) | ((with_reducible refine gate_dst (N := 4) rfl ?_); refine box_event ?hg (N := 4) ?hd (cs := #[.int .i64 0, .slice none 0 0, .slice none 0 0]) (t := 46) ?hr ?_; (case hd => rfl); (case hg => rfl); (case hr => first | (go_simp; done) | (go_simp; rfl)); intro gb412 hg w6 hbox hb; have BK412 := am (hbox); have GW412 := am ((by rw [hg]; exact (below_size (pkW HB.out)) : w.heap.size ≤ gb412)); have GE412 := am ((by rw [hg]; exact (below_size (pkW HB.out)) : w.heap.size ≤ gb412)); replace HB := am (below_step (pkW HB.out) hb); have NB411_412 := am ((by rw [hg]; exact Nat.ne_of_lt (blk_lt (g := gb411) (o := .cells #[.int .i64 a0_0, .slice A0_1 l0_1.length c0_1, .slice A0_2 l0_2.length c0_2] 46 (0, 0)) (pkK BK411.out)) : gb411 ≠ gb412)); have NB412_411 := am ((by rw [hg]; exact Nat.ne_of_gt (blk_lt (g := gb411) (o := .cells #[.int .i64 a0_0, .slice A0_1 l0_1.length c0_1, .slice A0_2 l0_2.length c0_2] 46 (0, 0)) (pkK BK411.out)) : gb412 ≠ gb411)); replace BK411 := am (blk_below (pkK BK411.out) hb); clear hb hbox hg; have hnb7 := NB411_412.out; have hnc7 := NB412_411.out; obtain ⟨hcz8_0, hcz8_1, hcz8_2, hfz8_0, hfz8_1, hfz8_2⟩ := bk3 BK411.out) | ((with_reducible refine gate_callee (f := 70) rfl ?_); refine goesL_ (some 8) rfl rfl Try.func70 (by kernel_rfl) rfl #[.agg #[.int .i64 a0_0, .slice A0_1 l0_1.length c0_1, .slice A0_2 l0_2.length c0_2]] rfl mpx ?_; (with_reducible refine (impl_copyLatch.calls a0_0 _ _ l0_1 _ _ l0_2 t413 t414 t417 _ ?side1 ?side2 ?side3 ?side4 A3.out).mono ?_); (case side1 => exact pkC (Kd.C_below HR0_1.out HB.out)); (case side2 => exact HC0_1.out); (case side3 => exact pkC (Kd.C_below HR0_2.out HB.out)); (case side4 => exact HC0_2.out); rintro e w9 ⟨v415, v418, rfl, ho0, ho1, hb⟩; refine ⟨_, rfl, ?_⟩; have HO416 := am (Kd.R_lower ho0 (below_size (pkW HB.out))); have HO419 := am (Kd.R_lower ho1 (below_size (pkW HB.out))); replace BK411 := am (blk_below (pkK BK411.out) hb); replace BK412 := am (blk_below (pkK BK412.out) hb); replace HB := am (below_step (pkW HB.out) hb); (try clear hb ho0 ho1)) | ((with_reducible refine gate_dst (N := 6) rfl ?_); refine box_event ?hg (N := 6) ?hd (cs := #[.int .i64 0, .slice none 0 0, .slice none 0 0]) (t := 46) ?hr ?_; (case hd => rfl); (case hg => rfl); (case hr => first | (go_simp; done) | (go_simp; rfl)); intro gb420 hg w10 hbox hb; replace HO416 := am (Kd.R_below (pkR HO416.out) hb); replace HO419 := am (Kd.R_below (pkR HO419.out) hb); have BK420 := am (hbox); have GW420 := am ((by rw [hg]; exact (below_size (pkW HB.out)) : w.heap.size ≤ gb420)); have GE420 := am ((by rw [hg]; exact (below_size (pkW HB.out)) : w.heap.size ≤ gb420)); replace HB := am (below_step (pkW HB.out) hb); have NB411_420 := am ((by rw [hg]; exact Nat.ne_of_lt (blk_lt (g := gb411) (o := .cells #[.int .i64 a0_0, .slice A0_1 l0_1.length c0_1, .slice A0_2 l0_2.length c0_2] 46 (0, 0)) (pkK BK411.out)) : gb411 ≠ gb420)); have NB420_411 := am ((by rw [hg]; exact Nat.ne_of_gt (blk_lt (g := gb411) (o := .cells #[.int .i64 a0_0, .slice A0_1 l0_1.length c0_1, .slice A0_2 l0_2.length c0_2] 46 (0, 0)) (pkK BK411.out)) : gb420 ≠ gb411)); replace BK411 := am (blk_below (pkK BK411.out) hb); have NB412_420 := am ((by rw [hg]; exact Nat.ne_of_lt (blk_lt (g := gb412) (o := .cells #[.int .i64 0, .slice none 0 0, .slice none 0 0] 46 (0, 0)) (pkK BK412.out)) : gb412 ≠ gb420)); have NB420_412 := am ((by rw [hg]; exact Nat.ne_of_gt (blk_lt (g := gb412) (o := .cells #[.int .i64 0, .slice none 0 0, .slice none 0 0] 46 (0, 0)) (pkK BK412.out)) : gb420 ≠ gb412)); replace BK412 := am (blk_below (pkK BK412.out) hb); clear hb hbox hg; have hnb11 := NB420_411.out; have hnc11 := NB411_420.out; have hnb12 := NB420_412.out; have hnc12 := NB412_420.out; obtain ⟨hcz13_0, hcz13_1, hcz13_2, hfz13_0, hfz13_1, hfz13_2⟩ := bk3 BK420.out; obtain ⟨Ao14, co14, eo14⟩ := Kd.R_slice HO416.out; subst eo14; obtain ⟨Ao15, co15, eo15⟩ := Kd.R_slice HO419.out; subst eo15))
 (try simp only [Act.put, List.setIfInBounds_toArray, List.set_cons_zero, List.set_cons_succ])
 go_cut [9] (fun v9 wc => ∃ (kq : Nat) (x9_3 : Bool), v9 = .bool x9_3 ∧ Aside0 (impl_StandAt.j0 kq a1 x9_3 a0_0 l0_1 l0_2 t413 t414 t417 = some (r1, r2, r3, r4)) ∧ Aside0 (kq ≤ k) ∧ Aside0 (Kd.R (Kd.int .i64) 3 wc w.heap.size (fun k_ => some k_ ≠ ((.slice Ao15 t417.length co15) : Value).ownBlock) (.slice Ao14 t414.length co14) t414) ∧ Aside0 (Kd.R (Kd.int .i64) 3 wc w.heap.size (fun k_ => some k_ ≠ ((.slice Ao14 t414.length co14) : Value).ownBlock) (.slice Ao15 t417.length co15) t417) ∧ Aside0 (wc.heap[gb411]? = some (.cells #[.int .i64 a0_0, (.slice A0_1 l0_1.length c0_1), (.slice A0_2 l0_2.length c0_2)] 46 (0, 0))) ∧ Aside0 (wc.heap[gb412]? = some (.cells #[.int .i64 0, (.slice none 0 0), (.slice none 0 0)] 46 (0, 0))) ∧ Aside0 (wc.heap[gb420]? = some (.cells #[.int .i64 t413, (.slice Ao14 t414.length co14), (.slice Ao15 t417.length co15)] 46 (0, 0))) ∧ Aside0 (Below w.heap.size w wc))
 case first =>
  have H := HC4.out
  clear HC4
  replace H := Option.bind_eq_some_iff.mp H
  obtain ⟨t421, A160, H⟩ := H
  replace H : (if t421 = true then ((impl_isClient.f a1).bind fun t422 => (impl_StandAt.j0 k a1 (!t422) a0_0 l0_1 l0_2 t413 t414 t417)) else (impl_StandAt.j0 k a1 true a0_0 l0_1 l0_2 t413 t414 t417)) = some (r1, r2, r3, r4) := H
  have A16 := am A160
  clear A160
  by_cases c17 : t421 = true
  ·subst c17
   replace H : ((impl_isClient.f a1).bind fun t422 => (impl_StandAt.j0 k a1 (!t422) a0_0 l0_1 l0_2 t413 t414 t417)) = some (r1, r2, r3, r4) := by rw [if_pos rfl] at H; exact H
   replace H := Option.bind_eq_some_iff.mp H
   obtain ⟨t422, A180, H⟩ := H
   replace H : (impl_StandAt.j0 k a1 (!t422) a0_0 l0_1 l0_2 t413 t414 t417) = some (r1, r2, r3, r4) := H
   have A18 := am A180
   clear A180
   have H' := am H
   clear H
   have hnb19 := NB411_412.out
   have hnc19 := NB412_411.out
   have hnb20 := NB411_420.out
   have hnc20 := NB420_411.out
   obtain ⟨hcz21_0, hcz21_1, hcz21_2, hfz21_0, hfz21_1, hfz21_2⟩ := bk3 BK411.out
   go_wp2_with (first | ((with_reducible refine gate_callee (f := 26) rfl ?_); refine goesL_ (some 11) rfl rfl Try.func26 (by kernel_rfl) rfl #[.agg #[.int .i64 a0_0, .slice A0_1 l0_1.length c0_1, .slice A0_2 l0_2.length c0_2]] rfl mpx ?_; (with_reducible refine (impl_LatchOk.calls k a0_0 _ _ l0_1 _ _ l0_2 true _ ?side1 ?side2 ?side3 ?side4 A16.out).mono ?_); (case side1 => exact Kd.C_below HR0_1.out (pkW HB.out)); (case side2 => exact HC0_1.out); (case side3 => exact Kd.C_below HR0_2.out (pkW HB.out)); (case side4 => exact HC0_2.out); rintro e w22 ⟨rfl, hb⟩; refine ⟨_, rfl, ?_⟩; replace HO416 := am (Kd.R_below (by (with_reducible repeat (first | apply Kd.R_alloc | apply Kd.R_drewN | apply Kd.R_drew)); exact (Kd.R_mono (Kd.R_far (p := ⟨gb420, 2, none⟩) (Kd.R_far (p := ⟨gb420, 1, none⟩) (Kd.R_far (p := ⟨gb420, 0, none⟩) (Kd.R_types HO416.out BK420.out (by decide)) (fun _ hk => hk.2) (.int .i64 t413)) (fun _ hk => hk.2) (.slice Ao14 t414.length co14)) (fun _ hk => hk.2) (.slice Ao15 t417.length co15)) (fun _ h_ => h_.1))) hb); replace HO419 := am (Kd.R_below (by (with_reducible repeat (first | apply Kd.R_alloc | apply Kd.R_drewN | apply Kd.R_drew)); exact (Kd.R_mono (Kd.R_far (p := ⟨gb420, 2, none⟩) (Kd.R_far (p := ⟨gb420, 1, none⟩) (Kd.R_far (p := ⟨gb420, 0, none⟩) (Kd.R_types HO419.out BK420.out (by decide)) (fun _ hk => hk.2) (.int .i64 t413)) (fun _ hk => hk.2) (.slice Ao14 t414.length co14)) (fun _ hk => hk.2) (.slice Ao15 t417.length co15)) (fun _ h_ => h_.1))) hb); replace BK411 := am (blk_below (g := gb411) (o := .cells #[.int .i64 a0_0, .slice A0_1 l0_1.length c0_1, .slice A0_2 l0_2.length c0_2] 46 (0, 0)) (by (with_reducible repeat (first | refine blk_drewN ?_ _ | refine blk_drew ?_ | refine blk_alloc ?_ _)); refine blk_far ?_ NB411_420.out _; (with_reducible repeat (first | refine blk_drewN ?_ _ | refine blk_drew ?_ | refine blk_alloc ?_ _)); refine blk_far ?_ NB411_420.out _; (with_reducible repeat (first | refine blk_drewN ?_ _ | refine blk_drew ?_ | refine blk_alloc ?_ _)); refine blk_far ?_ NB411_420.out _; exact pkK BK411.out) hb); replace BK412 := am (blk_below (g := gb412) (o := .cells #[.int .i64 0, .slice none 0 0, .slice none 0 0] 46 (0, 0)) (by (with_reducible repeat (first | refine blk_drewN ?_ _ | refine blk_drew ?_ | refine blk_alloc ?_ _)); refine blk_far ?_ NB412_420.out _; (with_reducible repeat (first | refine blk_drewN ?_ _ | refine blk_drew ?_ | refine blk_alloc ?_ _)); refine blk_far ?_ NB412_420.out _; (with_reducible repeat (first | refine blk_drewN ?_ _ | refine blk_drew ?_ | refine blk_alloc ?_ _)); refine blk_far ?_ NB412_420.out _; exact pkK BK412.out) hb); replace BK420 := am (blk_below (g := gb420) (o := .cells #[.int .i64 t413, .slice Ao14 t414.length co14, .slice Ao15 t417.length co15] 46 (0, 0)) (by (with_reducible repeat (first | refine blk_drewN ?_ _ | refine blk_drew ?_ | refine blk_alloc ?_ _)); refine blk_put (cs := #[.int .i64 t413, .slice Ao14 t414.length co14, .slice none 0 0]) ?_ 2 _ rfl; (with_reducible repeat (first | refine blk_drewN ?_ _ | refine blk_drew ?_ | refine blk_alloc ?_ _)); refine blk_put (cs := #[.int .i64 t413, .slice none 0 0, .slice none 0 0]) ?_ 1 _ rfl; (with_reducible repeat (first | refine blk_drewN ?_ _ | refine blk_drew ?_ | refine blk_alloc ?_ _)); refine blk_put (cs := #[.int .i64 0, .slice none 0 0, .slice none 0 0]) ?_ 0 _ rfl; exact pkK BK420.out) hb); replace HB := am (below_step (pkW HB.out) hb); (try clear hb)) | (go_at_call 62; (with_reducible refine (impl_isClient.calls a1 t422 _ A18.out).mono ?_); rintro e w' ⟨rfl, ⟨nd, rfl⟩⟩))
   go_meet
   case rel => exact ⟨_, (!t422), rfx, H', ⟨by first | omega | exact Nat.le_refl _⟩, ⟨pkR HO416.out⟩, ⟨pkR HO419.out⟩, ⟨pkK BK411.out⟩, ⟨pkK BK412.out⟩, ⟨pkK BK420.out⟩, ⟨pkW HB.out⟩⟩
  ·replace c17 := Bool.eq_false_iff.mpr c17
   subst c17
   replace H : (impl_StandAt.j0 k a1 true a0_0 l0_1 l0_2 t413 t414 t417) = some (r1, r2, r3, r4) := by rw [if_neg (show ¬ (false = true) by decide)] at H; exact H
   have H' := am H
   clear H
   have hnb23 := NB411_412.out
   have hnc23 := NB412_411.out
   have hnb24 := NB411_420.out
   have hnc24 := NB420_411.out
   obtain ⟨hcz25_0, hcz25_1, hcz25_2, hfz25_0, hfz25_1, hfz25_2⟩ := bk3 BK411.out
   go_wp2_with (first | ((with_reducible refine gate_callee (f := 26) rfl ?_); refine goesL_ (some 11) rfl rfl Try.func26 (by kernel_rfl) rfl #[.agg #[.int .i64 a0_0, .slice A0_1 l0_1.length c0_1, .slice A0_2 l0_2.length c0_2]] rfl mpx ?_; (with_reducible refine (impl_LatchOk.calls k a0_0 _ _ l0_1 _ _ l0_2 false _ ?side1 ?side2 ?side3 ?side4 A16.out).mono ?_); (case side1 => exact Kd.C_below HR0_1.out (pkW HB.out)); (case side2 => exact HC0_1.out); (case side3 => exact Kd.C_below HR0_2.out (pkW HB.out)); (case side4 => exact HC0_2.out); rintro e w26 ⟨rfl, hb⟩; refine ⟨_, rfl, ?_⟩; replace HO416 := am (Kd.R_below (by (with_reducible repeat (first | apply Kd.R_alloc | apply Kd.R_drewN | apply Kd.R_drew)); exact (Kd.R_mono (Kd.R_far (p := ⟨gb420, 2, none⟩) (Kd.R_far (p := ⟨gb420, 1, none⟩) (Kd.R_far (p := ⟨gb420, 0, none⟩) (Kd.R_types HO416.out BK420.out (by decide)) (fun _ hk => hk.2) (.int .i64 t413)) (fun _ hk => hk.2) (.slice Ao14 t414.length co14)) (fun _ hk => hk.2) (.slice Ao15 t417.length co15)) (fun _ h_ => h_.1))) hb); replace HO419 := am (Kd.R_below (by (with_reducible repeat (first | apply Kd.R_alloc | apply Kd.R_drewN | apply Kd.R_drew)); exact (Kd.R_mono (Kd.R_far (p := ⟨gb420, 2, none⟩) (Kd.R_far (p := ⟨gb420, 1, none⟩) (Kd.R_far (p := ⟨gb420, 0, none⟩) (Kd.R_types HO419.out BK420.out (by decide)) (fun _ hk => hk.2) (.int .i64 t413)) (fun _ hk => hk.2) (.slice Ao14 t414.length co14)) (fun _ hk => hk.2) (.slice Ao15 t417.length co15)) (fun _ h_ => h_.1))) hb); replace BK411 := am (blk_below (g := gb411) (o := .cells #[.int .i64 a0_0, .slice A0_1 l0_1.length c0_1, .slice A0_2 l0_2.length c0_2] 46 (0, 0)) (by (with_reducible repeat (first | refine blk_drewN ?_ _ | refine blk_drew ?_ | refine blk_alloc ?_ _)); refine blk_far ?_ NB411_420.out _; (with_reducible repeat (first | refine blk_drewN ?_ _ | refine blk_drew ?_ | refine blk_alloc ?_ _)); refine blk_far ?_ NB411_420.out _; (with_reducible repeat (first | refine blk_drewN ?_ _ | refine blk_drew ?_ | refine blk_alloc ?_ _)); refine blk_far ?_ NB411_420.out _; exact pkK BK411.out) hb); replace BK412 := am (blk_below (g := gb412) (o := .cells #[.int .i64 0, .slice none 0 0, .slice none 0 0] 46 (0, 0)) (by (with_reducible repeat (first | refine blk_drewN ?_ _ | refine blk_drew ?_ | refine blk_alloc ?_ _)); refine blk_far ?_ NB412_420.out _; (with_reducible repeat (first | refine blk_drewN ?_ _ | refine blk_drew ?_ | refine blk_alloc ?_ _)); refine blk_far ?_ NB412_420.out _; (with_reducible repeat (first | refine blk_drewN ?_ _ | refine blk_drew ?_ | refine blk_alloc ?_ _)); refine blk_far ?_ NB412_420.out _; exact pkK BK412.out) hb); replace BK420 := am (blk_below (g := gb420) (o := .cells #[.int .i64 t413, .slice Ao14 t414.length co14, .slice Ao15 t417.length co15] 46 (0, 0)) (by (with_reducible repeat (first | refine blk_drewN ?_ _ | refine blk_drew ?_ | refine blk_alloc ?_ _)); refine blk_put (cs := #[.int .i64 t413, .slice Ao14 t414.length co14, .slice none 0 0]) ?_ 2 _ rfl; (with_reducible repeat (first | refine blk_drewN ?_ _ | refine blk_drew ?_ | refine blk_alloc ?_ _)); refine blk_put (cs := #[.int .i64 t413, .slice none 0 0, .slice none 0 0]) ?_ 1 _ rfl; (with_reducible repeat (first | refine blk_drewN ?_ _ | refine blk_drew ?_ | refine blk_alloc ?_ _)); refine blk_put (cs := #[.int .i64 0, .slice none 0 0, .slice none 0 0]) ?_ 0 _ rfl; exact pkK BK420.out) hb); replace HB := am (below_step (pkW HB.out) hb); (try clear hb)))
   go_meet
   case rel => exact ⟨_, (true), rfx, H', ⟨by first | omega | exact Nat.le_refl _⟩, ⟨pkR HO416.out⟩, ⟨pkR HO419.out⟩, ⟨pkK BK411.out⟩, ⟨pkK BK412.out⟩, ⟨pkK BK420.out⟩, ⟨pkW HB.out⟩⟩
 case rest =>
  clear HC4
  try clear c1
  try clear c2
  try clear p2
  try clear c7
  try clear c11
  try clear c12
  try clear c17
  try clear c19
  try clear c20
  try clear c23
  try clear c24
  try clear c26
  try clear hcz13_0
  try clear hcz13_1
  try clear hcz13_2
  try clear hcz21_0
  try clear hcz21_1
  try clear hcz21_2
  try clear hcz25_0
  try clear hcz25_1
  try clear hcz25_2
  try clear hcz8_0
  try clear hcz8_1
  try clear hcz8_2
  try clear hfz13_0
  try clear hfz13_1
  try clear hfz13_2
  try clear hfz21_0
  try clear hfz21_1
  try clear hfz21_2
  try clear hfz25_0
  try clear hfz25_1
  try clear hfz25_2
  try clear hfz8_0
  try clear hfz8_1
  try clear hfz8_2
  obtain ⟨kq, x9_3, rfl, HA, HJ3, HO_421001, HO_421002, BK411, BK412, BK420, HB⟩ := hcut
  cases kq with
  | zero => exact absurd HA.out (by simp [impl_StandAt.j0])
  | succ kj3 =>
   have H := HA.out
   clear HA
   simp only [impl_StandAt.j0] at H
   by_cases c27 : x9_3 = true
   ·subst c27
    replace H : (some (t413, t414, t417, 1)) = some (r1, r2, r3, r4) := by rw [if_pos rfl] at H; exact H
    simp only [Option.some.injEq, Prod.mk.injEq] at H
    obtain ⟨rfl, rfl, rfl, rfl⟩ := H
    have hnb28 := NB420_411.out
    have hnc28 := NB411_420.out
    have hnb29 := NB420_412.out
    have hnc29 := NB412_420.out
    obtain ⟨hcz30_0, hcz30_1, hcz30_2, hfz30_0, hfz30_1, hfz30_2⟩ := bk3 BK420.out
    have hnb31 := NB412_411.out
    have hnc31 := NB411_412.out
    obtain ⟨hcz32_0, hcz32_1, hcz32_2, hfz32_0, hfz32_1, hfz32_2⟩ := bk3 BK412.out
    go_wp2
    refine bodyPost_ret (results_ct rfl _ _ gb412 46 #[.int .i64 t413, .slice Ao14 t414.length co14, .slice Ao15 t417.length co15] (0, 0) _ rfl (by (with_reducible repeat (first | refine blk_drewN ?_ _ | refine blk_drew ?_ | refine blk_alloc ?_ _)); refine blk_put (cs := #[.int .i64 t413, .slice Ao14 t414.length co14, .slice none 0 0]) ?_ 2 _ rfl; (with_reducible repeat (first | refine blk_drewN ?_ _ | refine blk_drew ?_ | refine blk_alloc ?_ _)); refine blk_put (cs := #[.int .i64 t413, .slice none 0 0, .slice none 0 0]) ?_ 1 _ rfl; (with_reducible repeat (first | refine blk_drewN ?_ _ | refine blk_drew ?_ | refine blk_alloc ?_ _)); refine blk_put (cs := #[.int .i64 0, .slice none 0 0, .slice none 0 0]) ?_ 0 _ rfl; exact pkK BK412.out) Try.underlying46 rfl (by kernel_rfl)) rfl ?_
    exact ⟨_, _, rfe, by (with_reducible repeat (first | apply Kd.R_alloc | apply Kd.R_drewN | apply Kd.R_drew)); exact Kd.R_mono (Kd.R_far (p := ⟨gb412, 2, none⟩) (Kd.R_far (p := ⟨gb412, 1, none⟩) (Kd.R_far (p := ⟨gb412, 0, none⟩) (Kd.R_types HO_421001.out BK412.out (by decide)) (fun _ hk => hk.2) (.int .i64 t413)) (fun _ hk => hk.2) (.slice Ao14 t414.length co14)) (fun _ hk => hk.2) (.slice Ao15 t417.length co15)) (fun _ hk => hk.1), by (with_reducible repeat (first | apply Kd.R_alloc | apply Kd.R_drewN | apply Kd.R_drew)); exact Kd.R_mono (Kd.R_far (p := ⟨gb412, 2, none⟩) (Kd.R_far (p := ⟨gb412, 1, none⟩) (Kd.R_far (p := ⟨gb412, 0, none⟩) (Kd.R_types HO_421002.out BK412.out (by decide)) (fun _ hk => hk.2) (.int .i64 t413)) (fun _ hk => hk.2) (.slice Ao14 t414.length co14)) (fun _ hk => hk.2) (.slice Ao15 t417.length co15)) (fun _ hk => hk.1), pkW HB.out⟩
   ·replace c27 := Bool.eq_false_iff.mpr c27
    subst c27
    replace H : ((slices_Contains_int_int.f kj3 l0_1 a1).bind fun t423 => (if t423 = true then (impl_StandAt.j1 kj3 a1 true a0_0 l0_1 l0_2 t413 t414 t417) else ((slices_Contains_int_int.f kj3 l0_2 a1).bind fun t424 => (impl_StandAt.j1 kj3 a1 t424 a0_0 l0_1 l0_2 t413 t414 t417)))) = some (r1, r2, r3, r4) := by rw [if_neg (show ¬ (false = true) by decide)] at H; exact H
    have HC33 := am H
    clear H
    go_upto_region 4 with (fail)
    go_cut [19] (fun v19 wc => ∃ (kq : Nat) (x19_32 : Bool), v19 = .bool x19_32 ∧ Aside0 (impl_StandAt.j1 kq a1 x19_32 a0_0 l0_1 l0_2 t413 t414 t417 = some (r1, r2, r3, r4)) ∧ Aside0 (kq ≤ kj3) ∧ Aside0 (Kd.R (Kd.int .i64) 3 wc w.heap.size (fun k_ => some k_ ≠ ((.slice Ao15 t417.length co15) : Value).ownBlock) (.slice Ao14 t414.length co14) t414) ∧ Aside0 (Kd.R (Kd.int .i64) 3 wc w.heap.size (fun k_ => some k_ ≠ ((.slice Ao14 t414.length co14) : Value).ownBlock) (.slice Ao15 t417.length co15) t417) ∧ Aside0 (wc.heap[gb411]? = some (.cells #[.int .i64 a0_0, (.slice A0_1 l0_1.length c0_1), (.slice A0_2 l0_2.length c0_2)] 46 (0, 0))) ∧ Aside0 (wc.heap[gb412]? = some (.cells #[.int .i64 0, (.slice none 0 0), (.slice none 0 0)] 46 (0, 0))) ∧ Aside0 (wc.heap[gb420]? = some (.cells #[.int .i64 t413, (.slice Ao14 t414.length co14), (.slice Ao15 t417.length co15)] 46 (0, 0))) ∧ Aside0 (Below w.heap.size w wc))
    case first =>
     have H := HC33.out
     clear HC33
     replace H := Option.bind_eq_some_iff.mp H
     obtain ⟨t423, A340, H⟩ := H
     replace H : (if t423 = true then (impl_StandAt.j1 kj3 a1 true a0_0 l0_1 l0_2 t413 t414 t417) else ((slices_Contains_int_int.f kj3 l0_2 a1).bind fun t424 => (impl_StandAt.j1 kj3 a1 t424 a0_0 l0_1 l0_2 t413 t414 t417))) = some (r1, r2, r3, r4) := H
     have A34 := am A340
     clear A340
     by_cases c35 : t423 = true
     ·subst c35
      replace H : (impl_StandAt.j1 kj3 a1 true a0_0 l0_1 l0_2 t413 t414 t417) = some (r1, r2, r3, r4) := by rw [if_pos rfl] at H; exact H
      have H' := am H
      clear H
      have hnb36 := NB411_412.out
      have hnc36 := NB412_411.out
      have hnb37 := NB411_420.out
      have hnc37 := NB420_411.out
      obtain ⟨hcz38_0, hcz38_1, hcz38_2, hfz38_0, hfz38_1, hfz38_2⟩ := bk3 BK411.out
      go_wp2_with (first | ((with_reducible refine gate_callee (f := 59) rfl ?_); refine goesL_ (some 23) rfl rfl Try.func59 (by kernel_rfl) rfl #[.slice A0_1 l0_1.length c0_1, .int .i64 a1] rfl mpx ?_; (with_reducible refine (slices_Contains_int_int.calls kj3 _ _ l0_1 a1 true _ ?side1 ?side2 A34.out).mono ?_); (case side1 => exact pkC (Kd.C_below HR0_1.out HB.out)); (case side2 => exact HC0_1.out); rintro e w' ⟨rfl, ⟨nd, rfl⟩⟩; refine ⟨_, rfl, ?_⟩))
      go_meet
      case rel => exact ⟨_, (true), rfx, H', ⟨by have := HJ3.out; first | omega | exact Nat.le_refl _⟩, ⟨pkR HO_421001.out⟩, ⟨pkR HO_421002.out⟩, ⟨pkK BK411.out⟩, ⟨pkK BK412.out⟩, ⟨pkK BK420.out⟩, ⟨pkW HB.out⟩⟩
     ·replace c35 := Bool.eq_false_iff.mpr c35
      subst c35
      replace H : ((slices_Contains_int_int.f kj3 l0_2 a1).bind fun t424 => (impl_StandAt.j1 kj3 a1 t424 a0_0 l0_1 l0_2 t413 t414 t417)) = some (r1, r2, r3, r4) := by rw [if_neg (show ¬ (false = true) by decide)] at H; exact H
      replace H := Option.bind_eq_some_iff.mp H
      obtain ⟨t424, A390, H⟩ := H
      replace H : (impl_StandAt.j1 kj3 a1 t424 a0_0 l0_1 l0_2 t413 t414 t417) = some (r1, r2, r3, r4) := H
      have A39 := am A390
      clear A390
      have H' := am H
      clear H
      have hnb40 := NB411_412.out
      have hnc40 := NB412_411.out
      have hnb41 := NB411_420.out
      have hnc41 := NB420_411.out
      obtain ⟨hcz42_0, hcz42_1, hcz42_2, hfz42_0, hfz42_1, hfz42_2⟩ := bk3 BK411.out
      go_wp2_with (first | ((with_reducible refine gate_callee (f := 59) rfl ?_); refine goesL_ (some 23) rfl rfl Try.func59 (by kernel_rfl) rfl #[.slice A0_1 l0_1.length c0_1, .int .i64 a1] rfl mpx ?_; (with_reducible refine (slices_Contains_int_int.calls kj3 _ _ l0_1 a1 false _ ?side1 ?side2 A34.out).mono ?_); (case side1 => exact pkC (Kd.C_below HR0_1.out HB.out)); (case side2 => exact HC0_1.out); rintro e w' ⟨rfl, ⟨nd, rfl⟩⟩; refine ⟨_, rfl, ?_⟩) | (go_at_call 59; (with_reducible refine (slices_Contains_int_int.calls kj3 _ _ l0_2 a1 t424 _ ?side1 ?side2 A39.out).mono ?_); (case side1 => repeat (first | exact (Kd.C_below HR0_2.out (pkW HB.out)) | (with_reducible refine Kd.C_alloc ?_ _) | (with_reducible refine Kd.C_drewN ?_ _) | (with_reducible refine Kd.C_drew ?_))); (case side2 => exact HC0_2.out); rintro e w' ⟨rfl, ⟨nd, rfl⟩⟩))
      go_meet
      case rel => exact ⟨_, (t424), rfx, H', ⟨by have := HJ3.out; first | omega | exact Nat.le_refl _⟩, ⟨pkR HO_421001.out⟩, ⟨pkR HO_421002.out⟩, ⟨pkK BK411.out⟩, ⟨pkK BK412.out⟩, ⟨pkK BK420.out⟩, ⟨pkW HB.out⟩⟩
    case rest =>
     clear HC33
     try clear c1
     try clear c2
     try clear p2
     try clear c3
     try clear c4
     try clear c5
     try clear c7
     try clear c11
     try clear c12
     try clear c17
     try clear c19
     try clear c20
     try clear c23
     try clear c24
     try clear c26
     try clear c27
     try clear c28
     try clear c29
     try clear c31
     try clear c35
     try clear c36
     try clear c37
     try clear c40
     try clear c41
     try clear hcz13_0
     try clear hcz13_1
     try clear hcz13_2
     try clear hcz21_0
     try clear hcz21_1
     try clear hcz21_2
     try clear hcz25_0
     try clear hcz25_1
     try clear hcz25_2
     try clear hcz30_0
     try clear hcz30_1
     try clear hcz30_2
     try clear hcz32_0
     try clear hcz32_1
     try clear hcz32_2
     try clear hcz38_0
     try clear hcz38_1
     try clear hcz38_2
     try clear hcz42_0
     try clear hcz42_1
     try clear hcz42_2
     try clear hcz8_0
     try clear hcz8_1
     try clear hcz8_2
     try clear hfz13_0
     try clear hfz13_1
     try clear hfz13_2
     try clear hfz21_0
     try clear hfz21_1
     try clear hfz21_2
     try clear hfz25_0
     try clear hfz25_1
     try clear hfz25_2
     try clear hfz30_0
     try clear hfz30_1
     try clear hfz30_2
     try clear hfz32_0
     try clear hfz32_1
     try clear hfz32_2
     try clear hfz38_0
     try clear hfz38_1
     try clear hfz38_2
     try clear hfz42_0
     try clear hfz42_1
     try clear hfz42_2
     try clear hfz8_0
     try clear hfz8_1
     try clear hfz8_2
     try clear p2
     obtain ⟨kq, x19_32, rfl, HA, HJ32, HO_421001, HO_421002, BK411, BK412, BK420, HB⟩ := hcut
     cases kq with
     | zero => exact absurd HA.out (by simp [impl_StandAt.j1])
     | succ kj32 =>
      have H := HA.out
      clear HA
      simp only [impl_StandAt.j1] at H
      by_cases c43 : x19_32 = true
      ·subst c43
       replace H : (some (t413, t414, t417, 5)) = some (r1, r2, r3, r4) := by rw [if_pos rfl] at H; exact H
       simp only [Option.some.injEq, Prod.mk.injEq] at H
       obtain ⟨rfl, rfl, rfl, rfl⟩ := H
       have hnb44 := NB420_411.out
       have hnc44 := NB411_420.out
       have hnb45 := NB420_412.out
       have hnc45 := NB412_420.out
       obtain ⟨hcz46_0, hcz46_1, hcz46_2, hfz46_0, hfz46_1, hfz46_2⟩ := bk3 BK420.out
       have hnb47 := NB412_411.out
       have hnc47 := NB411_412.out
       obtain ⟨hcz48_0, hcz48_1, hcz48_2, hfz48_0, hfz48_1, hfz48_2⟩ := bk3 BK412.out
       go_wp2
       refine bodyPost_ret (results_ct rfl _ _ gb412 46 #[.int .i64 t413, .slice Ao14 t414.length co14, .slice Ao15 t417.length co15] (0, 0) _ rfl (by (with_reducible repeat (first | refine blk_drewN ?_ _ | refine blk_drew ?_ | refine blk_alloc ?_ _)); refine blk_put (cs := #[.int .i64 t413, .slice Ao14 t414.length co14, .slice none 0 0]) ?_ 2 _ rfl; (with_reducible repeat (first | refine blk_drewN ?_ _ | refine blk_drew ?_ | refine blk_alloc ?_ _)); refine blk_put (cs := #[.int .i64 t413, .slice none 0 0, .slice none 0 0]) ?_ 1 _ rfl; (with_reducible repeat (first | refine blk_drewN ?_ _ | refine blk_drew ?_ | refine blk_alloc ?_ _)); refine blk_put (cs := #[.int .i64 0, .slice none 0 0, .slice none 0 0]) ?_ 0 _ rfl; exact pkK BK412.out) Try.underlying46 rfl (by kernel_rfl)) rfl ?_
       exact ⟨_, _, rfe, by (with_reducible repeat (first | apply Kd.R_alloc | apply Kd.R_drewN | apply Kd.R_drew)); exact Kd.R_mono (Kd.R_far (p := ⟨gb412, 2, none⟩) (Kd.R_far (p := ⟨gb412, 1, none⟩) (Kd.R_far (p := ⟨gb412, 0, none⟩) (Kd.R_types HO_421001.out BK412.out (by decide)) (fun _ hk => hk.2) (.int .i64 t413)) (fun _ hk => hk.2) (.slice Ao14 t414.length co14)) (fun _ hk => hk.2) (.slice Ao15 t417.length co15)) (fun _ hk => hk.1), by (with_reducible repeat (first | apply Kd.R_alloc | apply Kd.R_drewN | apply Kd.R_drew)); exact Kd.R_mono (Kd.R_far (p := ⟨gb412, 2, none⟩) (Kd.R_far (p := ⟨gb412, 1, none⟩) (Kd.R_far (p := ⟨gb412, 0, none⟩) (Kd.R_types HO_421002.out BK412.out (by decide)) (fun _ hk => hk.2) (.int .i64 t413)) (fun _ hk => hk.2) (.slice Ao14 t414.length co14)) (fun _ hk => hk.2) (.slice Ao15 t417.length co15)) (fun _ hk => hk.1), pkW HB.out⟩
      ·replace c43 := Bool.eq_false_iff.mpr c43
       subst c43
       replace H : (if a0_0 = 0 then (some (t413, t414, t417, 0)) else (if (l0_1.length : Int) = 32 then (some (t413, t414, t417, 2)) else (if t414.length < 17592186044416 then (some (t413, (t414 ++ [a1]), t417, 4)) else (none)))) = some (r1, r2, r3, r4) := by rw [if_neg (show ¬ (false = true) by decide)] at H; exact H
       by_cases c49 : a0_0 = 0
       ·rw [if_pos c49] at H
        have c49b0 : (a0_0 == 0) = true := beq_iff_eq.mpr c49
        have c49b1 : (a0_0 != 0) = false := bne_eq_false_iff_eq.mpr c49
        clear c49
        simp only [Option.some.injEq, Prod.mk.injEq] at H
        obtain ⟨rfl, rfl, rfl, rfl⟩ := H
        have hnb50 := NB411_412.out
        have hnc50 := NB412_411.out
        have hnb51 := NB411_420.out
        have hnc51 := NB420_411.out
        obtain ⟨hcz52_0, hcz52_1, hcz52_2, hfz52_0, hfz52_1, hfz52_2⟩ := bk3 BK411.out
        have hnb53 := NB420_412.out
        have hnc53 := NB412_420.out
        obtain ⟨hcz54_0, hcz54_1, hcz54_2, hfz54_0, hfz54_1, hfz54_2⟩ := bk3 BK420.out
        obtain ⟨hcz55_0, hcz55_1, hcz55_2, hfz55_0, hfz55_1, hfz55_2⟩ := bk3 BK412.out
        go_wp2
        refine bodyPost_ret (results_ct rfl _ _ gb412 46 #[.int .i64 t413, .slice Ao14 t414.length co14, .slice Ao15 t417.length co15] (0, 0) _ rfl (by (with_reducible repeat (first | refine blk_drewN ?_ _ | refine blk_drew ?_ | refine blk_alloc ?_ _)); refine blk_put (cs := #[.int .i64 t413, .slice Ao14 t414.length co14, .slice none 0 0]) ?_ 2 _ rfl; (with_reducible repeat (first | refine blk_drewN ?_ _ | refine blk_drew ?_ | refine blk_alloc ?_ _)); refine blk_put (cs := #[.int .i64 t413, .slice none 0 0, .slice none 0 0]) ?_ 1 _ rfl; (with_reducible repeat (first | refine blk_drewN ?_ _ | refine blk_drew ?_ | refine blk_alloc ?_ _)); refine blk_put (cs := #[.int .i64 0, .slice none 0 0, .slice none 0 0]) ?_ 0 _ rfl; exact pkK BK412.out) Try.underlying46 rfl (by kernel_rfl)) rfl ?_
        exact ⟨_, _, rfe, by (with_reducible repeat (first | apply Kd.R_alloc | apply Kd.R_drewN | apply Kd.R_drew)); exact Kd.R_mono (Kd.R_far (p := ⟨gb412, 2, none⟩) (Kd.R_far (p := ⟨gb412, 1, none⟩) (Kd.R_far (p := ⟨gb412, 0, none⟩) (Kd.R_types HO_421001.out BK412.out (by decide)) (fun _ hk => hk.2) (.int .i64 t413)) (fun _ hk => hk.2) (.slice Ao14 t414.length co14)) (fun _ hk => hk.2) (.slice Ao15 t417.length co15)) (fun _ hk => hk.1), by (with_reducible repeat (first | apply Kd.R_alloc | apply Kd.R_drewN | apply Kd.R_drew)); exact Kd.R_mono (Kd.R_far (p := ⟨gb412, 2, none⟩) (Kd.R_far (p := ⟨gb412, 1, none⟩) (Kd.R_far (p := ⟨gb412, 0, none⟩) (Kd.R_types HO_421002.out BK412.out (by decide)) (fun _ hk => hk.2) (.int .i64 t413)) (fun _ hk => hk.2) (.slice Ao14 t414.length co14)) (fun _ hk => hk.2) (.slice Ao15 t417.length co15)) (fun _ hk => hk.1), pkW HB.out⟩
       ·rw [if_neg c49] at H
        have c49b0 : (a0_0 == 0) = false := beq_eq_false_iff_ne.mpr c49
        have c49b1 : (a0_0 != 0) = true := bne_iff_ne.mpr c49
        by_cases c56 : (l0_1.length : Int) = 32
        ·rw [if_pos c56] at H
         have c56b0 : ((l0_1.length : Int) == 32) = true := beq_iff_eq.mpr c56
         have c56b1 : ((l0_1.length : Int) != 32) = false := bne_eq_false_iff_eq.mpr c56
         clear c56
         simp only [Option.some.injEq, Prod.mk.injEq] at H
         obtain ⟨rfl, rfl, rfl, rfl⟩ := H
         have hnb57 := NB411_412.out
         have hnc57 := NB412_411.out
         have hnb58 := NB411_420.out
         have hnc58 := NB420_411.out
         obtain ⟨hcz59_0, hcz59_1, hcz59_2, hfz59_0, hfz59_1, hfz59_2⟩ := bk3 BK411.out
         have hnb60 := NB420_412.out
         have hnc60 := NB412_420.out
         obtain ⟨hcz61_0, hcz61_1, hcz61_2, hfz61_0, hfz61_1, hfz61_2⟩ := bk3 BK420.out
         obtain ⟨hcz62_0, hcz62_1, hcz62_2, hfz62_0, hfz62_1, hfz62_2⟩ := bk3 BK412.out
         go_wp2
         refine bodyPost_ret (results_ct rfl _ _ gb412 46 #[.int .i64 t413, .slice Ao14 t414.length co14, .slice Ao15 t417.length co15] (0, 0) _ rfl (by (with_reducible repeat (first | refine blk_drewN ?_ _ | refine blk_drew ?_ | refine blk_alloc ?_ _)); refine blk_put (cs := #[.int .i64 t413, .slice Ao14 t414.length co14, .slice none 0 0]) ?_ 2 _ rfl; (with_reducible repeat (first | refine blk_drewN ?_ _ | refine blk_drew ?_ | refine blk_alloc ?_ _)); refine blk_put (cs := #[.int .i64 t413, .slice none 0 0, .slice none 0 0]) ?_ 1 _ rfl; (with_reducible repeat (first | refine blk_drewN ?_ _ | refine blk_drew ?_ | refine blk_alloc ?_ _)); refine blk_put (cs := #[.int .i64 0, .slice none 0 0, .slice none 0 0]) ?_ 0 _ rfl; exact pkK BK412.out) Try.underlying46 rfl (by kernel_rfl)) rfl ?_
         exact ⟨_, _, rfe, by (with_reducible repeat (first | apply Kd.R_alloc | apply Kd.R_drewN | apply Kd.R_drew)); exact Kd.R_mono (Kd.R_far (p := ⟨gb412, 2, none⟩) (Kd.R_far (p := ⟨gb412, 1, none⟩) (Kd.R_far (p := ⟨gb412, 0, none⟩) (Kd.R_types HO_421001.out BK412.out (by decide)) (fun _ hk => hk.2) (.int .i64 t413)) (fun _ hk => hk.2) (.slice Ao14 t414.length co14)) (fun _ hk => hk.2) (.slice Ao15 t417.length co15)) (fun _ hk => hk.1), by (with_reducible repeat (first | apply Kd.R_alloc | apply Kd.R_drewN | apply Kd.R_drew)); exact Kd.R_mono (Kd.R_far (p := ⟨gb412, 2, none⟩) (Kd.R_far (p := ⟨gb412, 1, none⟩) (Kd.R_far (p := ⟨gb412, 0, none⟩) (Kd.R_types HO_421002.out BK412.out (by decide)) (fun _ hk => hk.2) (.int .i64 t413)) (fun _ hk => hk.2) (.slice Ao14 t414.length co14)) (fun _ hk => hk.2) (.slice Ao15 t417.length co15)) (fun _ hk => hk.1), pkW HB.out⟩
        ·rw [if_neg c56] at H
         have c56b0 : ((l0_1.length : Int) == 32) = false := beq_eq_false_iff_ne.mpr c56
         have c56b1 : ((l0_1.length : Int) != 32) = true := bne_iff_ne.mpr c56
         by_cases c63 : t414.length < 17592186044416
         ·rw [if_pos c63] at H
          have LMc63 := am c63
          clear c63
          obtain ⟨y425, hy425⟩ : ∃ y_ : List Int, y_ = (t414 ++ [a1]) := ⟨_, rfl⟩
          replace H : (some (t413, y425, t417, 4)) = some (r1, r2, r3, r4) := by first | (rw [hy425]; with_reducible exact H) | (have H2_ := (Option.bind_some _ _).symm.trans H; rw [hy425]; with_reducible exact H2_) | (have H2_ := (Option.bind_some _ _).symm.trans H; with_reducible exact H2_) | with_reducible exact H | (rw [hy425]; exact H) | exact H
          have Ny425 := am hy425
          clear hy425
          simp only [Option.some.injEq, Prod.mk.injEq] at H
          obtain ⟨rfl, rfl, rfl, rfl⟩ := H
          have hnb64 := NB411_412.out
          have hnc64 := NB412_411.out
          have hnb65 := NB411_420.out
          have hnc65 := NB420_411.out
          obtain ⟨hcz66_0, hcz66_1, hcz66_2, hfz66_0, hfz66_1, hfz66_2⟩ := bk3 BK411.out
          have hnb67 := NB420_412.out
          have hnc67 := NB412_420.out
          obtain ⟨hcz68_0, hcz68_1, hcz68_2, hfz68_0, hfz68_1, hfz68_2⟩ := bk3 BK420.out
          go_wp2_with (first | ((with_reducible refine gate_builtin (b := .append) (xs := #[.tmp 43, .tmp 45]) rfl ?_); at_builtin; refine Kd.R_append (Kd.int .i64) (w0 := w) w.heap.size rfl (.tmp 43) (.tmp 45) 27 3 (.int .i64 0) 8 rfl Try.underlying27 info3 rfl (by decide) (by omega) (.slice Ao14 t414.length co14) t414 a1 [.int .i64 a1] (fun k_ => some k_ ≠ (.slice Ao15 t417.length co15 : Value).ownBlock) (fun _ => False) rfl rfl ?aP (fun _ hk => hk.elim) ?aF ?aO ?aB ?aS ?aL ?_; (case aP => exact rfl); (case aB => exact (pkW HB.out)); (case aF => exact (fun k_ hk => Kd.fresh' (Kd.R_lt (pkR HO_421002.out)) k_ hk)); (case aO => exact (pkR HO_421001.out)); (case aS => exact (below_size (pkW HB.out))); (case aL => have := LMc63.out; omega); intro v426 w69 ho hb hg hat; rw [← Ny425.out] at ho; replace HO_421002 := am (Kd.R_after (ok := (fun _ => True)) (by (with_reducible repeat (first | apply Kd.R_alloc | apply Kd.R_drewN | apply Kd.R_drew)); exact Kd.R_mono HO_421002.out (fun _ hk => ⟨trivial, hk⟩)) hg hat); replace BK411 := am (blk_grown (g := gb411) (o := .cells #[.int .i64 a0_0, .slice A0_1 l0_1.length c0_1, .slice A0_2 l0_2.length c0_2] 46 (0, 0)) (pkK BK411.out) hg (Kd.R_ne HO_421001.out BK411.out (by decide))); replace BK412 := am (blk_grown (g := gb412) (o := .cells #[.int .i64 0, .slice none 0 0, .slice none 0 0] 46 (0, 0)) (pkK BK412.out) hg (Kd.R_ne HO_421001.out BK412.out (by decide))); replace BK420 := am (blk_grown (g := gb420) (o := .cells #[.int .i64 t413, .slice Ao14 t414.length co14, .slice Ao15 t417.length co15] 46 (0, 0)) (pkK BK420.out) hg (Kd.R_ne HO_421001.out BK420.out (by decide))); replace HB := am (hb); have HO427 := am (ho); clear HO_421001; clear ho hb hg hat; obtain ⟨Ao70, co70, eo70⟩ := Kd.R_slice HO427.out; subst eo70; obtain ⟨hcz71_0, hcz71_1, hcz71_2, hfz71_0, hfz71_1, hfz71_2⟩ := bk3 BK420.out; obtain ⟨hcz72_0, hcz72_1, hcz72_2, hfz72_0, hfz72_1, hfz72_2⟩ := bk3 BK412.out))
          refine bodyPost_ret (results_ct rfl _ _ gb412 46 #[.int .i64 t413, .slice Ao70 y425.length co70, .slice Ao15 t417.length co15] (0, 0) _ rfl (by (with_reducible repeat (first | refine blk_drewN ?_ _ | refine blk_drew ?_ | refine blk_alloc ?_ _)); refine blk_put (cs := #[.int .i64 t413, .slice Ao70 y425.length co70, .slice none 0 0]) ?_ 2 _ rfl; (with_reducible repeat (first | refine blk_drewN ?_ _ | refine blk_drew ?_ | refine blk_alloc ?_ _)); refine blk_put (cs := #[.int .i64 t413, .slice none 0 0, .slice none 0 0]) ?_ 1 _ rfl; (with_reducible repeat (first | refine blk_drewN ?_ _ | refine blk_drew ?_ | refine blk_alloc ?_ _)); refine blk_put (cs := #[.int .i64 0, .slice none 0 0, .slice none 0 0]) ?_ 0 _ rfl; (with_reducible repeat (first | refine blk_drewN ?_ _ | refine blk_drew ?_ | refine blk_alloc ?_ _)); refine blk_far ?_ NB412_420.out _; exact pkK BK412.out) Try.underlying46 rfl (by kernel_rfl)) rfl ?_
          exact ⟨_, _, rfe, by (with_reducible repeat (first | apply Kd.R_alloc | apply Kd.R_drewN | apply Kd.R_drew)); exact Kd.R_mono (Kd.R_far (p := ⟨gb412, 2, none⟩) (Kd.R_far (p := ⟨gb412, 1, none⟩) (Kd.R_far (p := ⟨gb412, 0, none⟩) (Kd.R_far (p := ⟨gb420, 1, none⟩) (Kd.R_types (Kd.R_types HO427.out BK420.out (by decide)) BK412.out (by decide)) (fun _ hk => hk.1.2) (.slice Ao70 y425.length co70)) (fun _ hk => hk.2) (.int .i64 t413)) (fun _ hk => hk.2) (.slice Ao70 y425.length co70)) (fun _ hk => hk.2) (.slice Ao15 t417.length co15)) (fun _ hk => hk.1.1), by (with_reducible repeat (first | apply Kd.R_alloc | apply Kd.R_drewN | apply Kd.R_drew)); exact Kd.R_mono (Kd.R_far (p := ⟨gb412, 2, none⟩) (Kd.R_far (p := ⟨gb412, 1, none⟩) (Kd.R_far (p := ⟨gb412, 0, none⟩) (Kd.R_far (p := ⟨gb420, 1, none⟩) (Kd.R_types (Kd.R_types HO_421002.out BK420.out (by decide)) BK412.out (by decide)) (fun _ hk => hk.1.2) (.slice Ao70 y425.length co70)) (fun _ hk => hk.2) (.int .i64 t413)) (fun _ hk => hk.2) (.slice Ao70 y425.length co70)) (fun _ hk => hk.2) (.slice Ao15 t417.length co15)) (fun _ hk => hk.1.1.2), pkW HB.out⟩
         ·rw [if_neg c63] at H
          exact absurd H (by simp)
end Go.Proofs.Ytffcphplnilokaa.Z
