/- The Go functions impl_CountDown as Lean functions, each with a proof that its code comes to just these answers; conditions: those of each theorem. -/
import Derived.Test.YtffcphplnilokaaZx0
import Derived.Test.YtffcphplnilokaaZx5
import Derived.Test.YtffcphplnilokaaZx9
import Derived.Test.YtffcphplnilokaaZx22
import Derived.Test.YtffcphplnilokaaZx25
namespace Go.Proofs.Ytffcphplnilokaa.Z
open Go.RowKit Go.Proofs.YtffcphplnilokaaW.PrintWords Go.Proofs.YtffcphplnilokaaW.PrintLast Go.Proofs.YtffcphplnilokaaW.PrintMore
attribute [local go_sem] max2_int min2_int max_two min_two max_three min_three max_four min_four   -- for this text's walks alone
set_option linter.unusedVariables false
set_option linter.unusedSimpArgs false
mutual
def impl_CountDown.j1 : Nat → Int → Int → List Int → List Int → Int → List Int → List Int → Option (Int × List Int × List Int × List Int × Int)
 | 0, _, _, _, _, _, _, _ => none
 | k + 1, x1, x429000, x429001, x429002, x438000, x438001, x438002 => if (wrap64 (x438000 - x1)) > 0 then (some (wrap64 (x438000 - x1), x438001, x438002, ([] : List Int), 0)) else ((impl_release.f x429001 x429002).bind fun bt439 => ((slices_Clone_int_int.f x429001).bind fun t445 => (some (wrap64 (x438000 - x1), bt439.1, bt439.2, t445, 0))))
def impl_CountDown.j0 : Nat → Int → Bool → Int → List Int → List Int → Int → List Int → List Int → Option (Int × List Int × List Int × List Int × Int)
 | 0, _, _, _, _, _, _, _, _ => none
 | k + 1, x1, x10, x429000, x429001, x429002, x438000, x438001, x438002 => if x10 = true then (some (x438000, x438001, x438002, ([] : List Int), 1)) else (if x1 > x429000 then (some (x438000, x438001, x438002, ([] : List Int), 6)) else (if x1 = x429000 then (if (wrap64 ((x429001.length : Int) + (x429002.length : Int))) > 32 then (some (x438000, x438001, x438002, ([] : List Int), 2)) else (impl_CountDown.j1 k x1 x429000 x429001 x429002 x438000 x438001 x438002)) else (impl_CountDown.j1 k x1 x429000 x429001 x429002 x438000 x438001 x438002)))
end
def impl_CountDown.f (k : Nat) (a0_0 : Int) (l0_1 : List Int) (l0_2 : List Int) (a1 : Int) : Option (Int × List Int × List Int × List Int × Int) := (impl_copyLatch.f a0_0 l0_1 l0_2).bind fun bt430 => ((impl_LatchOk.f k a0_0 l0_1 l0_2).bind fun t438 => (if t438 = true then (impl_CountDown.j0 k a1 (decide (a1 < 1)) a0_0 l0_1 l0_2 bt430.1 bt430.2.1 bt430.2.2) else (impl_CountDown.j0 k a1 true a0_0 l0_1 l0_2 bt430.1 bt430.2.1 bt430.2.2)))
theorem impl_CountDown.mono_l : ∀ k, (∀ y0 y1 y2 y3 y4 y5 y6, LeO (impl_CountDown.j1 k y0 y1 y2 y3 y4 y5 y6) (impl_CountDown.j1 (k + 1) y0 y1 y2 y3 y4 y5 y6)) ∧ (∀ y0 y1 y2 y3 y4 y5 y6 y7, LeO (impl_CountDown.j0 k y0 y1 y2 y3 y4 y5 y6 y7) (impl_CountDown.j0 (k + 1) y0 y1 y2 y3 y4 y5 y6 y7))
 | 0 => ⟨fun _ _ _ _ _ _ _ r h => by simp [impl_CountDown.j1] at h, fun _ _ _ _ _ _ _ _ r h => by simp [impl_CountDown.j0] at h⟩
 | k + 1 => by
  obtain ⟨ih0, ih1⟩ := impl_CountDown.mono_l k
  refine ⟨?_, ?_⟩
  ·intro y0 y1 y2 y3 y4 y5 y6
   unfold impl_CountDown.j1
   repeat' first
   | (with_reducible exact ih0 _ _ _ _ _ _ _)
   | (with_reducible exact ih1 _ _ _ _ _ _ _ _)
   | (with_reducible exact impl_LatchOk.mono _ _ _ _)
   | (with_reducible exact LeO.refl _)
   | (with_reducible exact LeO.none _)
   | (with_reducible refine LeO.ite ?_ ?_)
   | (with_reducible refine LeO.bind ?_ (fun _ => ?_))
  ·intro y0 y1 y2 y3 y4 y5 y6 y7
   unfold impl_CountDown.j0
   repeat' first
   | (with_reducible exact ih0 _ _ _ _ _ _ _)
   | (with_reducible exact ih1 _ _ _ _ _ _ _ _)
   | (with_reducible exact impl_LatchOk.mono _ _ _ _)
   | (with_reducible exact LeO.refl _)
   | (with_reducible exact LeO.none _)
   | (with_reducible refine LeO.ite ?_ ?_)
   | (with_reducible refine LeO.bind ?_ (fun _ => ?_))
theorem impl_CountDown.mono : ∀ a0 a1 a2 a3 k, LeO (impl_CountDown.f k a0 a1 a2 a3) (impl_CountDown.f (k + 1) a0 a1 a2 a3) := by
 intro a0 a1 a2 a3 k
 obtain ⟨ih0, ih1⟩ := impl_CountDown.mono_l k
 unfold impl_CountDown.f
 repeat' first
   | (with_reducible exact ih0 _ _ _ _ _ _ _)
   | (with_reducible exact ih1 _ _ _ _ _ _ _ _)
   | (with_reducible exact impl_LatchOk.mono _ _ _ _)
   | (with_reducible exact LeO.refl _)
   | (with_reducible exact LeO.none _)
   | (with_reducible refine LeO.ite ?_ ?_)
   | (with_reducible refine LeO.bind ?_ (fun _ => ?_))
set_option maxHeartbeats 8000000 in
set_option maxRecDepth 100000 in
theorem impl_CountDown.calls (k : Nat) (a0_0 : Int) (A0_1 : Option Addr) (c0_1 : Nat) (l0_1 : List Int) (A0_2 : Option Addr) (c0_2 : Nat) (l0_2 : List Int) (a1 : Int) (r1 : Int) (r2 : List Int) (r3 : List Int) (r4 : List Int) (r5 : Int) (w : World) (hr0_1 : Kd.C (Kd.int .i64) w A0_1 l0_1.length l0_1) (hc0_1 : l0_1.length ≤ c0_1) (hr0_2 : Kd.C (Kd.int .i64) w A0_2 l0_2.length l0_2) (hc0_2 : l0_2.length ≤ c0_2) (h : impl_CountDown.f k a0_0 l0_1 l0_2 a1 = some (r1, r2, r3, r4, r5)) :
  Calls Try.prog 29 #[.agg #[.int .i64 a0_0, .slice A0_1 l0_1.length c0_1, .slice A0_2 l0_2.length c0_2], .int .i64 a1] w fun e w' => ∃ v1_ v2_ v3_ : Value, e = .returned (.tuple #[.agg #[.int .i64 r1, v1_, v2_], v3_, .int .i64 r5]) ∧ Kd.R (Kd.int .i64) 3 w' w.heap.size (fun k_ => some k_ ≠ (v2_ : Value).ownBlock ∧ some k_ ≠ (v3_ : Value).ownBlock) v1_ r2 ∧ Kd.R (Kd.int .i64) 3 w' w.heap.size (fun k_ => some k_ ≠ (v1_ : Value).ownBlock ∧ some k_ ≠ (v3_ : Value).ownBlock) v2_ r3 ∧ Kd.R (Kd.int .i64) 3 w' w.heap.size (fun k_ => some k_ ≠ (v1_ : Value).ownBlock ∧ some k_ ≠ (v2_ : Value).ownBlock) v3_ r4 ∧ Below w.heap.size w w' := by
 have hu46 := Try.underlying46
 have HR0_1 := am hr0_1
 have HC0_1 := am hc0_1
 clear hr0_1 hc0_1
 have HR0_2 := am hr0_2
 have HC0_2 := am hc0_2
 clear hr0_2 hc0_2
 have HB := am (Below.refl w.heap.size w)
 have H : ((impl_copyLatch.f a0_0 l0_1 l0_2).bind fun bt430 => ((impl_LatchOk.f k a0_0 l0_1 l0_2).bind fun t438 => (if t438 = true then (impl_CountDown.j0 k a1 (decide (a1 < 1)) a0_0 l0_1 l0_2 bt430.1 bt430.2.1 bt430.2.2) else (impl_CountDown.j0 k a1 true a0_0 l0_1 l0_2 bt430.1 bt430.2.1 bt430.2.2)))) = some (r1, r2, r3, r4, r5) := h
 clear h
 replace H := Option.bind_eq_some_iff.mp H
 obtain ⟨⟨t430, t431, t434⟩, A30, H⟩ := H
 replace H : ((impl_LatchOk.f k a0_0 l0_1 l0_2).bind fun t438 => (if t438 = true then (impl_CountDown.j0 k a1 (decide (a1 < 1)) a0_0 l0_1 l0_2 t430 t431 t434) else (impl_CountDown.j0 k a1 true a0_0 l0_1 l0_2 t430 t431 t434))) = some (r1, r2, r3, r4, r5) := H
 have A3 := am A30
 clear A30
 have HC4 := am H
 clear H
 go_enter Try.func29, Try.ntmps29
 go_upto_block 0 with (first | ((with_reducible refine gate_dst (N := 2) rfl ?_); (try (refine gate_guard (by rfl) ?_; dsimp only)); refine box_event ?hg (N := 2) ?hd (cs := #[.int .i64 a0_0, .slice A0_1 l0_1.length c0_1, .slice A0_2 l0_2.length c0_2]) (t := 46) ?hr ?_; (case hd => rfl); (case hg => rfl); (case hr => first | (go_simp; done) | (go_simp; rfl)); intro gb428 hg w5 hbox hb; have BK428 := am (hbox); have GW428 := am ((by rw [hg]; exact (below_size (pkB HB.out)) : w.heap.size ≤ gb428)); have GE428 := am ((by rw [hg]; exact (below_size (pkB HB.out)) : w.heap.size ≤ gb428)); replace HB := am (below_step (pkB HB.out) hb); clear hb hbox hg) | ((with_reducible refine gate_dst (N := 4) rfl ?_); (try (refine gate_guard (by rfl) ?_; dsimp only)); refine box_event ?hg (N := 4) ?hd (cs := #[.int .i64 0, .slice none 0 0, .slice none 0 0]) (t := 46) ?hr ?_; (case hd => rfl); (case hg => rfl); (case hr => first | (go_simp; done) | (go_simp; rfl)); intro gb429 hg w6 hbox hb; have BK429 := am (hbox); have GW429 := am ((by rw [hg]; exact (below_size (pkW HB.out)) : w.heap.size ≤ gb429)); have GE429 := am ((by rw [hg]; exact (below_size (pkW HB.out)) : w.heap.size ≤ gb429)); replace HB := am (below_step (pkW HB.out) hb); have NB428_429 := am ((by rw [hg]; exact Nat.ne_of_lt (blk_lt (g := gb428) (o := .cells #[.int .i64 a0_0, .slice A0_1 l0_1.length c0_1, .slice A0_2 l0_2.length c0_2] 46 (0, 0)) (pkK BK428.out)) : gb428 ≠ gb429)); have NB429_428 := am ((by rw [hg]; exact Nat.ne_of_gt (blk_lt (g := gb428) (o := .cells #[.int .i64 a0_0, .slice A0_1 l0_1.length c0_1, .slice A0_2 l0_2.length c0_2] 46 (0, 0)) (pkK BK428.out)) : gb429 ≠ gb428)); replace BK428 := am (blk_below (pkK BK428.out) hb); clear hb hbox hg; have hnb7 := NB428_429.out; have hnc7 := NB429_428.out; obtain ⟨hcz8_0, hcz8_1, hcz8_2, hfz8_0, hfz8_1, hfz8_2⟩ := bk3 BK428.out) | ((with_reducible refine gate_callee (f := 70) rfl ?_); refine goesL_ (some 9) rfl rfl Try.func70 (by kernel_rfl) rfl #[.agg #[.int .i64 a0_0, .slice A0_1 l0_1.length c0_1, .slice A0_2 l0_2.length c0_2]] rfl mpx ?_; (with_reducible refine (impl_copyLatch.calls a0_0 _ _ l0_1 _ _ l0_2 t430 t431 t434 _ ?side1 ?side2 ?side3 ?side4 A3.out).mono ?_); (case side1 => exact pkC (Kd.C_below HR0_1.out HB.out)); (case side2 => exact HC0_1.out); (case side3 => exact pkC (Kd.C_below HR0_2.out HB.out)); (case side4 => exact HC0_2.out); rintro e w9 ⟨v432, v435, rfl, ho0, ho1, hb⟩; refine ⟨_, rfl, ?_⟩; have HO433 := am (Kd.R_lower ho0 (below_size (pkW HB.out))); have HO436 := am (Kd.R_lower ho1 (below_size (pkW HB.out))); replace BK428 := am (blk_below (pkK BK428.out) hb); replace BK429 := am (blk_below (pkK BK429.out) hb); replace HB := am (below_step (pkW HB.out) hb); (try clear hb ho0 ho1)) | ((with_reducible refine gate_dst (N := 7) rfl ?_); (try (refine gate_guard (by rfl) ?_; dsimp only)); refine box_event ?hg (N := 7) ?hd (cs := #[.int .i64 0, .slice none 0 0, .slice none 0 0]) (t := 46) ?hr ?_; (case hd => rfl); (case hg => rfl); (case hr => first | (go_simp; done) | (go_simp; rfl)); intro gb437 hg w10 hbox hb; replace HO433 := am (Kd.R_below (pkR HO433.out) hb); replace HO436 := am (Kd.R_below (pkR HO436.out) hb); have BK437 := am (hbox); have GW437 := am ((by rw [hg]; exact (below_size (pkW HB.out)) : w.heap.size ≤ gb437)); have GE437 := am ((by rw [hg]; exact (below_size (pkW HB.out)) : w.heap.size ≤ gb437)); replace HB := am (below_step (pkW HB.out) hb); have NB428_437 := am ((by rw [hg]; exact Nat.ne_of_lt (blk_lt (g := gb428) (o := .cells #[.int .i64 a0_0, .slice A0_1 l0_1.length c0_1, .slice A0_2 l0_2.length c0_2] 46 (0, 0)) (pkK BK428.out)) : gb428 ≠ gb437)); have NB437_428 := am ((by rw [hg]; exact Nat.ne_of_gt (blk_lt (g := gb428) (o := .cells #[.int .i64 a0_0, .slice A0_1 l0_1.length c0_1, .slice A0_2 l0_2.length c0_2] 46 (0, 0)) (pkK BK428.out)) : gb437 ≠ gb428)); replace BK428 := am (blk_below (pkK BK428.out) hb); have NB429_437 := am ((by rw [hg]; exact Nat.ne_of_lt (blk_lt (g := gb429) (o := .cells #[.int .i64 0, .slice none 0 0, .slice none 0 0] 46 (0, 0)) (pkK BK429.out)) : gb429 ≠ gb437)); have NB437_429 := am ((by rw [hg]; exact Nat.ne_of_gt (blk_lt (g := gb429) (o := .cells #[.int .i64 0, .slice none 0 0, .slice none 0 0] 46 (0, 0)) (pkK BK429.out)) : gb437 ≠ gb429)); replace BK429 := am (blk_below (pkK BK429.out) hb); clear hb hbox hg; have hnb11 := NB437_428.out; have hnc11 := NB428_437.out; have hnb12 := NB437_429.out; have hnc12 := NB429_437.out; obtain ⟨hcz13_0, hcz13_1, hcz13_2, hfz13_0, hfz13_1, hfz13_2⟩ := bk3 BK437.out; obtain ⟨Ao14, co14, eo14⟩ := Kd.R_slice HO433.out; subst eo14; obtain ⟨Ao15, co15, eo15⟩ := Kd.R_slice HO436.out; subst eo15))
 (try simp only [Act.put, List.setIfInBounds_toArray, List.set_cons_zero, List.set_cons_succ])
 go_cut [] (fun wc => ∃ (kq : Nat) (x430000_3 : Int), Aside0 (impl_CountDown.j1 kq a1 a0_0 l0_1 l0_2 t430 t431 t434 = some (r1, r2, r3, r4, r5)) ∧ Aside0 (kq ≤ k) ∧ Aside0 (Kd.R (Kd.int .i64) 3 wc w.heap.size (fun k_ => some k_ ≠ ((.slice Ao15 t434.length co15) : Value).ownBlock) (.slice Ao14 t431.length co14) t431) ∧ Aside0 (Kd.R (Kd.int .i64) 3 wc w.heap.size (fun k_ => some k_ ≠ ((.slice Ao14 t431.length co14) : Value).ownBlock) (.slice Ao15 t434.length co15) t434) ∧ Aside0 (wc.heap[gb428]? = some (.cells #[.int .i64 a0_0, (.slice A0_1 l0_1.length c0_1), (.slice A0_2 l0_2.length c0_2)] 46 (0, 0))) ∧ Aside0 (wc.heap[gb429]? = some (.cells #[.int .i64 x430000_3, (.slice none 0 0), (.slice none 0 0)] 46 (0, 0))) ∧ Aside0 (wc.heap[gb437]? = some (.cells #[.int .i64 t430, (.slice Ao14 t431.length co14), (.slice Ao15 t434.length co15)] 46 (0, 0))) ∧ Aside0 (Below w.heap.size w wc))
 case first =>
  have H := HC4.out
  clear HC4
  have HC16 := am H
  clear H
  go_upto_region 2 with (fail)
  go_cut [10] (fun v10 wc => ∃ (kq : Nat) (x10_15 : Bool), v10 = .bool x10_15 ∧ Aside0 (impl_CountDown.j0 kq a1 x10_15 a0_0 l0_1 l0_2 t430 t431 t434 = some (r1, r2, r3, r4, r5)) ∧ Aside0 (kq ≤ k) ∧ Aside0 (Kd.R (Kd.int .i64) 3 wc w.heap.size (fun k_ => some k_ ≠ ((.slice Ao15 t434.length co15) : Value).ownBlock) (.slice Ao14 t431.length co14) t431) ∧ Aside0 (Kd.R (Kd.int .i64) 3 wc w.heap.size (fun k_ => some k_ ≠ ((.slice Ao14 t431.length co14) : Value).ownBlock) (.slice Ao15 t434.length co15) t434) ∧ Aside0 (wc.heap[gb428]? = some (.cells #[.int .i64 a0_0, (.slice A0_1 l0_1.length c0_1), (.slice A0_2 l0_2.length c0_2)] 46 (0, 0))) ∧ Aside0 (wc.heap[gb429]? = some (.cells #[.int .i64 0, (.slice none 0 0), (.slice none 0 0)] 46 (0, 0))) ∧ Aside0 (wc.heap[gb437]? = some (.cells #[.int .i64 t430, (.slice Ao14 t431.length co14), (.slice Ao15 t434.length co15)] 46 (0, 0))) ∧ Aside0 (Below w.heap.size w wc))
  case first =>
   have H := HC16.out
   clear HC16
   replace H := Option.bind_eq_some_iff.mp H
   obtain ⟨t438, A170, H⟩ := H
   replace H : (if t438 = true then (impl_CountDown.j0 k a1 (decide (a1 < 1)) a0_0 l0_1 l0_2 t430 t431 t434) else (impl_CountDown.j0 k a1 true a0_0 l0_1 l0_2 t430 t431 t434)) = some (r1, r2, r3, r4, r5) := H
   have A17 := am A170
   clear A170
   by_cases c18 : t438 = true
   ·subst c18
    replace H : (impl_CountDown.j0 k a1 (decide (a1 < 1)) a0_0 l0_1 l0_2 t430 t431 t434) = some (r1, r2, r3, r4, r5) := by rw [if_pos rfl] at H; exact H
    have H' := am H
    clear H
    have hnb19 := NB428_429.out
    have hnc19 := NB429_428.out
    have hnb20 := NB428_437.out
    have hnc20 := NB437_428.out
    obtain ⟨hcz21_0, hcz21_1, hcz21_2, hfz21_0, hfz21_1, hfz21_2⟩ := bk3 BK428.out
    go_wp2_with (first | ((with_reducible refine gate_callee (f := 26) rfl ?_); refine goesL_ (some 12) rfl rfl Try.func26 (by kernel_rfl) rfl #[.agg #[.int .i64 a0_0, .slice A0_1 l0_1.length c0_1, .slice A0_2 l0_2.length c0_2]] rfl mpx ?_; (with_reducible refine (impl_LatchOk.calls k a0_0 _ _ l0_1 _ _ l0_2 true _ ?side1 ?side2 ?side3 ?side4 A17.out).mono ?_); (case side1 => exact Kd.C_below HR0_1.out (pkW HB.out)); (case side2 => exact HC0_1.out); (case side3 => exact Kd.C_below HR0_2.out (pkW HB.out)); (case side4 => exact HC0_2.out); rintro e w22 ⟨rfl, hb⟩; refine ⟨_, rfl, ?_⟩; replace HO433 := am (Kd.R_below (by (with_reducible repeat (first | apply Kd.R_alloc | apply Kd.R_drewN | apply Kd.R_drew)); exact (Kd.R_mono (Kd.R_far (p := ⟨gb437, 2, none⟩) (Kd.R_far (p := ⟨gb437, 1, none⟩) (Kd.R_far (p := ⟨gb437, 0, none⟩) (Kd.R_types HO433.out BK437.out (by decide)) (fun _ hk => hk.2) (.int .i64 t430)) (fun _ hk => hk.2) (.slice Ao14 t431.length co14)) (fun _ hk => hk.2) (.slice Ao15 t434.length co15)) (fun _ h_ => h_.1))) hb); replace HO436 := am (Kd.R_below (by (with_reducible repeat (first | apply Kd.R_alloc | apply Kd.R_drewN | apply Kd.R_drew)); exact (Kd.R_mono (Kd.R_far (p := ⟨gb437, 2, none⟩) (Kd.R_far (p := ⟨gb437, 1, none⟩) (Kd.R_far (p := ⟨gb437, 0, none⟩) (Kd.R_types HO436.out BK437.out (by decide)) (fun _ hk => hk.2) (.int .i64 t430)) (fun _ hk => hk.2) (.slice Ao14 t431.length co14)) (fun _ hk => hk.2) (.slice Ao15 t434.length co15)) (fun _ h_ => h_.1))) hb); replace BK428 := am (blk_below (g := gb428) (o := .cells #[.int .i64 a0_0, .slice A0_1 l0_1.length c0_1, .slice A0_2 l0_2.length c0_2] 46 (0, 0)) (by (with_reducible repeat (first | refine blk_drewN ?_ _ | refine blk_drew ?_ | refine blk_alloc ?_ _)); refine blk_far ?_ NB428_437.out _; (with_reducible repeat (first | refine blk_drewN ?_ _ | refine blk_drew ?_ | refine blk_alloc ?_ _)); refine blk_far ?_ NB428_437.out _; (with_reducible repeat (first | refine blk_drewN ?_ _ | refine blk_drew ?_ | refine blk_alloc ?_ _)); refine blk_far ?_ NB428_437.out _; exact pkK BK428.out) hb); replace BK429 := am (blk_below (g := gb429) (o := .cells #[.int .i64 0, .slice none 0 0, .slice none 0 0] 46 (0, 0)) (by (with_reducible repeat (first | refine blk_drewN ?_ _ | refine blk_drew ?_ | refine blk_alloc ?_ _)); refine blk_far ?_ NB429_437.out _; (with_reducible repeat (first | refine blk_drewN ?_ _ | refine blk_drew ?_ | refine blk_alloc ?_ _)); refine blk_far ?_ NB429_437.out _; (with_reducible repeat (first | refine blk_drewN ?_ _ | refine blk_drew ?_ | refine blk_alloc ?_ _)); refine blk_far ?_ NB429_437.out _; exact pkK BK429.out) hb); replace BK437 := am (blk_below (g := gb437) (o := .cells #[.int .i64 t430, .slice Ao14 t431.length co14, .slice Ao15 t434.length co15] 46 (0, 0)) (by (with_reducible repeat (first | refine blk_drewN ?_ _ | refine blk_drew ?_ | refine blk_alloc ?_ _)); refine blk_put (cs := #[.int .i64 t430, .slice Ao14 t431.length co14, .slice none 0 0]) ?_ 2 _ rfl; (with_reducible repeat (first | refine blk_drewN ?_ _ | refine blk_drew ?_ | refine blk_alloc ?_ _)); refine blk_put (cs := #[.int .i64 t430, .slice none 0 0, .slice none 0 0]) ?_ 1 _ rfl; (with_reducible repeat (first | refine blk_drewN ?_ _ | refine blk_drew ?_ | refine blk_alloc ?_ _)); refine blk_put (cs := #[.int .i64 0, .slice none 0 0, .slice none 0 0]) ?_ 0 _ rfl; exact pkK BK437.out) hb); replace HB := am (below_step (pkW HB.out) hb); (try clear hb)))
    go_meet
    case rel => exact ⟨_, (decide (a1 < 1)), rfx, H', ⟨by first | omega | exact Nat.le_refl _⟩, ⟨pkR HO433.out⟩, ⟨pkR HO436.out⟩, ⟨pkK BK428.out⟩, ⟨pkK BK429.out⟩, ⟨pkK BK437.out⟩, ⟨pkW HB.out⟩⟩
   ·replace c18 := Bool.eq_false_iff.mpr c18
    subst c18
    replace H : (impl_CountDown.j0 k a1 true a0_0 l0_1 l0_2 t430 t431 t434) = some (r1, r2, r3, r4, r5) := by rw [if_neg (show ¬ (false = true) by decide)] at H; exact H
    have H' := am H
    clear H
    have hnb23 := NB428_429.out
    have hnc23 := NB429_428.out
    have hnb24 := NB428_437.out
    have hnc24 := NB437_428.out
    obtain ⟨hcz25_0, hcz25_1, hcz25_2, hfz25_0, hfz25_1, hfz25_2⟩ := bk3 BK428.out
    go_wp2_with (first | ((with_reducible refine gate_callee (f := 26) rfl ?_); refine goesL_ (some 12) rfl rfl Try.func26 (by kernel_rfl) rfl #[.agg #[.int .i64 a0_0, .slice A0_1 l0_1.length c0_1, .slice A0_2 l0_2.length c0_2]] rfl mpx ?_; (with_reducible refine (impl_LatchOk.calls k a0_0 _ _ l0_1 _ _ l0_2 false _ ?side1 ?side2 ?side3 ?side4 A17.out).mono ?_); (case side1 => exact Kd.C_below HR0_1.out (pkW HB.out)); (case side2 => exact HC0_1.out); (case side3 => exact Kd.C_below HR0_2.out (pkW HB.out)); (case side4 => exact HC0_2.out); rintro e w26 ⟨rfl, hb⟩; refine ⟨_, rfl, ?_⟩; replace HO433 := am (Kd.R_below (by (with_reducible repeat (first | apply Kd.R_alloc | apply Kd.R_drewN | apply Kd.R_drew)); exact (Kd.R_mono (Kd.R_far (p := ⟨gb437, 2, none⟩) (Kd.R_far (p := ⟨gb437, 1, none⟩) (Kd.R_far (p := ⟨gb437, 0, none⟩) (Kd.R_types HO433.out BK437.out (by decide)) (fun _ hk => hk.2) (.int .i64 t430)) (fun _ hk => hk.2) (.slice Ao14 t431.length co14)) (fun _ hk => hk.2) (.slice Ao15 t434.length co15)) (fun _ h_ => h_.1))) hb); replace HO436 := am (Kd.R_below (by (with_reducible repeat (first | apply Kd.R_alloc | apply Kd.R_drewN | apply Kd.R_drew)); exact (Kd.R_mono (Kd.R_far (p := ⟨gb437, 2, none⟩) (Kd.R_far (p := ⟨gb437, 1, none⟩) (Kd.R_far (p := ⟨gb437, 0, none⟩) (Kd.R_types HO436.out BK437.out (by decide)) (fun _ hk => hk.2) (.int .i64 t430)) (fun _ hk => hk.2) (.slice Ao14 t431.length co14)) (fun _ hk => hk.2) (.slice Ao15 t434.length co15)) (fun _ h_ => h_.1))) hb); replace BK428 := am (blk_below (g := gb428) (o := .cells #[.int .i64 a0_0, .slice A0_1 l0_1.length c0_1, .slice A0_2 l0_2.length c0_2] 46 (0, 0)) (by (with_reducible repeat (first | refine blk_drewN ?_ _ | refine blk_drew ?_ | refine blk_alloc ?_ _)); refine blk_far ?_ NB428_437.out _; (with_reducible repeat (first | refine blk_drewN ?_ _ | refine blk_drew ?_ | refine blk_alloc ?_ _)); refine blk_far ?_ NB428_437.out _; (with_reducible repeat (first | refine blk_drewN ?_ _ | refine blk_drew ?_ | refine blk_alloc ?_ _)); refine blk_far ?_ NB428_437.out _; exact pkK BK428.out) hb); replace BK429 := am (blk_below (g := gb429) (o := .cells #[.int .i64 0, .slice none 0 0, .slice none 0 0] 46 (0, 0)) (by (with_reducible repeat (first | refine blk_drewN ?_ _ | refine blk_drew ?_ | refine blk_alloc ?_ _)); refine blk_far ?_ NB429_437.out _; (with_reducible repeat (first | refine blk_drewN ?_ _ | refine blk_drew ?_ | refine blk_alloc ?_ _)); refine blk_far ?_ NB429_437.out _; (with_reducible repeat (first | refine blk_drewN ?_ _ | refine blk_drew ?_ | refine blk_alloc ?_ _)); refine blk_far ?_ NB429_437.out _; exact pkK BK429.out) hb); replace BK437 := am (blk_below (g := gb437) (o := .cells #[.int .i64 t430, .slice Ao14 t431.length co14, .slice Ao15 t434.length co15] 46 (0, 0)) (by (with_reducible repeat (first | refine blk_drewN ?_ _ | refine blk_drew ?_ | refine blk_alloc ?_ _)); refine blk_put (cs := #[.int .i64 t430, .slice Ao14 t431.length co14, .slice none 0 0]) ?_ 2 _ rfl; (with_reducible repeat (first | refine blk_drewN ?_ _ | refine blk_drew ?_ | refine blk_alloc ?_ _)); refine blk_put (cs := #[.int .i64 t430, .slice none 0 0, .slice none 0 0]) ?_ 1 _ rfl; (with_reducible repeat (first | refine blk_drewN ?_ _ | refine blk_drew ?_ | refine blk_alloc ?_ _)); refine blk_put (cs := #[.int .i64 0, .slice none 0 0, .slice none 0 0]) ?_ 0 _ rfl; exact pkK BK437.out) hb); replace HB := am (below_step (pkW HB.out) hb); (try clear hb)))
    go_meet
    case rel => exact ⟨_, (true), rfx, H', ⟨by first | omega | exact Nat.le_refl _⟩, ⟨pkR HO433.out⟩, ⟨pkR HO436.out⟩, ⟨pkK BK428.out⟩, ⟨pkK BK429.out⟩, ⟨pkK BK437.out⟩, ⟨pkW HB.out⟩⟩
  case rest =>
   clear HC16
   try clear c1
   try clear c2
   try clear p2
   try clear c7
   try clear c11
   try clear c12
   try clear c18
   try clear c19
   try clear c20
   try clear c23
   try clear c24
   try clear c26
   try clear hcz13_0
   try clear hcz13_1
   try clear hcz13_2
   try clear hcz21_0
   try clear hcz21_1
   try clear hcz21_2
   try clear hcz25_0
   try clear hcz25_1
   try clear hcz25_2
   try clear hcz8_0
   try clear hcz8_1
   try clear hcz8_2
   try clear hfz13_0
   try clear hfz13_1
   try clear hfz13_2
   try clear hfz21_0
   try clear hfz21_1
   try clear hfz21_2
   try clear hfz25_0
   try clear hfz25_1
   try clear hfz25_2
   try clear hfz8_0
   try clear hfz8_1
   try clear hfz8_2
   obtain ⟨kq, x10_15, rfl, HA, HJ15, HO_438001, HO_438002, BK428, BK429, BK437, HB⟩ := hcut
   cases kq with
   | zero => exact absurd HA.out (by simp [impl_CountDown.j0])
   | succ kj15 =>
    have H := HA.out
    clear HA
    simp only [impl_CountDown.j0] at H
    by_cases c27 : x10_15 = true
    ·subst c27
     replace H : (some (t430, t431, t434, ([] : List Int), 1)) = some (r1, r2, r3, r4, r5) := by rw [if_pos rfl] at H; exact H
     simp only [Option.some.injEq, Prod.mk.injEq] at H
     obtain ⟨rfl, rfl, rfl, rfl, rfl⟩ := H
     have hnb28 := NB437_428.out
     have hnc28 := NB428_437.out
     have hnb29 := NB437_429.out
     have hnc29 := NB429_437.out
     obtain ⟨hcz30_0, hcz30_1, hcz30_2, hfz30_0, hfz30_1, hfz30_2⟩ := bk3 BK437.out
     have hnb31 := NB429_428.out
     have hnc31 := NB428_429.out
     obtain ⟨hcz32_0, hcz32_1, hcz32_2, hfz32_0, hfz32_1, hfz32_2⟩ := bk3 BK429.out
     go_wp2
     refine bodyPost_ret (results_ctt rfl _ _ gb429 46 #[.int .i64 t430, .slice Ao14 t431.length co14, .slice Ao15 t434.length co15] (0, 0) _ rfl (by (with_reducible repeat (first | refine blk_drewN ?_ _ | refine blk_drew ?_ | refine blk_alloc ?_ _)); refine blk_put (cs := #[.int .i64 t430, .slice Ao14 t431.length co14, .slice none 0 0]) ?_ 2 _ rfl; (with_reducible repeat (first | refine blk_drewN ?_ _ | refine blk_drew ?_ | refine blk_alloc ?_ _)); refine blk_put (cs := #[.int .i64 t430, .slice none 0 0, .slice none 0 0]) ?_ 1 _ rfl; (with_reducible repeat (first | refine blk_drewN ?_ _ | refine blk_drew ?_ | refine blk_alloc ?_ _)); refine blk_put (cs := #[.int .i64 0, .slice none 0 0, .slice none 0 0]) ?_ 0 _ rfl; exact pkK BK429.out) Try.underlying46 rfl (by kernel_rfl)) rfl ?_
     exact ⟨_, _, _, rfe, by (with_reducible repeat (first | apply Kd.R_alloc | apply Kd.R_drewN | apply Kd.R_drew)); exact Kd.R_mono (Kd.R_far (p := ⟨gb429, 2, none⟩) (Kd.R_far (p := ⟨gb429, 1, none⟩) (Kd.R_far (p := ⟨gb429, 0, none⟩) (Kd.R_types HO_438001.out BK429.out (by decide)) (fun _ hk => hk.2) (.int .i64 t430)) (fun _ hk => hk.2) (.slice Ao14 t431.length co14)) (fun _ hk => hk.2) (.slice Ao15 t434.length co15)) (fun _ hk => ⟨hk.1, (by simp [Value.ownBlock])⟩), by (with_reducible repeat (first | apply Kd.R_alloc | apply Kd.R_drewN | apply Kd.R_drew)); exact Kd.R_mono (Kd.R_far (p := ⟨gb429, 2, none⟩) (Kd.R_far (p := ⟨gb429, 1, none⟩) (Kd.R_far (p := ⟨gb429, 0, none⟩) (Kd.R_types HO_438002.out BK429.out (by decide)) (fun _ hk => hk.2) (.int .i64 t430)) (fun _ hk => hk.2) (.slice Ao14 t431.length co14)) (fun _ hk => hk.2) (.slice Ao15 t434.length co15)) (fun _ hk => ⟨hk.1, (by simp [Value.ownBlock])⟩), by first | exact Kd.R_nil _ _ _ _ _ | exact Kd.N_nil _ _ _ _ _ | exact Kd.V_nil _ _ _ _ _ | exact Kd.Q_nil _ _ _ _ _ | exact Kd.S_nil _ _ _ _ _, pkW HB.out⟩
    ·replace c27 := Bool.eq_false_iff.mpr c27
     subst c27
     replace H : (if a1 > a0_0 then (some (t430, t431, t434, ([] : List Int), 6)) else (if a1 = a0_0 then (if (wrap64 ((l0_1.length : Int) + (l0_2.length : Int))) > 32 then (some (t430, t431, t434, ([] : List Int), 2)) else (impl_CountDown.j1 kj15 a1 a0_0 l0_1 l0_2 t430 t431 t434)) else (impl_CountDown.j1 kj15 a1 a0_0 l0_1 l0_2 t430 t431 t434))) = some (r1, r2, r3, r4, r5) := by rw [if_neg (show ¬ (false = true) by decide)] at H; exact H
     by_cases c33 : a1 > a0_0
     ·rw [if_pos c33] at H
      have c33b0 : decide (a0_0 < a1) = true := decide_eq_true c33
      clear c33
      simp only [Option.some.injEq, Prod.mk.injEq] at H
      obtain ⟨rfl, rfl, rfl, rfl, rfl⟩ := H
      have hnb34 := NB428_429.out
      have hnc34 := NB429_428.out
      have hnb35 := NB428_437.out
      have hnc35 := NB437_428.out
      obtain ⟨hcz36_0, hcz36_1, hcz36_2, hfz36_0, hfz36_1, hfz36_2⟩ := bk3 BK428.out
      have hnb37 := NB437_429.out
      have hnc37 := NB429_437.out
      obtain ⟨hcz38_0, hcz38_1, hcz38_2, hfz38_0, hfz38_1, hfz38_2⟩ := bk3 BK437.out
      obtain ⟨hcz39_0, hcz39_1, hcz39_2, hfz39_0, hfz39_1, hfz39_2⟩ := bk3 BK429.out
      go_wp2
      refine bodyPost_ret (results_ctt rfl _ _ gb429 46 #[.int .i64 t430, .slice Ao14 t431.length co14, .slice Ao15 t434.length co15] (0, 0) _ rfl (by (with_reducible repeat (first | refine blk_drewN ?_ _ | refine blk_drew ?_ | refine blk_alloc ?_ _)); refine blk_put (cs := #[.int .i64 t430, .slice Ao14 t431.length co14, .slice none 0 0]) ?_ 2 _ rfl; (with_reducible repeat (first | refine blk_drewN ?_ _ | refine blk_drew ?_ | refine blk_alloc ?_ _)); refine blk_put (cs := #[.int .i64 t430, .slice none 0 0, .slice none 0 0]) ?_ 1 _ rfl; (with_reducible repeat (first | refine blk_drewN ?_ _ | refine blk_drew ?_ | refine blk_alloc ?_ _)); refine blk_put (cs := #[.int .i64 0, .slice none 0 0, .slice none 0 0]) ?_ 0 _ rfl; exact pkK BK429.out) Try.underlying46 rfl (by kernel_rfl)) rfl ?_
      exact ⟨_, _, _, rfe, by (with_reducible repeat (first | apply Kd.R_alloc | apply Kd.R_drewN | apply Kd.R_drew)); exact Kd.R_mono (Kd.R_far (p := ⟨gb429, 2, none⟩) (Kd.R_far (p := ⟨gb429, 1, none⟩) (Kd.R_far (p := ⟨gb429, 0, none⟩) (Kd.R_types HO_438001.out BK429.out (by decide)) (fun _ hk => hk.2) (.int .i64 t430)) (fun _ hk => hk.2) (.slice Ao14 t431.length co14)) (fun _ hk => hk.2) (.slice Ao15 t434.length co15)) (fun _ hk => ⟨hk.1, (by simp [Value.ownBlock])⟩), by (with_reducible repeat (first | apply Kd.R_alloc | apply Kd.R_drewN | apply Kd.R_drew)); exact Kd.R_mono (Kd.R_far (p := ⟨gb429, 2, none⟩) (Kd.R_far (p := ⟨gb429, 1, none⟩) (Kd.R_far (p := ⟨gb429, 0, none⟩) (Kd.R_types HO_438002.out BK429.out (by decide)) (fun _ hk => hk.2) (.int .i64 t430)) (fun _ hk => hk.2) (.slice Ao14 t431.length co14)) (fun _ hk => hk.2) (.slice Ao15 t434.length co15)) (fun _ hk => ⟨hk.1, (by simp [Value.ownBlock])⟩), by first | exact Kd.R_nil _ _ _ _ _ | exact Kd.N_nil _ _ _ _ _ | exact Kd.V_nil _ _ _ _ _ | exact Kd.Q_nil _ _ _ _ _ | exact Kd.S_nil _ _ _ _ _, pkW HB.out⟩
     ·rw [if_neg c33] at H
      have c33b0 : decide (a0_0 < a1) = false := decide_eq_false c33
      clear c33
      by_cases c40 : a1 = a0_0
      ·rw [if_pos c40] at H
       have c40b0 : (a1 == a0_0) = true := beq_iff_eq.mpr c40
       have c40b1 : (a1 != a0_0) = false := bne_eq_false_iff_eq.mpr c40
       clear c40
       by_cases c41 : (wrap64 ((l0_1.length : Int) + (l0_2.length : Int))) > 32
       ·rw [if_pos c41] at H
        have c41b0 : decide (32 < (wrap64 ((l0_1.length : Int) + (l0_2.length : Int)))) = true := decide_eq_true c41
        clear c41
        simp only [Option.some.injEq, Prod.mk.injEq] at H
        obtain ⟨rfl, rfl, rfl, rfl, rfl⟩ := H
        have hnb42 := NB428_429.out
        have hnc42 := NB429_428.out
        have hnb43 := NB428_437.out
        have hnc43 := NB437_428.out
        obtain ⟨hcz44_0, hcz44_1, hcz44_2, hfz44_0, hfz44_1, hfz44_2⟩ := bk3 BK428.out
        have hnb45 := NB437_429.out
        have hnc45 := NB429_437.out
        obtain ⟨hcz46_0, hcz46_1, hcz46_2, hfz46_0, hfz46_1, hfz46_2⟩ := bk3 BK437.out
        obtain ⟨hcz47_0, hcz47_1, hcz47_2, hfz47_0, hfz47_1, hfz47_2⟩ := bk3 BK429.out
        go_wp2
        refine bodyPost_ret (results_ctt rfl _ _ gb429 46 #[.int .i64 t430, .slice Ao14 t431.length co14, .slice Ao15 t434.length co15] (0, 0) _ rfl (by (with_reducible repeat (first | refine blk_drewN ?_ _ | refine blk_drew ?_ | refine blk_alloc ?_ _)); refine blk_put (cs := #[.int .i64 t430, .slice Ao14 t431.length co14, .slice none 0 0]) ?_ 2 _ rfl; (with_reducible repeat (first | refine blk_drewN ?_ _ | refine blk_drew ?_ | refine blk_alloc ?_ _)); refine blk_put (cs := #[.int .i64 t430, .slice none 0 0, .slice none 0 0]) ?_ 1 _ rfl; (with_reducible repeat (first | refine blk_drewN ?_ _ | refine blk_drew ?_ | refine blk_alloc ?_ _)); refine blk_put (cs := #[.int .i64 0, .slice none 0 0, .slice none 0 0]) ?_ 0 _ rfl; exact pkK BK429.out) Try.underlying46 rfl (by kernel_rfl)) rfl ?_
        exact ⟨_, _, _, rfe, by (with_reducible repeat (first | apply Kd.R_alloc | apply Kd.R_drewN | apply Kd.R_drew)); exact Kd.R_mono (Kd.R_far (p := ⟨gb429, 2, none⟩) (Kd.R_far (p := ⟨gb429, 1, none⟩) (Kd.R_far (p := ⟨gb429, 0, none⟩) (Kd.R_types HO_438001.out BK429.out (by decide)) (fun _ hk => hk.2) (.int .i64 t430)) (fun _ hk => hk.2) (.slice Ao14 t431.length co14)) (fun _ hk => hk.2) (.slice Ao15 t434.length co15)) (fun _ hk => ⟨hk.1, (by simp [Value.ownBlock])⟩), by (with_reducible repeat (first | apply Kd.R_alloc | apply Kd.R_drewN | apply Kd.R_drew)); exact Kd.R_mono (Kd.R_far (p := ⟨gb429, 2, none⟩) (Kd.R_far (p := ⟨gb429, 1, none⟩) (Kd.R_far (p := ⟨gb429, 0, none⟩) (Kd.R_types HO_438002.out BK429.out (by decide)) (fun _ hk => hk.2) (.int .i64 t430)) (fun _ hk => hk.2) (.slice Ao14 t431.length co14)) (fun _ hk => hk.2) (.slice Ao15 t434.length co15)) (fun _ hk => ⟨hk.1, (by simp [Value.ownBlock])⟩), by first | exact Kd.R_nil _ _ _ _ _ | exact Kd.N_nil _ _ _ _ _ | exact Kd.V_nil _ _ _ _ _ | exact Kd.Q_nil _ _ _ _ _ | exact Kd.S_nil _ _ _ _ _, pkW HB.out⟩
       ·rw [if_neg c41] at H
        have c41b0 : decide (32 < (wrap64 ((l0_1.length : Int) + (l0_2.length : Int)))) = false := decide_eq_false c41
        clear c41
        have H' := am H
        clear H
        have hnb48 := NB428_429.out
        have hnc48 := NB429_428.out
        have hnb49 := NB428_437.out
        have hnc49 := NB437_428.out
        obtain ⟨hcz50_0, hcz50_1, hcz50_2, hfz50_0, hfz50_1, hfz50_2⟩ := bk3 BK428.out
        go_wp2
        go_meet
        case rel => exact ⟨_, (0), H', ⟨by have := HJ15.out; first | omega | exact Nat.le_refl _⟩, ⟨pkR HO_438001.out⟩, ⟨pkR HO_438002.out⟩, ⟨pkK BK428.out⟩, ⟨pkK BK429.out⟩, ⟨pkK BK437.out⟩, ⟨pkW HB.out⟩⟩
      ·rw [if_neg c40] at H
       have c40b0 : (a1 == a0_0) = false := beq_eq_false_iff_ne.mpr c40
       have c40b1 : (a1 != a0_0) = true := bne_iff_ne.mpr c40
       have H' := am H
       clear H
       have hnb51 := NB428_429.out
       have hnc51 := NB429_428.out
       have hnb52 := NB428_437.out
       have hnc52 := NB437_428.out
       obtain ⟨hcz53_0, hcz53_1, hcz53_2, hfz53_0, hfz53_1, hfz53_2⟩ := bk3 BK428.out
       go_wp2
       go_meet
       case rel => exact ⟨_, (0), H', ⟨by have := HJ15.out; first | omega | exact Nat.le_refl _⟩, ⟨pkR HO_438001.out⟩, ⟨pkR HO_438002.out⟩, ⟨pkK BK428.out⟩, ⟨pkK BK429.out⟩, ⟨pkK BK437.out⟩, ⟨pkW HB.out⟩⟩
 case rest =>
  clear HC4
  try clear c1
  try clear c2
  try clear p2
  try clear c3
  try clear c4
  try clear c5
  try clear p6
  try clear c7
  try clear c11
  try clear c12
  try clear c18
  try clear c19
  try clear c20
  try clear c23
  try clear c24
  try clear c26
  try clear c27
  try clear c28
  try clear c29
  try clear c31
  try clear c33
  try clear c33b0
  try clear c34
  try clear c35
  try clear c37
  try clear c40
  try clear c40b0
  try clear c40b1
  try clear c41
  try clear c41b0
  try clear c42
  try clear c43
  try clear c45
  try clear c48
  try clear c49
  try clear c51
  try clear c52
  try clear hcz13_0
  try clear hcz13_1
  try clear hcz13_2
  try clear hcz21_0
  try clear hcz21_1
  try clear hcz21_2
  try clear hcz25_0
  try clear hcz25_1
  try clear hcz25_2
  try clear hcz30_0
  try clear hcz30_1
  try clear hcz30_2
  try clear hcz32_0
  try clear hcz32_1
  try clear hcz32_2
  try clear hcz36_0
  try clear hcz36_1
  try clear hcz36_2
  try clear hcz38_0
  try clear hcz38_1
  try clear hcz38_2
  try clear hcz39_0
  try clear hcz39_1
  try clear hcz39_2
  try clear hcz44_0
  try clear hcz44_1
  try clear hcz44_2
  try clear hcz46_0
  try clear hcz46_1
  try clear hcz46_2
  try clear hcz47_0
  try clear hcz47_1
  try clear hcz47_2
  try clear hcz50_0
  try clear hcz50_1
  try clear hcz50_2
  try clear hcz53_0
  try clear hcz53_1
  try clear hcz53_2
  try clear hcz8_0
  try clear hcz8_1
  try clear hcz8_2
  try clear hfz13_0
  try clear hfz13_1
  try clear hfz13_2
  try clear hfz21_0
  try clear hfz21_1
  try clear hfz21_2
  try clear hfz25_0
  try clear hfz25_1
  try clear hfz25_2
  try clear hfz30_0
  try clear hfz30_1
  try clear hfz30_2
  try clear hfz32_0
  try clear hfz32_1
  try clear hfz32_2
  try clear hfz36_0
  try clear hfz36_1
  try clear hfz36_2
  try clear hfz38_0
  try clear hfz38_1
  try clear hfz38_2
  try clear hfz39_0
  try clear hfz39_1
  try clear hfz39_2
  try clear hfz44_0
  try clear hfz44_1
  try clear hfz44_2
  try clear hfz46_0
  try clear hfz46_1
  try clear hfz46_2
  try clear hfz47_0
  try clear hfz47_1
  try clear hfz47_2
  try clear hfz50_0
  try clear hfz50_1
  try clear hfz50_2
  try clear hfz53_0
  try clear hfz53_1
  try clear hfz53_2
  try clear hfz8_0
  try clear hfz8_1
  try clear hfz8_2
  try clear p2
  obtain ⟨kq, x430000_3, HA, HJ3, HO_438001, HO_438002, BK428, BK429, BK437, HB⟩ := hcut
  cases kq with
  | zero => exact absurd HA.out (by simp [impl_CountDown.j1])
  | succ kj3 =>
   have H := HA.out
   clear HA
   simp only [impl_CountDown.j1] at H
   by_cases c54 : (wrap64 (t430 - a1)) > 0
   ·rw [if_pos c54] at H
    have c54b0 : decide (0 < (wrap64 (t430 - a1))) = true := decide_eq_true c54
    clear c54
    simp only [Option.some.injEq, Prod.mk.injEq] at H
    obtain ⟨rfl, rfl, rfl, rfl, rfl⟩ := H
    have hnb55 := NB437_428.out
    have hnc55 := NB428_437.out
    have hnb56 := NB437_429.out
    have hnc56 := NB429_437.out
    obtain ⟨hcz57_0, hcz57_1, hcz57_2, hfz57_0, hfz57_1, hfz57_2⟩ := bk3 BK437.out
    have hnb58 := NB429_428.out
    have hnc58 := NB428_429.out
    obtain ⟨hcz59_0, hcz59_1, hcz59_2, hfz59_0, hfz59_1, hfz59_2⟩ := bk3 BK429.out
    go_wp2
    refine bodyPost_ret (results_ctt rfl _ _ gb429 46 #[.int .i64 (wrap64 (t430 - a1)), .slice Ao14 t431.length co14, .slice Ao15 t434.length co15] (0, 0) _ rfl (by (with_reducible repeat (first | refine blk_drewN ?_ _ | refine blk_drew ?_ | refine blk_alloc ?_ _)); refine blk_put (cs := #[.int .i64 (wrap64 (t430 - a1)), .slice Ao14 t431.length co14, .slice none 0 0]) ?_ 2 _ rfl; (with_reducible repeat (first | refine blk_drewN ?_ _ | refine blk_drew ?_ | refine blk_alloc ?_ _)); refine blk_put (cs := #[.int .i64 (wrap64 (t430 - a1)), .slice none 0 0, .slice none 0 0]) ?_ 1 _ rfl; (with_reducible repeat (first | refine blk_drewN ?_ _ | refine blk_drew ?_ | refine blk_alloc ?_ _)); refine blk_put (cs := #[.int .i64 x430000_3, .slice none 0 0, .slice none 0 0]) ?_ 0 _ rfl; (with_reducible repeat (first | refine blk_drewN ?_ _ | refine blk_drew ?_ | refine blk_alloc ?_ _)); refine blk_far ?_ NB429_437.out _; exact pkK BK429.out) Try.underlying46 rfl (by kernel_rfl)) rfl ?_
    exact ⟨_, _, _, rfe, by (with_reducible repeat (first | apply Kd.R_alloc | apply Kd.R_drewN | apply Kd.R_drew)); exact Kd.R_mono (Kd.R_far (p := ⟨gb429, 2, none⟩) (Kd.R_far (p := ⟨gb429, 1, none⟩) (Kd.R_far (p := ⟨gb429, 0, none⟩) (Kd.R_far (p := ⟨gb437, 0, none⟩) (Kd.R_types (Kd.R_types HO_438001.out BK437.out (by decide)) BK429.out (by decide)) (fun _ hk => hk.1.2) (.int .i64 (wrap64 (t430 - a1)))) (fun _ hk => hk.2) (.int .i64 (wrap64 (t430 - a1)))) (fun _ hk => hk.2) (.slice Ao14 t431.length co14)) (fun _ hk => hk.2) (.slice Ao15 t434.length co15)) (fun _ hk => ⟨hk.1.1, (by simp [Value.ownBlock])⟩), by (with_reducible repeat (first | apply Kd.R_alloc | apply Kd.R_drewN | apply Kd.R_drew)); exact Kd.R_mono (Kd.R_far (p := ⟨gb429, 2, none⟩) (Kd.R_far (p := ⟨gb429, 1, none⟩) (Kd.R_far (p := ⟨gb429, 0, none⟩) (Kd.R_far (p := ⟨gb437, 0, none⟩) (Kd.R_types (Kd.R_types HO_438002.out BK437.out (by decide)) BK429.out (by decide)) (fun _ hk => hk.1.2) (.int .i64 (wrap64 (t430 - a1)))) (fun _ hk => hk.2) (.int .i64 (wrap64 (t430 - a1)))) (fun _ hk => hk.2) (.slice Ao14 t431.length co14)) (fun _ hk => hk.2) (.slice Ao15 t434.length co15)) (fun _ hk => ⟨hk.1.1, (by simp [Value.ownBlock])⟩), by first | exact Kd.R_nil _ _ _ _ _ | exact Kd.N_nil _ _ _ _ _ | exact Kd.V_nil _ _ _ _ _ | exact Kd.Q_nil _ _ _ _ _ | exact Kd.S_nil _ _ _ _ _, pkW HB.out⟩
   ·rw [if_neg c54] at H
    have c54b0 : decide (0 < (wrap64 (t430 - a1))) = false := decide_eq_false c54
    clear c54
    replace H := Option.bind_eq_some_iff.mp H
    obtain ⟨⟨t439, t440⟩, A600, H⟩ := H
    replace H : ((slices_Clone_int_int.f l0_1).bind fun t445 => (some (wrap64 (t430 - a1), t439, t440, t445, 0))) = some (r1, r2, r3, r4, r5) := H
    have A60 := am A600
    clear A600
    replace H := Option.bind_eq_some_iff.mp H
    obtain ⟨t445, A610, H⟩ := H
    replace H : (some (wrap64 (t430 - a1), t439, t440, t445, 0)) = some (r1, r2, r3, r4, r5) := H
    have A61 := am A610
    clear A610
    simp only [Option.some.injEq, Prod.mk.injEq] at H
    obtain ⟨rfl, rfl, rfl, rfl, rfl⟩ := H
    have hnb62 := NB437_428.out
    have hnc62 := NB428_437.out
    have hnb63 := NB437_429.out
    have hnc63 := NB429_437.out
    obtain ⟨hcz64_0, hcz64_1, hcz64_2, hfz64_0, hfz64_1, hfz64_2⟩ := bk3 BK437.out
    have hnb65 := NB428_429.out
    have hnc65 := NB429_428.out
    obtain ⟨hcz66_0, hcz66_1, hcz66_2, hfz66_0, hfz66_1, hfz66_2⟩ := bk3 BK428.out
    try go_wp2_with (first | ((with_reducible refine gate_callee (f := 57) rfl ?_); refine goesL_ (some 55) rfl rfl Try.func57 (by kernel_rfl) rfl #[.slice A0_1 l0_1.length c0_1, .slice A0_2 l0_2.length c0_2] rfl mpx ?_; (with_reducible refine (impl_release.calls _ _ l0_1 _ _ l0_2 t439 t440 _ ?side1 ?side2 ?side3 ?side4 A60.out).mono ?_); (case side1 => exact Kd.C_below HR0_1.out (pkW HB.out)); (case side2 => exact HC0_1.out); (case side3 => exact Kd.C_below HR0_2.out (pkW HB.out)); (case side4 => exact HC0_2.out); rintro e w67 ⟨v441, v443, rfl, ho0, ho1, hb⟩; refine ⟨_, rfl, ?_⟩; have HO442 := am (Kd.R_lower (Kd.R_new' (Kd.R_new' ho0 (Kd.R_lt (by (with_reducible repeat (first | apply Kd.R_alloc | apply Kd.R_drewN | apply Kd.R_drew)); exact (Kd.R_mono (Kd.R_far (p := ⟨gb437, 0, none⟩) (Kd.R_types HO_438001.out BK437.out (by decide)) (fun _ hk => hk.2) (.int .i64 (wrap64 (t430 - a1)))) (fun _ h_ => h_.1))))) (Kd.R_lt (by (with_reducible repeat (first | apply Kd.R_alloc | apply Kd.R_drewN | apply Kd.R_drew)); exact (Kd.R_mono (Kd.R_far (p := ⟨gb437, 0, none⟩) (Kd.R_types HO_438002.out BK437.out (by decide)) (fun _ hk => hk.2) (.int .i64 (wrap64 (t430 - a1)))) (fun _ h_ => h_.1))))) (below_size (pkW HB.out))); have HO444 := am (Kd.R_lower (Kd.R_new' (Kd.R_new' ho1 (Kd.R_lt (by (with_reducible repeat (first | apply Kd.R_alloc | apply Kd.R_drewN | apply Kd.R_drew)); exact (Kd.R_mono (Kd.R_far (p := ⟨gb437, 0, none⟩) (Kd.R_types HO_438001.out BK437.out (by decide)) (fun _ hk => hk.2) (.int .i64 (wrap64 (t430 - a1)))) (fun _ h_ => h_.1))))) (Kd.R_lt (by (with_reducible repeat (first | apply Kd.R_alloc | apply Kd.R_drewN | apply Kd.R_drew)); exact (Kd.R_mono (Kd.R_far (p := ⟨gb437, 0, none⟩) (Kd.R_types HO_438002.out BK437.out (by decide)) (fun _ hk => hk.2) (.int .i64 (wrap64 (t430 - a1)))) (fun _ h_ => h_.1))))) (below_size (pkW HB.out))); replace HO_438001 := am (Kd.R_mono (Kd.R_told (Kd.R_told (Kd.R_old (by (with_reducible repeat (first | apply Kd.R_alloc | apply Kd.R_drewN | apply Kd.R_drew)); exact (Kd.R_mono (Kd.R_far (p := ⟨gb437, 0, none⟩) (Kd.R_types HO_438001.out BK437.out (by decide)) (fun _ hk => hk.2) (.int .i64 (wrap64 (t430 - a1)))) (fun _ h_ => h_.1))) hb) (Kd.R_base ho0)) (Kd.R_base ho1)) (fun _ h_ => h_.1)); replace HO_438002 := am (Kd.R_mono (Kd.R_told (Kd.R_told (Kd.R_old (by (with_reducible repeat (first | apply Kd.R_alloc | apply Kd.R_drewN | apply Kd.R_drew)); exact (Kd.R_mono (Kd.R_far (p := ⟨gb437, 0, none⟩) (Kd.R_types HO_438002.out BK437.out (by decide)) (fun _ hk => hk.2) (.int .i64 (wrap64 (t430 - a1)))) (fun _ h_ => h_.1))) hb) (Kd.R_base ho0)) (Kd.R_base ho1)) (fun _ h_ => h_.1)); replace BK428 := am (blk_below (g := gb428) (o := .cells #[.int .i64 a0_0, .slice A0_1 l0_1.length c0_1, .slice A0_2 l0_2.length c0_2] 46 (0, 0)) (by (with_reducible repeat (first | refine blk_drewN ?_ _ | refine blk_drew ?_ | refine blk_alloc ?_ _)); refine blk_far ?_ NB428_437.out _; exact pkK BK428.out) hb); replace BK429 := am (blk_below (g := gb429) (o := .cells #[.int .i64 x430000_3, .slice none 0 0, .slice none 0 0] 46 (0, 0)) (by (with_reducible repeat (first | refine blk_drewN ?_ _ | refine blk_drew ?_ | refine blk_alloc ?_ _)); refine blk_far ?_ NB429_437.out _; exact pkK BK429.out) hb); replace BK437 := am (blk_below (g := gb437) (o := .cells #[.int .i64 (wrap64 (t430 - a1)), .slice Ao14 t431.length co14, .slice Ao15 t434.length co15] 46 (0, 0)) (by (with_reducible repeat (first | refine blk_drewN ?_ _ | refine blk_drew ?_ | refine blk_alloc ?_ _)); refine blk_put (cs := #[.int .i64 t430, .slice Ao14 t431.length co14, .slice Ao15 t434.length co15]) ?_ 0 _ rfl; exact pkK BK437.out) hb); replace HB := am (below_step (pkW HB.out) hb); (try clear hb ho0 ho1); obtain ⟨Ao68, co68, eo68⟩ := Kd.R_slice HO442.out; subst eo68; obtain ⟨hcz69_0, hcz69_1, hcz69_2, hfz69_0, hfz69_1, hfz69_2⟩ := bk3 BK437.out; obtain ⟨Ao70, co70, eo70⟩ := Kd.R_slice HO444.out; subst eo70))
    have n0_ : Aside0 (Kd.R (Kd.int .i64) 3 ((w67.setCell ⟨gb437, 1, none⟩ (.slice Ao68 t439.length co68)).setCell ⟨gb437, 2, none⟩ (.slice Ao70 t440.length co70)) w.heap.size (fun k_ => some k_ ≠ (.slice Ao15 t434.length co15 : Value).ownBlock ∧ some k_ ≠ (.slice Ao68 t439.length co68 : Value).ownBlock ∧ some k_ ≠ (.slice Ao70 t440.length co70 : Value).ownBlock) (.slice Ao14 t431.length co14) t431) := ⟨by (with_reducible repeat (first | apply Kd.R_alloc | apply Kd.R_drewN | apply Kd.R_drew)); exact Kd.R_mono (Kd.R_far (p := ⟨gb437, 2, none⟩) (Kd.R_far (p := ⟨gb437, 1, none⟩) (Kd.R_types HO_438001.out BK437.out (by decide)) (fun _ hk => hk.2) (.slice Ao68 t439.length co68)) (fun _ hk => hk.2) (.slice Ao70 t440.length co70)) (fun _ hk => ⟨hk.1.1.1, ⟨hk.1.1.2, hk.1.2⟩⟩)⟩
    have n1_ : Aside0 (Kd.R (Kd.int .i64) 3 ((w67.setCell ⟨gb437, 1, none⟩ (.slice Ao68 t439.length co68)).setCell ⟨gb437, 2, none⟩ (.slice Ao70 t440.length co70)) w.heap.size (fun k_ => some k_ ≠ (.slice Ao14 t431.length co14 : Value).ownBlock ∧ some k_ ≠ (.slice Ao68 t439.length co68 : Value).ownBlock ∧ some k_ ≠ (.slice Ao70 t440.length co70 : Value).ownBlock) (.slice Ao15 t434.length co15) t434) := ⟨by (with_reducible repeat (first | apply Kd.R_alloc | apply Kd.R_drewN | apply Kd.R_drew)); exact Kd.R_mono (Kd.R_far (p := ⟨gb437, 2, none⟩) (Kd.R_far (p := ⟨gb437, 1, none⟩) (Kd.R_types HO_438002.out BK437.out (by decide)) (fun _ hk => hk.2) (.slice Ao68 t439.length co68)) (fun _ hk => hk.2) (.slice Ao70 t440.length co70)) (fun _ hk => ⟨hk.1.1.1, ⟨hk.1.1.2, hk.1.2⟩⟩)⟩
    have n2_ : Aside0 (Kd.R (Kd.int .i64) 3 ((w67.setCell ⟨gb437, 1, none⟩ (.slice Ao68 t439.length co68)).setCell ⟨gb437, 2, none⟩ (.slice Ao70 t440.length co70)) w.heap.size (fun k_ => some k_ ≠ (.slice Ao14 t431.length co14 : Value).ownBlock ∧ some k_ ≠ (.slice Ao15 t434.length co15 : Value).ownBlock ∧ some k_ ≠ (.slice Ao70 t440.length co70 : Value).ownBlock) (.slice Ao68 t439.length co68) t439) := ⟨by (with_reducible repeat (first | apply Kd.R_alloc | apply Kd.R_drewN | apply Kd.R_drew)); exact Kd.R_mono (Kd.R_far (p := ⟨gb437, 2, none⟩) (Kd.R_far (p := ⟨gb437, 1, none⟩) (Kd.R_types HO442.out BK437.out (by decide)) (fun _ hk => hk.2) (.slice Ao68 t439.length co68)) (fun _ hk => hk.2) (.slice Ao70 t440.length co70)) (fun _ hk => ⟨hk.1.1.2, ⟨hk.1.2, hk.1.1.1⟩⟩)⟩
    have n3_ : Aside0 (Kd.R (Kd.int .i64) 3 ((w67.setCell ⟨gb437, 1, none⟩ (.slice Ao68 t439.length co68)).setCell ⟨gb437, 2, none⟩ (.slice Ao70 t440.length co70)) w.heap.size (fun k_ => some k_ ≠ (.slice Ao14 t431.length co14 : Value).ownBlock ∧ some k_ ≠ (.slice Ao15 t434.length co15 : Value).ownBlock ∧ some k_ ≠ (.slice Ao68 t439.length co68 : Value).ownBlock) (.slice Ao70 t440.length co70) t440) := ⟨by (with_reducible repeat (first | apply Kd.R_alloc | apply Kd.R_drewN | apply Kd.R_drew)); exact Kd.R_mono (Kd.R_far (p := ⟨gb437, 2, none⟩) (Kd.R_far (p := ⟨gb437, 1, none⟩) (Kd.R_types HO444.out BK437.out (by decide)) (fun _ hk => hk.2) (.slice Ao68 t439.length co68)) (fun _ hk => hk.2) (.slice Ao70 t440.length co70)) (fun _ hk => ⟨hk.1.1.2, ⟨hk.1.2, hk.1.1.1⟩⟩)⟩
    have n4_ : Aside0 (((w67.setCell ⟨gb437, 1, none⟩ (.slice Ao68 t439.length co68)).setCell ⟨gb437, 2, none⟩ (.slice Ao70 t440.length co70)).heap[gb428]? = some (.cells #[.int .i64 a0_0, .slice A0_1 l0_1.length c0_1, .slice A0_2 l0_2.length c0_2] 46 (0, 0))) := ⟨by (with_reducible repeat (first | refine blk_drewN ?_ _ | refine blk_drew ?_ | refine blk_alloc ?_ _)); refine blk_far ?_ NB428_437.out _; (with_reducible repeat (first | refine blk_drewN ?_ _ | refine blk_drew ?_ | refine blk_alloc ?_ _)); refine blk_far ?_ NB428_437.out _; exact pkK BK428.out⟩
    have n5_ : Aside0 (((w67.setCell ⟨gb437, 1, none⟩ (.slice Ao68 t439.length co68)).setCell ⟨gb437, 2, none⟩ (.slice Ao70 t440.length co70)).heap[gb429]? = some (.cells #[.int .i64 x430000_3, .slice none 0 0, .slice none 0 0] 46 (0, 0))) := ⟨by (with_reducible repeat (first | refine blk_drewN ?_ _ | refine blk_drew ?_ | refine blk_alloc ?_ _)); refine blk_far ?_ NB429_437.out _; (with_reducible repeat (first | refine blk_drewN ?_ _ | refine blk_drew ?_ | refine blk_alloc ?_ _)); refine blk_far ?_ NB429_437.out _; exact pkK BK429.out⟩
    have n6_ : Aside0 (((w67.setCell ⟨gb437, 1, none⟩ (.slice Ao68 t439.length co68)).setCell ⟨gb437, 2, none⟩ (.slice Ao70 t440.length co70)).heap[gb437]? = some (.cells #[.int .i64 (wrap64 (t430 - a1)), .slice Ao68 t439.length co68, .slice Ao70 t440.length co70] 46 (0, 0))) := ⟨by (with_reducible repeat (first | refine blk_drewN ?_ _ | refine blk_drew ?_ | refine blk_alloc ?_ _)); refine blk_put (cs := #[.int .i64 (wrap64 (t430 - a1)), .slice Ao68 t439.length co68, .slice Ao15 t434.length co15]) ?_ 2 _ rfl; (with_reducible repeat (first | refine blk_drewN ?_ _ | refine blk_drew ?_ | refine blk_alloc ?_ _)); refine blk_put (cs := #[.int .i64 (wrap64 (t430 - a1)), .slice Ao14 t431.length co14, .slice Ao15 t434.length co15]) ?_ 1 _ rfl; exact pkK BK437.out⟩
    have n7_ : Aside0 (Below w.heap.size w ((w67.setCell ⟨gb437, 1, none⟩ (.slice Ao68 t439.length co68)).setCell ⟨gb437, 2, none⟩ (.slice Ao70 t440.length co70))) := ⟨pkW HB.out⟩
    (try clear HO_438001); (try clear HO_438002); (try clear HO442); (try clear HO444); (try clear BK428); (try clear BK429); (try clear BK437); (try clear HB)
    generalize ((w67.setCell ⟨gb437, 1, none⟩ (.slice Ao68 t439.length co68)).setCell ⟨gb437, 2, none⟩ (.slice Ao70 t440.length co70)) = w71 at n0_ n1_ n2_ n3_ n4_ n5_ n6_ n7_ ⊢
    have HO_438001 := n0_; have HO_438002 := n1_; have HO442 := n2_; have HO444 := n3_; have BK428 := n4_; have BK429 := n5_; have BK437 := n6_; have HB := n7_
    clear n0_ n1_ n2_ n3_ n4_ n5_ n6_ n7_
    replace HO_438001 := am (Kd.R_drew HO_438001.out)
    replace HO_438002 := am (Kd.R_drew HO_438002.out)
    replace HO442 := am (Kd.R_drew HO442.out)
    replace HO444 := am (Kd.R_drew HO444.out)
    replace BK428 := am (blk_drew BK428.out)
    replace BK429 := am (blk_drew BK429.out)
    replace BK437 := am (blk_drew BK437.out)
    replace HB := am (below_drew1 HB.out)
    refine start_ (n := 7) (S := fun w' => w'.cell? ⟨gb437, 0, none⟩ = some (.int .i64 (wrap64 (t430 - a1))) ∧ w'.cell? ⟨gb437, 1, none⟩ = some (.slice Ao68 t439.length co68) ∧ w'.cell? ⟨gb437, 2, none⟩ = some (.slice Ao70 t440.length co70) ∧ w'.cell? ⟨gb428, 0, none⟩ = some (.int .i64 a0_0) ∧ w'.cell? ⟨gb428, 1, none⟩ = some (.slice A0_1 l0_1.length c0_1) ∧ w'.cell? ⟨gb428, 2, none⟩ = some (.slice A0_2 l0_2.length c0_2)) (ds := []) #[false, false, false, false, false, false, false] (by kernel_rfl) rfl rfl ⟨(blk_cell BK437.out 0).trans rfl, (blk_cell BK437.out 1).trans rfl, (blk_cell BK437.out 2).trans rfl, (blk_cell BK428.out 0).trans rfl, (blk_cell BK428.out 1).trans rfl, (blk_cell BK428.out 2).trans rfl⟩ (fun hHeld => ?_)
    generalize w71.drew = w72 at HO_438001 HO_438002 HO442 HO444 BK428 BK429 BK437 HB hHeld ⊢
    refine pure_ (i := 1) (N := some 61) (v := ?_) (a' := ?_) #[false, true, false, false, false, false, false] rfl rfl (by kernel_rfl) (fun _ _ _ h => h) (Or.inl ⟨by rfl, ?_⟩) ?_ ?_
    rotate_left
    ·intro w'
     go_simp
     with_reducible rfl
    rotate_left
    ·simp only [Act.put, List.setIfInBounds_toArray, List.set_cons_zero, List.set_cons_succ, i64_w, i32_w]
     rfl
    refine take_ (i := 0) (N := some 60) (v := ?_) (a' := ?_) #[true, true, false, false, false, false, false] rfl rfl (by kernel_rfl) (fun _ _ _ h => h) (Or.inl ⟨by rfl, ?_⟩) hHeld ?_ ?_
    rotate_left
    ·rintro w' ⟨s0, s1, s2, s3, s4, s5⟩
     go_simp
     with_reducible rfl
    rotate_left
    ·simp only [Act.put, List.setIfInBounds_toArray, List.set_cons_zero, List.set_cons_succ, i64_w, i32_w]
     rfl
    refine take_ (i := 2) (N := some 62) (v := ?_) (a' := ?_) #[true, true, true, false, false, false, false] rfl rfl (by kernel_rfl) (fun _ _ _ h => h) (Or.inl ⟨by rfl, ?_⟩) hHeld ?_ ?_
    rotate_left
    ·rintro w' ⟨s0, s1, s2, s3, s4, s5⟩
     go_simp
     with_reducible rfl
    rotate_left
    ·simp only [Act.put, List.setIfInBounds_toArray, List.set_cons_zero, List.set_cons_succ, i64_w, i32_w]
     rfl
    refine one_ (i := 3) (N := some 63) #[true, true, true, true, false, false, false] rfl rfl (by kernel_rfl) (by decide) (fun K hK => ?_)
    refine goes_ Try.func58 (by kernel_rfl) rfl #[.slice A0_1 l0_1.length c0_1] (by rfl) rfl rfl mpx ?_
    with_reducible refine (slices_Clone_int_int.calls _ _ l0_1 t445 _ ?side1 ?side2 A61.out).mono ?_
    (case side1 => exact pkC (Kd.C_below HR0_1.out HB.out))
    (case side2 => exact HC0_1.out)
    rintro e w73 ⟨v446, rfl, ho0, hb⟩
    refine ⟨_, rfl, ?_⟩
    have HO447 := am (Kd.R_lower (Kd.R_new' (Kd.R_new' (Kd.R_new' (Kd.R_new' ho0 (Kd.R_lt (pkR HO_438001.out))) (Kd.R_lt (pkR HO_438002.out))) (Kd.R_lt (pkR HO442.out))) (Kd.R_lt (pkR HO444.out))) (below_size (pkW HB.out)))
    replace HO_438001 := am (Kd.R_elder' (pkR HO_438001.out) (Kd.R_base ho0) hb)
    replace HO_438002 := am (Kd.R_elder' (pkR HO_438002.out) (Kd.R_base ho0) hb)
    replace HO442 := am (Kd.R_elder' (pkR HO442.out) (Kd.R_base ho0) hb)
    replace HO444 := am (Kd.R_elder' (pkR HO444.out) (Kd.R_base ho0) hb)
    replace BK428 := am (blk_below (pkK BK428.out) hb)
    replace BK429 := am (blk_below (pkK BK429.out) hb)
    replace BK437 := am (blk_below (pkK BK437.out) hb)
    replace HB := am (below_step (pkW HB.out) hb)
    (try clear hb); (try clear ho0)
    refine hK.out _ _ ⟨(blk_cell BK437.out 0).trans rfl, (blk_cell BK437.out 1).trans rfl, (blk_cell BK437.out 2).trans rfl, (blk_cell BK428.out 0).trans rfl, (blk_cell BK428.out 1).trans rfl, (blk_cell BK428.out 2).trans rfl⟩ (fun hHeld => ?_)
    clear hK K
    refine norm_ (a' := ?_) ?_ ?_
    rotate_left
    ·show Act.put _ (some 63) _ = _
     simp only [Act.put, List.setIfInBounds_toArray, List.set_cons_zero, List.set_cons_succ, i64_w, i32_w]
     rfl
    refine one_ (i := 4) (N := none) #[true, true, true, true, true, false, false] rfl rfl (by kernel_rfl) (by decide) (fun K hK => ?_)
    have hs74 : w73.cell? ⟨gb429, 0, none⟩ = some (.int .i64 x430000_3) := (blk_cell BK429.out 0).trans rfl
    have hfs74 := blk_frozen BK429.out 0
    have hns74_0 := NB428_429.out
    have hns74_2 := NB437_429.out
    have hms74_0 := NB429_428.out
    have hms74_2 := NB429_437.out
    have hs75 : w73.cell? ⟨gb429, 1, none⟩ = some (.slice none 0 0) := (blk_cell BK429.out 1).trans rfl
    have hfs75 := blk_frozen BK429.out 1
    have hns75_0 := NB428_429.out
    have hns75_2 := NB437_429.out
    have hms75_0 := NB429_428.out
    have hms75_2 := NB429_437.out
    have hs76 : w73.cell? ⟨gb429, 2, none⟩ = some (.slice none 0 0) := (blk_cell BK429.out 2).trans rfl
    have hfs76 := blk_frozen BK429.out 2
    have hns76_0 := NB428_429.out
    have hns76_2 := NB437_429.out
    have hms76_0 := NB429_428.out
    have hms76_2 := NB429_437.out
    refine skip_ (w1 := ?_) (by rfl) rfl ?_ ?_
    rotate_left
    ·go_simp
     rfl
    refine hK.out _ _ ⟨((cell_far (p := ⟨gb429, _, none⟩) NB437_429.out _).trans (((cell_far (p := ⟨gb429, _, none⟩) NB437_429.out _).trans (((cell_far (p := ⟨gb429, _, none⟩) NB437_429.out _).trans (hHeld.1)))))), ((cell_far (p := ⟨gb429, _, none⟩) NB437_429.out _).trans (((cell_far (p := ⟨gb429, _, none⟩) NB437_429.out _).trans (((cell_far (p := ⟨gb429, _, none⟩) NB437_429.out _).trans (hHeld.2.1)))))), ((cell_far (p := ⟨gb429, _, none⟩) NB437_429.out _).trans (((cell_far (p := ⟨gb429, _, none⟩) NB437_429.out _).trans (((cell_far (p := ⟨gb429, _, none⟩) NB437_429.out _).trans (hHeld.2.2.1)))))), ((cell_far (p := ⟨gb429, _, none⟩) NB428_429.out _).trans (((cell_far (p := ⟨gb429, _, none⟩) NB428_429.out _).trans (((cell_far (p := ⟨gb429, _, none⟩) NB428_429.out _).trans (hHeld.2.2.2.1)))))), ((cell_far (p := ⟨gb429, _, none⟩) NB428_429.out _).trans (((cell_far (p := ⟨gb429, _, none⟩) NB428_429.out _).trans (((cell_far (p := ⟨gb429, _, none⟩) NB428_429.out _).trans (hHeld.2.2.2.2.1)))))), ((cell_far (p := ⟨gb429, _, none⟩) NB428_429.out _).trans (((cell_far (p := ⟨gb429, _, none⟩) NB428_429.out _).trans (((cell_far (p := ⟨gb429, _, none⟩) NB428_429.out _).trans (hHeld.2.2.2.2.2))))))⟩ (fun hHeld => ?_)
    clear hK K
    refine pure_ (i := 5) (N := some 5) (v := ?_) (a' := ?_) #[true, true, true, true, true, true, false] rfl rfl (by kernel_rfl) (fun _ _ _ h => h) (Or.inl ⟨by rfl, ?_⟩) ?_ ?_
    rotate_left
    ·intro w'
     go_simp
     with_reducible rfl
    rotate_left
    ·simp only [Act.put, List.setIfInBounds_toArray, List.set_cons_zero, List.set_cons_succ, i64_w, i32_w]
     rfl
    refine pure_ (i := 6) (N := some 6) (v := ?_) (a' := ?_) #[true, true, true, true, true, true, true] rfl rfl (by kernel_rfl) (fun _ _ _ h => h) (Or.inl ⟨by rfl, ?_⟩) ?_ ?_
    rotate_left
    ·intro w'
     go_simp
     with_reducible rfl
    rotate_left
    ·simp only [Act.put, List.setIfInBounds_toArray, List.set_cons_zero, List.set_cons_succ, i64_w, i32_w]
     rfl
    refine done_ (by kernel_rfl) ?_
    try go_wp2
    refine bodyPost_ret (results_ctt rfl _ _ gb429 46 #[.int .i64 (wrap64 (t430 - a1)), .slice Ao68 t439.length co68, .slice Ao70 t440.length co70] (0, 0) _ rfl (by (with_reducible repeat (first | refine blk_drewN ?_ _ | refine blk_drew ?_ | refine blk_alloc ?_ _)); refine blk_put (cs := #[.int .i64 (wrap64 (t430 - a1)), .slice Ao68 t439.length co68, .slice none 0 0]) ?_ 2 _ rfl; (with_reducible repeat (first | refine blk_drewN ?_ _ | refine blk_drew ?_ | refine blk_alloc ?_ _)); refine blk_put (cs := #[.int .i64 (wrap64 (t430 - a1)), .slice none 0 0, .slice none 0 0]) ?_ 1 _ rfl; (with_reducible repeat (first | refine blk_drewN ?_ _ | refine blk_drew ?_ | refine blk_alloc ?_ _)); refine blk_put (cs := #[.int .i64 x430000_3, .slice none 0 0, .slice none 0 0]) ?_ 0 _ rfl; exact pkK BK429.out) Try.underlying46 rfl (by kernel_rfl)) rfl ?_
    exact ⟨_, _, _, rfe, by (with_reducible repeat (first | apply Kd.R_alloc | apply Kd.R_drewN | apply Kd.R_drew)); exact Kd.R_mono (Kd.R_far (p := ⟨gb429, 2, none⟩) (Kd.R_far (p := ⟨gb429, 1, none⟩) (Kd.R_far (p := ⟨gb429, 0, none⟩) (Kd.R_types HO442.out BK429.out (by decide)) (fun _ hk => hk.2) (.int .i64 (wrap64 (t430 - a1)))) (fun _ hk => hk.2) (.slice Ao68 t439.length co68)) (fun _ hk => hk.2) (.slice Ao70 t440.length co70)) (fun _ hk => ⟨hk.1.1.2.2, hk.1.2⟩), by (with_reducible repeat (first | apply Kd.R_alloc | apply Kd.R_drewN | apply Kd.R_drew)); exact Kd.R_mono (Kd.R_far (p := ⟨gb429, 2, none⟩) (Kd.R_far (p := ⟨gb429, 1, none⟩) (Kd.R_far (p := ⟨gb429, 0, none⟩) (Kd.R_types HO444.out BK429.out (by decide)) (fun _ hk => hk.2) (.int .i64 (wrap64 (t430 - a1)))) (fun _ hk => hk.2) (.slice Ao68 t439.length co68)) (fun _ hk => hk.2) (.slice Ao70 t440.length co70)) (fun _ hk => ⟨hk.1.1.2.2, hk.1.2⟩), by (with_reducible repeat (first | apply Kd.R_alloc | apply Kd.R_drewN | apply Kd.R_drew)); exact Kd.R_mono (Kd.R_far (p := ⟨gb429, 2, none⟩) (Kd.R_far (p := ⟨gb429, 1, none⟩) (Kd.R_far (p := ⟨gb429, 0, none⟩) (Kd.R_types HO447.out BK429.out (by decide)) (fun _ hk => hk.2) (.int .i64 (wrap64 (t430 - a1)))) (fun _ hk => hk.2) (.slice Ao68 t439.length co68)) (fun _ hk => hk.2) (.slice Ao70 t440.length co70)) (fun _ hk => ⟨hk.1.1.2, hk.1.2⟩), pkW HB.out⟩
end Go.Proofs.Ytffcphplnilokaa.Z
