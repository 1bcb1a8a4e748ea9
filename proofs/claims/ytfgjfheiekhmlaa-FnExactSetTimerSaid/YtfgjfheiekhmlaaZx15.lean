/- The Go functions spec_SetTimer as Lean functions, each with a proof that its code comes to just these answers; conditions: those of each theorem. -/
import Derived.Test.YtfgjfheiekhmlaaZx0
import Derived.Test.YtfgjfheiekhmlaaZx2
import Derived.Test.YtfgjfheiekhmlaaZx3
import Derived.Test.YtfgjfheiekhmlaaZx8
namespace Go.Proofs.Ytfgjfheiekhmlaa.Z
open Go.RowKit Go.Proofs.YtfgjfheiekhmlaaW.PrintWords Go.Proofs.YtfgjfheiekhmlaaW.PrintLast Go.Proofs.YtfgjfheiekhmlaaW.PrintMore
attribute [local go_sem] max2_int min2_int max_two min_two max_three min_three max_four min_four   -- for this text's walks alone
set_option linter.unusedVariables false
set_option linter.unusedSimpArgs false
mutual
def spec_SetTimer.j0 : Nat → Int → Int → Bool → Int → List (S46) → Int → List (S46) → Option (Int × (List (S46)) × Int)
 | 0, _, _, _, _, _, _, _ => none
 | k + 1, x1, x2, x14, x275000, x275001, x281000, x281001 => if x14 = true then (some (x281000, x281001, 1)) else (if (x275001.length : Int) ≥ 40 then (some (x281000, x281001, 2)) else (spec_SetTimer.l0 k false 0 x275000 x275001 x281000 (([] : List (S46))) (wrap64 (x275000 + x1)) x2))
def spec_SetTimer.l0 : Nat → Bool → Int → Int → List (S46) → Int → List (S46) → Int → Int → Option (Int × (List (S46)) × Int)
 | 0, _, _, _, _, _, _, _, _ => none
 | k + 1, x10, x11, x275000, x275001, x281000, x281001, x284000, x284001 => if x11 < (x275001.length : Int) then (if 0 ≤ x11 then (if ((rd_T46 x275001 x11).f0) > x284000 then (if x10 = true then (if x281001.length < 8796093022208 then (spec_SetTimer.l0 k x10 (wrap64 (x11 + 1)) x275000 x275001 x281000 (x281001 ++ [(⟨(rd_T46 x275001 x11).f0, (rd_T46 x275001 x11).f1⟩ : S46)]) x284000 x284001) else (none)) else (if x281001.length < 8796093022208 then ((some (x281001 ++ [(⟨x284000, x284001⟩ : S46)] : List (S46))).bind fun y292 => (if y292.length < 8796093022208 then (spec_SetTimer.l0 k true (wrap64 (x11 + 1)) x275000 x275001 x281000 (y292 ++ [(⟨(rd_T46 x275001 x11).f0, (rd_T46 x275001 x11).f1⟩ : S46)]) x284000 x284001) else (none))) else (none))) else (if x281001.length < 8796093022208 then (spec_SetTimer.l0 k x10 (wrap64 (x11 + 1)) x275000 x275001 x281000 (x281001 ++ [(⟨(rd_T46 x275001 x11).f0, (rd_T46 x275001 x11).f1⟩ : S46)]) x284000 x284001) else (none))) else (none)) else (if x10 = true then (some (x281000, x281001, 0)) else (if x281001.length < 8796093022208 then (some (x281000, (x281001 ++ [(⟨x284000, x284001⟩ : S46)]), 0)) else (none)))
end
def spec_SetTimer.f (k : Nat) (a0_0 : Int) (l0_1 : List (S46)) (a1 : Int) (a2 : Int) : Option (Int × (List (S46)) × Int) := (spec_l4Copy.f a0_0 l0_1).bind fun bt276 => ((spec_ClockOk.f k a0_0 l0_1).bind fun t281 => (if t281 = true then (if a1 < 1 then (spec_SetTimer.j0 k a1 a2 true a0_0 l0_1 bt276.1 bt276.2) else ((spec_l1In.f a2 0 23).bind fun t282 => (if t282 = true then (spec_SetTimer.j0 k a1 a2 (decide (a1 > (wrap64 (1000000000 - a0_0)))) a0_0 l0_1 bt276.1 bt276.2) else (spec_SetTimer.j0 k a1 a2 true a0_0 l0_1 bt276.1 bt276.2)))) else (spec_SetTimer.j0 k a1 a2 true a0_0 l0_1 bt276.1 bt276.2)))
theorem spec_SetTimer.mono_l : ∀ k, (∀ y0 y1 y2 y3 y4 y5 y6, LeO (spec_SetTimer.j0 k y0 y1 y2 y3 y4 y5 y6) (spec_SetTimer.j0 (k + 1) y0 y1 y2 y3 y4 y5 y6)) ∧ (∀ y0 y1 y2 y3 y4 y5 y6 y7, LeO (spec_SetTimer.l0 k y0 y1 y2 y3 y4 y5 y6 y7) (spec_SetTimer.l0 (k + 1) y0 y1 y2 y3 y4 y5 y6 y7))
 | 0 => ⟨fun _ _ _ _ _ _ _ r h => by simp [spec_SetTimer.j0] at h, fun _ _ _ _ _ _ _ _ r h => by simp [spec_SetTimer.l0] at h⟩
 | k + 1 => by
  obtain ⟨ih0, ih1⟩ := spec_SetTimer.mono_l k
  refine ⟨?_, ?_⟩
  ·intro y0 y1 y2 y3 y4 y5 y6
   unfold spec_SetTimer.j0
   repeat' first
   | (with_reducible exact ih0 _ _ _ _ _ _ _)
   | (with_reducible exact ih1 _ _ _ _ _ _ _ _)
   | (with_reducible exact spec_ClockOk.mono _ _ _)
   | (with_reducible exact LeO.refl _)
   | (with_reducible exact LeO.none _)
   | (with_reducible refine LeO.ite ?_ ?_)
   | (with_reducible refine LeO.bind ?_ (fun _ => ?_))
  ·intro y0 y1 y2 y3 y4 y5 y6 y7
   unfold spec_SetTimer.l0
   repeat' first
   | (with_reducible exact ih0 _ _ _ _ _ _ _)
   | (with_reducible exact ih1 _ _ _ _ _ _ _ _)
   | (with_reducible exact spec_ClockOk.mono _ _ _)
   | (with_reducible exact LeO.refl _)
   | (with_reducible exact LeO.none _)
   | (with_reducible refine LeO.ite ?_ ?_)
   | (with_reducible refine LeO.bind ?_ (fun _ => ?_))
theorem spec_SetTimer.mono : ∀ a0 a1 a2 a3 k, LeO (spec_SetTimer.f k a0 a1 a2 a3) (spec_SetTimer.f (k + 1) a0 a1 a2 a3) := by
 intro a0 a1 a2 a3 k
 obtain ⟨ih0, ih1⟩ := spec_SetTimer.mono_l k
 unfold spec_SetTimer.f
 repeat' first
   | (with_reducible exact ih0 _ _ _ _ _ _ _)
   | (with_reducible exact ih1 _ _ _ _ _ _ _ _)
   | (with_reducible exact spec_ClockOk.mono _ _ _)
   | (with_reducible exact LeO.refl _)
   | (with_reducible exact LeO.none _)
   | (with_reducible refine LeO.ite ?_ ?_)
   | (with_reducible refine LeO.bind ?_ (fun _ => ?_))
def spec_SetTimer.T12 : Bool × List (List Nat × List Nat) := (true, [([], []), ([0], [0]), ([], []), ([1, 2], [1, 2]), ([3], [3]), ([4], [4]), ([], []), ([6], [6]), ([5, 7], [5, 7]), ([8], [8]), ([9], [9]), ([10, 9], [9, 10]), ([9, 11], [9, 11])])
def spec_SetTimer.B12 : List Nat := [0, 1, 0, 7, 15, 31, 0, 64, 255, 511, 1023, 2047, 4095]
theorem spec_SetTimer.tab12 : rtab .any (opsOf Try.f28 12) = spec_SetTimer.T12 := by kernel_rfl
theorem spec_SetTimer.bits12 : waitsOk spec_SetTimer.T12.2 spec_SetTimer.B12 = true := by kernel_rfl
def spec_SetTimer.T15 : Bool × List (List Nat × List Nat) := (true, [([], []), ([0], [0]), ([], []), ([2], [2]), ([], []), ([3, 4], [3, 4]), ([5], [5]), ([6], [6]), ([1, 7], [1, 7]), ([0, 1, 2, 3, 4, 5, 6, 7, 8], []), ([9, 8, 8, 0, 1, 2, 3, 4, 5, 6, 7, 8], [8, 9])])
def spec_SetTimer.B15 : List Nat := [0, 1, 0, 4, 0, 28, 60, 124, 255, 511, 1023]
theorem spec_SetTimer.tab15 : rtab .any (opsOf Try.f28 15) = spec_SetTimer.T15 := by kernel_rfl
theorem spec_SetTimer.bits15 : waitsOk spec_SetTimer.T15.2 spec_SetTimer.B15 = true := by kernel_rfl
set_option maxHeartbeats 8000000 in
set_option maxRecDepth 100000 in
theorem spec_SetTimer.calls (k : Nat) (a0_0 : Int) (A0_1 : Option Addr) (c0_1 : Nat) (l0_1 : List (S46)) (a1 : Int) (a2 : Int) (r1 : Int) (r2 : List (S46)) (r3 : Int) (w : World) (hr0_1 : Kd.C k46 w A0_1 l0_1.length l0_1) (hc0_1 : l0_1.length ≤ c0_1) (h : spec_SetTimer.f k a0_0 l0_1 a1 a2 = some (r1, r2, r3)) :
  Calls Try.prog 28 #[.agg #[.int .i64 a0_0, .slice A0_1 l0_1.length c0_1], .int .i64 a1, .int .i64 a2] w fun e w' => ∃ v1_ : Value, e = .returned (.tuple #[.agg #[.int .i64 r1, v1_], .int .i64 r3]) ∧ Kd.R k46 46 w' w.heap.size (fun _ => True) v1_ r2 ∧ Below w.heap.size w w' := by
 have hu29 := Try.underlying29
 have hu46 := Try.underlying46
 have HR0_1 := am hr0_1
 have HC0_1 := am hc0_1
 clear hr0_1 hc0_1
 have HB := am (Below.refl w.heap.size w)
 have H : ((spec_l4Copy.f a0_0 l0_1).bind fun bt276 => ((spec_ClockOk.f k a0_0 l0_1).bind fun t281 => (if t281 = true then (if a1 < 1 then (spec_SetTimer.j0 k a1 a2 true a0_0 l0_1 bt276.1 bt276.2) else ((spec_l1In.f a2 0 23).bind fun t282 => (if t282 = true then (spec_SetTimer.j0 k a1 a2 (decide (a1 > (wrap64 (1000000000 - a0_0)))) a0_0 l0_1 bt276.1 bt276.2) else (spec_SetTimer.j0 k a1 a2 true a0_0 l0_1 bt276.1 bt276.2)))) else (spec_SetTimer.j0 k a1 a2 true a0_0 l0_1 bt276.1 bt276.2)))) = some (r1, r2, r3) := h
 clear h
 replace H := Option.bind_eq_some_iff.mp H
 obtain ⟨⟨t276, t277⟩, A40, H⟩ := H
 replace H : ((spec_ClockOk.f k a0_0 l0_1).bind fun t281 => (if t281 = true then (if a1 < 1 then (spec_SetTimer.j0 k a1 a2 true a0_0 l0_1 t276 t277) else ((spec_l1In.f a2 0 23).bind fun t282 => (if t282 = true then (spec_SetTimer.j0 k a1 a2 (decide (a1 > (wrap64 (1000000000 - a0_0)))) a0_0 l0_1 t276 t277) else (spec_SetTimer.j0 k a1 a2 true a0_0 l0_1 t276 t277)))) else (spec_SetTimer.j0 k a1 a2 true a0_0 l0_1 t276 t277))) = some (r1, r2, r3) := H
 have A4 := am A40
 clear A40
 have HC5 := am H
 clear H
 go_enter Try.func28, Try.ntmps28
 go_upto_region 2 with (first | ((with_reducible refine gate_dst (N := 3) rfl ?_); refine box_event ?hg (N := 3) ?hd (cs := #[.int .i64 a0_0, .slice A0_1 l0_1.length c0_1]) (t := 29) ?hr ?_; (case hd => rfl); (case hg => rfl); (case hr => first | (go_simp; done) | (go_simp; rfl)); intro gb274 hg w6 hbox hb; have BK274 := am (hbox); have GW274 := am ((by rw [hg]; exact (below_size (pkB HB.out)) : w.heap.size ≤ gb274)); have GE274 := am ((by rw [hg]; exact (below_size (pkB HB.out)) : w.heap.size ≤ gb274)); replace HB := am (below_step (pkB HB.out) hb); clear hb hbox hg) | ((with_reducible refine gate_dst (N := 6) rfl ?_); refine box_event ?hg (N := 6) ?hd (cs := #[.int .i64 0, .slice none 0 0]) (t := 29) ?hr ?_; (case hd => rfl); (case hg => rfl); (case hr => first | (go_simp; done) | (go_simp; rfl)); intro gb275 hg w7 hbox hb; have BK275 := am (hbox); have GW275 := am ((by rw [hg]; exact (below_size (pkW HB.out)) : w.heap.size ≤ gb275)); have GE275 := am ((by rw [hg]; exact (below_size (pkW HB.out)) : w.heap.size ≤ gb275)); replace HB := am (below_step (pkW HB.out) hb); have NB274_275 := am ((by rw [hg]; exact Nat.ne_of_lt (blk_lt (g := gb274) (o := .cells #[.int .i64 a0_0, .slice A0_1 l0_1.length c0_1] 29 (0, 0)) (pkK BK274.out)) : gb274 ≠ gb275)); have NB275_274 := am ((by rw [hg]; exact Nat.ne_of_gt (blk_lt (g := gb274) (o := .cells #[.int .i64 a0_0, .slice A0_1 l0_1.length c0_1] 29 (0, 0)) (pkK BK274.out)) : gb275 ≠ gb274)); replace BK274 := am (blk_below (pkK BK274.out) hb); clear hb hbox hg; have hnb8 := NB274_275.out; have hnc8 := NB275_274.out; obtain ⟨hcz9_0, hcz9_1, hfz9_0, hfz9_1⟩ := bk2 BK274.out) | ((with_reducible refine gate_callee (f := 37) rfl ?_); refine goesL_ (some 13) rfl rfl Try.func37 (by kernel_rfl) rfl #[.agg #[.int .i64 a0_0, .slice A0_1 l0_1.length c0_1]] rfl mpx ?_; (with_reducible refine (spec_l4Copy.calls a0_0 _ _ l0_1 t276 t277 _ ?side1 ?side2 A4.out).mono ?_); (case side1 => exact pkC (Kd.C_below HR0_1.out HB.out)); (case side2 => exact HC0_1.out); rintro e w10 ⟨v278, rfl, ho0, hb⟩; refine ⟨_, rfl, ?_⟩; have HO279 := am (Kd.R_lower ho0 (below_size (pkW HB.out))); replace BK274 := am (blk_below (pkK BK274.out) hb); replace BK275 := am (blk_below (pkK BK275.out) hb); replace HB := am (below_step (pkW HB.out) hb); (try clear hb ho0)) | ((with_reducible refine gate_dst (N := 8) rfl ?_); refine box_event ?hg (N := 8) ?hd (cs := #[.int .i64 0, .slice none 0 0]) (t := 29) ?hr ?_; (case hd => rfl); (case hg => rfl); (case hr => first | (go_simp; done) | (go_simp; rfl)); intro gb280 hg w11 hbox hb; replace HO279 := am (Kd.R_below (pkR HO279.out) hb); have BK280 := am (hbox); have GW280 := am ((by rw [hg]; exact (below_size (pkW HB.out)) : w.heap.size ≤ gb280)); have GE280 := am ((by rw [hg]; exact (below_size (pkW HB.out)) : w.heap.size ≤ gb280)); replace HB := am (below_step (pkW HB.out) hb); have NB274_280 := am ((by rw [hg]; exact Nat.ne_of_lt (blk_lt (g := gb274) (o := .cells #[.int .i64 a0_0, .slice A0_1 l0_1.length c0_1] 29 (0, 0)) (pkK BK274.out)) : gb274 ≠ gb280)); have NB280_274 := am ((by rw [hg]; exact Nat.ne_of_gt (blk_lt (g := gb274) (o := .cells #[.int .i64 a0_0, .slice A0_1 l0_1.length c0_1] 29 (0, 0)) (pkK BK274.out)) : gb280 ≠ gb274)); replace BK274 := am (blk_below (pkK BK274.out) hb); have NB275_280 := am ((by rw [hg]; exact Nat.ne_of_lt (blk_lt (g := gb275) (o := .cells #[.int .i64 0, .slice none 0 0] 29 (0, 0)) (pkK BK275.out)) : gb275 ≠ gb280)); have NB280_275 := am ((by rw [hg]; exact Nat.ne_of_gt (blk_lt (g := gb275) (o := .cells #[.int .i64 0, .slice none 0 0] 29 (0, 0)) (pkK BK275.out)) : gb280 ≠ gb275)); replace BK275 := am (blk_below (pkK BK275.out) hb); clear hb hbox hg; have hnb12 := NB280_274.out; have hnc12 := NB274_280.out; have hnb13 := NB280_275.out; have hnc13 := NB275_280.out; obtain ⟨hcz14_0, hcz14_1, hfz14_0, hfz14_1⟩ := bk2 BK280.out; obtain ⟨Ao15, co15, eo15⟩ := Kd.R_slice HO279.out; subst eo15))
 (try simp only [Act.put, List.setIfInBounds_toArray, List.set_cons_zero, List.set_cons_succ])
 go_cut [14] (fun v14 wc => ∃ (kq : Nat) (x14_4 : Bool), v14 = .bool x14_4 ∧ Aside0 (spec_SetTimer.j0 kq a1 a2 x14_4 a0_0 l0_1 t276 t277 = some (r1, r2, r3)) ∧ Aside0 (kq ≤ k) ∧ Aside0 (Kd.R k46 46 wc w.heap.size (fun _ => True) (.slice Ao15 t277.length co15) t277) ∧ Aside0 (wc.heap[gb274]? = some (.cells #[.int .i64 a0_0, (.slice A0_1 l0_1.length c0_1)] 29 (0, 0))) ∧ Aside0 (wc.heap[gb275]? = some (.cells #[.int .i64 0, (.slice none 0 0)] 29 (0, 0))) ∧ Aside0 (wc.heap[gb280]? = some (.cells #[.int .i64 t276, (.slice Ao15 t277.length co15)] 29 (0, 0))) ∧ Aside0 (Below w.heap.size w wc))
 case first =>
  have H := HC5.out
  clear HC5
  replace H := Option.bind_eq_some_iff.mp H
  obtain ⟨t281, A160, H⟩ := H
  replace H : (if t281 = true then (if a1 < 1 then (spec_SetTimer.j0 k a1 a2 true a0_0 l0_1 t276 t277) else ((spec_l1In.f a2 0 23).bind fun t282 => (if t282 = true then (spec_SetTimer.j0 k a1 a2 (decide (a1 > (wrap64 (1000000000 - a0_0)))) a0_0 l0_1 t276 t277) else (spec_SetTimer.j0 k a1 a2 true a0_0 l0_1 t276 t277)))) else (spec_SetTimer.j0 k a1 a2 true a0_0 l0_1 t276 t277)) = some (r1, r2, r3) := H
  have A16 := am A160
  clear A160
  by_cases c17 : t281 = true
  ·subst c17
   replace H : (if a1 < 1 then (spec_SetTimer.j0 k a1 a2 true a0_0 l0_1 t276 t277) else ((spec_l1In.f a2 0 23).bind fun t282 => (if t282 = true then (spec_SetTimer.j0 k a1 a2 (decide (a1 > (wrap64 (1000000000 - a0_0)))) a0_0 l0_1 t276 t277) else (spec_SetTimer.j0 k a1 a2 true a0_0 l0_1 t276 t277)))) = some (r1, r2, r3) := by rw [if_pos rfl] at H; exact H
   by_cases c18 : a1 < 1
   ·rw [if_pos c18] at H
    have c18b0 : decide (a1 < 1) = true := decide_eq_true c18
    clear c18
    (first | rw [c18b0] | (simp only [i64_w, i32_w]; rw [c18b0]) | skip)
    have H' := am H
    clear H
    have hnb19 := NB274_275.out
    have hnc19 := NB275_274.out
    have hnb20 := NB274_280.out
    have hnc20 := NB280_274.out
    obtain ⟨hcz21_0, hcz21_1, hfz21_0, hfz21_1⟩ := bk2 BK274.out
    go_wp2_with (first | ((with_reducible refine gate_callee (f := 10) rfl ?_); refine goesL_ (some 16) rfl rfl Try.func10 (by kernel_rfl) rfl #[.agg #[.int .i64 a0_0, .slice A0_1 l0_1.length c0_1]] rfl mpx ?_; (with_reducible refine (spec_ClockOk.calls k a0_0 _ _ l0_1 true _ ?side1 ?side2 A16.out).mono ?_); (case side1 => exact Kd.C_below HR0_1.out (pkW HB.out)); (case side2 => exact HC0_1.out); rintro e w22 ⟨rfl, hb⟩; refine ⟨_, rfl, ?_⟩; replace HO279 := am (Kd.R_below (by (with_reducible repeat (first | apply Kd.R_alloc | apply Kd.R_drewN | apply Kd.R_drew)); exact (Kd.R_mono (Kd.R_far (p := ⟨gb280, 1, none⟩) (Kd.R_far (p := ⟨gb280, 0, none⟩) (Kd.R_types HO279.out BK280.out (by decide)) (fun _ hk => hk.2) (.int .i64 t276)) (fun _ hk => hk.2) (.slice Ao15 t277.length co15)) (fun _ h_ => h_.1))) hb); replace BK274 := am (blk_below (g := gb274) (o := .cells #[.int .i64 a0_0, .slice A0_1 l0_1.length c0_1] 29 (0, 0)) (by (with_reducible repeat (first | refine blk_drewN ?_ _ | refine blk_drew ?_ | refine blk_alloc ?_ _)); refine blk_far ?_ NB274_280.out _; (with_reducible repeat (first | refine blk_drewN ?_ _ | refine blk_drew ?_ | refine blk_alloc ?_ _)); refine blk_far ?_ NB274_280.out _; exact pkK BK274.out) hb); replace BK275 := am (blk_below (g := gb275) (o := .cells #[.int .i64 0, .slice none 0 0] 29 (0, 0)) (by (with_reducible repeat (first | refine blk_drewN ?_ _ | refine blk_drew ?_ | refine blk_alloc ?_ _)); refine blk_far ?_ NB275_280.out _; (with_reducible repeat (first | refine blk_drewN ?_ _ | refine blk_drew ?_ | refine blk_alloc ?_ _)); refine blk_far ?_ NB275_280.out _; exact pkK BK275.out) hb); replace BK280 := am (blk_below (g := gb280) (o := .cells #[.int .i64 t276, .slice Ao15 t277.length co15] 29 (0, 0)) (by (with_reducible repeat (first | refine blk_drewN ?_ _ | refine blk_drew ?_ | refine blk_alloc ?_ _)); refine blk_put (cs := #[.int .i64 t276, .slice none 0 0]) ?_ 1 _ rfl; (with_reducible repeat (first | refine blk_drewN ?_ _ | refine blk_drew ?_ | refine blk_alloc ?_ _)); refine blk_put (cs := #[.int .i64 0, .slice none 0 0]) ?_ 0 _ rfl; exact pkK BK280.out) hb); replace HB := am (below_step (pkW HB.out) hb); (try clear hb)))
    go_meet
    case rel => exact ⟨_, (true), rfx, H', ⟨by first | omega | exact Nat.le_refl _⟩, ⟨pkR HO279.out⟩, ⟨pkK BK274.out⟩, ⟨pkK BK275.out⟩, ⟨pkK BK280.out⟩, ⟨pkW HB.out⟩⟩
   ·rw [if_neg c18] at H
    have c18b0 : decide (a1 < 1) = false := decide_eq_false c18
    clear c18
    (first | rw [c18b0] | (simp only [i64_w, i32_w]; rw [c18b0]) | skip)
    replace H := Option.bind_eq_some_iff.mp H
    obtain ⟨t282, A230, H⟩ := H
    replace H : (if t282 = true then (spec_SetTimer.j0 k a1 a2 (decide (a1 > (wrap64 (1000000000 - a0_0)))) a0_0 l0_1 t276 t277) else (spec_SetTimer.j0 k a1 a2 true a0_0 l0_1 t276 t277)) = some (r1, r2, r3) := H
    have A23 := am A230
    clear A230
    by_cases c24 : t282 = true
    ·subst c24
     replace H : (spec_SetTimer.j0 k a1 a2 (decide (a1 > (wrap64 (1000000000 - a0_0)))) a0_0 l0_1 t276 t277) = some (r1, r2, r3) := by rw [if_pos rfl] at H; exact H
     have H' := am H
     clear H
     have hnb25 := NB274_275.out
     have hnc25 := NB275_274.out
     have hnb26 := NB274_280.out
     have hnc26 := NB280_274.out
     obtain ⟨hcz27_0, hcz27_1, hfz27_0, hfz27_1⟩ := bk2 BK274.out
     go_wp2_with (first | ((with_reducible refine gate_callee (f := 10) rfl ?_); refine goesL_ (some 16) rfl rfl Try.func10 (by kernel_rfl) rfl #[.agg #[.int .i64 a0_0, .slice A0_1 l0_1.length c0_1]] rfl mpx ?_; (with_reducible refine (spec_ClockOk.calls k a0_0 _ _ l0_1 true _ ?side1 ?side2 A16.out).mono ?_); (case side1 => exact Kd.C_below HR0_1.out (pkW HB.out)); (case side2 => exact HC0_1.out); rintro e w28 ⟨rfl, hb⟩; refine ⟨_, rfl, ?_⟩; replace HO279 := am (Kd.R_below (by (with_reducible repeat (first | apply Kd.R_alloc | apply Kd.R_drewN | apply Kd.R_drew)); exact (Kd.R_mono (Kd.R_far (p := ⟨gb280, 1, none⟩) (Kd.R_far (p := ⟨gb280, 0, none⟩) (Kd.R_types HO279.out BK280.out (by decide)) (fun _ hk => hk.2) (.int .i64 t276)) (fun _ hk => hk.2) (.slice Ao15 t277.length co15)) (fun _ h_ => h_.1))) hb); replace BK274 := am (blk_below (g := gb274) (o := .cells #[.int .i64 a0_0, .slice A0_1 l0_1.length c0_1] 29 (0, 0)) (by (with_reducible repeat (first | refine blk_drewN ?_ _ | refine blk_drew ?_ | refine blk_alloc ?_ _)); refine blk_far ?_ NB274_280.out _; (with_reducible repeat (first | refine blk_drewN ?_ _ | refine blk_drew ?_ | refine blk_alloc ?_ _)); refine blk_far ?_ NB274_280.out _; exact pkK BK274.out) hb); replace BK275 := am (blk_below (g := gb275) (o := .cells #[.int .i64 0, .slice none 0 0] 29 (0, 0)) (by (with_reducible repeat (first | refine blk_drewN ?_ _ | refine blk_drew ?_ | refine blk_alloc ?_ _)); refine blk_far ?_ NB275_280.out _; (with_reducible repeat (first | refine blk_drewN ?_ _ | refine blk_drew ?_ | refine blk_alloc ?_ _)); refine blk_far ?_ NB275_280.out _; exact pkK BK275.out) hb); replace BK280 := am (blk_below (g := gb280) (o := .cells #[.int .i64 t276, .slice Ao15 t277.length co15] 29 (0, 0)) (by (with_reducible repeat (first | refine blk_drewN ?_ _ | refine blk_drew ?_ | refine blk_alloc ?_ _)); refine blk_put (cs := #[.int .i64 t276, .slice none 0 0]) ?_ 1 _ rfl; (with_reducible repeat (first | refine blk_drewN ?_ _ | refine blk_drew ?_ | refine blk_alloc ?_ _)); refine blk_put (cs := #[.int .i64 0, .slice none 0 0]) ?_ 0 _ rfl; exact pkK BK280.out) hb); replace HB := am (below_step (pkW HB.out) hb); (try clear hb)) | (go_at_call 33; (with_reducible refine (spec_l1In.calls a2 0 23 true _ A23.out).mono ?_); rintro e w' ⟨rfl, ⟨nd, rfl⟩⟩; obtain ⟨hcz29_0, hcz29_1, hfz29_0, hfz29_1⟩ := bk2 BK274.out))
     go_meet
     case rel => exact ⟨_, (decide (a1 > (wrap64 (1000000000 - a0_0)))), rfx, H', ⟨by first | omega | exact Nat.le_refl _⟩, ⟨pkR HO279.out⟩, ⟨pkK BK274.out⟩, ⟨pkK BK275.out⟩, ⟨pkK BK280.out⟩, ⟨pkW HB.out⟩⟩
    ·replace c24 := Bool.eq_false_iff.mpr c24
     subst c24
     replace H : (spec_SetTimer.j0 k a1 a2 true a0_0 l0_1 t276 t277) = some (r1, r2, r3) := by rw [if_neg (show ¬ (false = true) by decide)] at H; exact H
     have H' := am H
     clear H
     have hnb30 := NB274_275.out
     have hnc30 := NB275_274.out
     have hnb31 := NB274_280.out
     have hnc31 := NB280_274.out
     obtain ⟨hcz32_0, hcz32_1, hfz32_0, hfz32_1⟩ := bk2 BK274.out
     go_wp2_with (first | ((with_reducible refine gate_callee (f := 10) rfl ?_); refine goesL_ (some 16) rfl rfl Try.func10 (by kernel_rfl) rfl #[.agg #[.int .i64 a0_0, .slice A0_1 l0_1.length c0_1]] rfl mpx ?_; (with_reducible refine (spec_ClockOk.calls k a0_0 _ _ l0_1 true _ ?side1 ?side2 A16.out).mono ?_); (case side1 => exact Kd.C_below HR0_1.out (pkW HB.out)); (case side2 => exact HC0_1.out); rintro e w33 ⟨rfl, hb⟩; refine ⟨_, rfl, ?_⟩; replace HO279 := am (Kd.R_below (by (with_reducible repeat (first | apply Kd.R_alloc | apply Kd.R_drewN | apply Kd.R_drew)); exact (Kd.R_mono (Kd.R_far (p := ⟨gb280, 1, none⟩) (Kd.R_far (p := ⟨gb280, 0, none⟩) (Kd.R_types HO279.out BK280.out (by decide)) (fun _ hk => hk.2) (.int .i64 t276)) (fun _ hk => hk.2) (.slice Ao15 t277.length co15)) (fun _ h_ => h_.1))) hb); replace BK274 := am (blk_below (g := gb274) (o := .cells #[.int .i64 a0_0, .slice A0_1 l0_1.length c0_1] 29 (0, 0)) (by (with_reducible repeat (first | refine blk_drewN ?_ _ | refine blk_drew ?_ | refine blk_alloc ?_ _)); refine blk_far ?_ NB274_280.out _; (with_reducible repeat (first | refine blk_drewN ?_ _ | refine blk_drew ?_ | refine blk_alloc ?_ _)); refine blk_far ?_ NB274_280.out _; exact pkK BK274.out) hb); replace BK275 := am (blk_below (g := gb275) (o := .cells #[.int .i64 0, .slice none 0 0] 29 (0, 0)) (by (with_reducible repeat (first | refine blk_drewN ?_ _ | refine blk_drew ?_ | refine blk_alloc ?_ _)); refine blk_far ?_ NB275_280.out _; (with_reducible repeat (first | refine blk_drewN ?_ _ | refine blk_drew ?_ | refine blk_alloc ?_ _)); refine blk_far ?_ NB275_280.out _; exact pkK BK275.out) hb); replace BK280 := am (blk_below (g := gb280) (o := .cells #[.int .i64 t276, .slice Ao15 t277.length co15] 29 (0, 0)) (by (with_reducible repeat (first | refine blk_drewN ?_ _ | refine blk_drew ?_ | refine blk_alloc ?_ _)); refine blk_put (cs := #[.int .i64 t276, .slice none 0 0]) ?_ 1 _ rfl; (with_reducible repeat (first | refine blk_drewN ?_ _ | refine blk_drew ?_ | refine blk_alloc ?_ _)); refine blk_put (cs := #[.int .i64 0, .slice none 0 0]) ?_ 0 _ rfl; exact pkK BK280.out) hb); replace HB := am (below_step (pkW HB.out) hb); (try clear hb)) | (go_at_call 33; (with_reducible refine (spec_l1In.calls a2 0 23 false _ A23.out).mono ?_); rintro e w' ⟨rfl, ⟨nd, rfl⟩⟩))
     go_meet
     case rel => exact ⟨_, (true), rfx, H', ⟨by first | omega | exact Nat.le_refl _⟩, ⟨pkR HO279.out⟩, ⟨pkK BK274.out⟩, ⟨pkK BK275.out⟩, ⟨pkK BK280.out⟩, ⟨pkW HB.out⟩⟩
  ·replace c17 := Bool.eq_false_iff.mpr c17
   subst c17
   replace H : (spec_SetTimer.j0 k a1 a2 true a0_0 l0_1 t276 t277) = some (r1, r2, r3) := by rw [if_neg (show ¬ (false = true) by decide)] at H; exact H
   have H' := am H
   clear H
   have hnb34 := NB274_275.out
   have hnc34 := NB275_274.out
   have hnb35 := NB274_280.out
   have hnc35 := NB280_274.out
   obtain ⟨hcz36_0, hcz36_1, hfz36_0, hfz36_1⟩ := bk2 BK274.out
   go_wp2_with (first | ((with_reducible refine gate_callee (f := 10) rfl ?_); refine goesL_ (some 16) rfl rfl Try.func10 (by kernel_rfl) rfl #[.agg #[.int .i64 a0_0, .slice A0_1 l0_1.length c0_1]] rfl mpx ?_; (with_reducible refine (spec_ClockOk.calls k a0_0 _ _ l0_1 false _ ?side1 ?side2 A16.out).mono ?_); (case side1 => exact Kd.C_below HR0_1.out (pkW HB.out)); (case side2 => exact HC0_1.out); rintro e w37 ⟨rfl, hb⟩; refine ⟨_, rfl, ?_⟩; replace HO279 := am (Kd.R_below (by (with_reducible repeat (first | apply Kd.R_alloc | apply Kd.R_drewN | apply Kd.R_drew)); exact (Kd.R_mono (Kd.R_far (p := ⟨gb280, 1, none⟩) (Kd.R_far (p := ⟨gb280, 0, none⟩) (Kd.R_types HO279.out BK280.out (by decide)) (fun _ hk => hk.2) (.int .i64 t276)) (fun _ hk => hk.2) (.slice Ao15 t277.length co15)) (fun _ h_ => h_.1))) hb); replace BK274 := am (blk_below (g := gb274) (o := .cells #[.int .i64 a0_0, .slice A0_1 l0_1.length c0_1] 29 (0, 0)) (by (with_reducible repeat (first | refine blk_drewN ?_ _ | refine blk_drew ?_ | refine blk_alloc ?_ _)); refine blk_far ?_ NB274_280.out _; (with_reducible repeat (first | refine blk_drewN ?_ _ | refine blk_drew ?_ | refine blk_alloc ?_ _)); refine blk_far ?_ NB274_280.out _; exact pkK BK274.out) hb); replace BK275 := am (blk_below (g := gb275) (o := .cells #[.int .i64 0, .slice none 0 0] 29 (0, 0)) (by (with_reducible repeat (first | refine blk_drewN ?_ _ | refine blk_drew ?_ | refine blk_alloc ?_ _)); refine blk_far ?_ NB275_280.out _; (with_reducible repeat (first | refine blk_drewN ?_ _ | refine blk_drew ?_ | refine blk_alloc ?_ _)); refine blk_far ?_ NB275_280.out _; exact pkK BK275.out) hb); replace BK280 := am (blk_below (g := gb280) (o := .cells #[.int .i64 t276, .slice Ao15 t277.length co15] 29 (0, 0)) (by (with_reducible repeat (first | refine blk_drewN ?_ _ | refine blk_drew ?_ | refine blk_alloc ?_ _)); refine blk_put (cs := #[.int .i64 t276, .slice none 0 0]) ?_ 1 _ rfl; (with_reducible repeat (first | refine blk_drewN ?_ _ | refine blk_drew ?_ | refine blk_alloc ?_ _)); refine blk_put (cs := #[.int .i64 0, .slice none 0 0]) ?_ 0 _ rfl; exact pkK BK280.out) hb); replace HB := am (below_step (pkW HB.out) hb); (try clear hb)))
   go_meet
   case rel => exact ⟨_, (true), rfx, H', ⟨by first | omega | exact Nat.le_refl _⟩, ⟨pkR HO279.out⟩, ⟨pkK BK274.out⟩, ⟨pkK BK275.out⟩, ⟨pkK BK280.out⟩, ⟨pkW HB.out⟩⟩
 case rest =>
  clear HC5
  try clear c1
  try clear c2
  try clear p2
  try clear c3
  try clear p6
  try clear c8
  try clear c10
  try clear c12
  try clear c13
  try clear c17
  try clear c18
  try clear c18b0
  try clear c19
  try clear c20
  try clear c24
  try clear c25
  try clear c26
  try clear c28
  try clear c30
  try clear c31
  try clear c34
  try clear c35
  try clear c37
  try clear hcz14_0
  try clear hcz14_1
  try clear hcz21_0
  try clear hcz21_1
  try clear hcz27_0
  try clear hcz27_1
  try clear hcz29_0
  try clear hcz29_1
  try clear hcz32_0
  try clear hcz32_1
  try clear hcz36_0
  try clear hcz36_1
  try clear hcz9_0
  try clear hcz9_1
  try clear hfz14_0
  try clear hfz14_1
  try clear hfz21_0
  try clear hfz21_1
  try clear hfz27_0
  try clear hfz27_1
  try clear hfz29_0
  try clear hfz29_1
  try clear hfz32_0
  try clear hfz32_1
  try clear hfz36_0
  try clear hfz36_1
  try clear hfz9_0
  try clear hfz9_1
  obtain ⟨kq, x14_4, rfl, HA, HJ4, HO_281001, BK274, BK275, BK280, HB⟩ := hcut
  cases kq with
  | zero => exact absurd HA.out (by simp [spec_SetTimer.j0])
  | succ kj4 =>
   have H := HA.out
   clear HA
   simp only [spec_SetTimer.j0] at H
   by_cases c38 : x14_4 = true
   ·subst c38
    replace H : (some (t276, t277, 1)) = some (r1, r2, r3) := by rw [if_pos rfl] at H; exact H
    simp only [Option.some.injEq, Prod.mk.injEq] at H
    obtain ⟨rfl, rfl, rfl⟩ := H
    have hnb39 := NB280_274.out
    have hnc39 := NB274_280.out
    have hnb40 := NB280_275.out
    have hnc40 := NB275_280.out
    obtain ⟨hcz41_0, hcz41_1, hfz41_0, hfz41_1⟩ := bk2 BK280.out
    have hnb42 := NB275_274.out
    have hnc42 := NB274_275.out
    obtain ⟨hcz43_0, hcz43_1, hfz43_0, hfz43_1⟩ := bk2 BK275.out
    go_wp2
    refine bodyPost_ret (results_ct rfl _ _ gb275 29 #[.int .i64 t276, .slice Ao15 t277.length co15] (0, 0) _ rfl (by (with_reducible repeat (first | refine blk_drewN ?_ _ | refine blk_drew ?_ | refine blk_alloc ?_ _)); refine blk_put (cs := #[.int .i64 t276, .slice none 0 0]) ?_ 1 _ rfl; (with_reducible repeat (first | refine blk_drewN ?_ _ | refine blk_drew ?_ | refine blk_alloc ?_ _)); refine blk_put (cs := #[.int .i64 0, .slice none 0 0]) ?_ 0 _ rfl; exact pkK BK275.out) Try.underlying29 rfl (by kernel_rfl)) rfl ?_
    exact ⟨_, rfe, by (with_reducible repeat (first | apply Kd.R_alloc | apply Kd.R_drewN | apply Kd.R_drew)); exact Kd.R_mono (Kd.R_far (p := ⟨gb275, 1, none⟩) (Kd.R_far (p := ⟨gb275, 0, none⟩) (Kd.R_types HO_281001.out BK275.out (by decide)) (fun _ hk => hk.2) (.int .i64 t276)) (fun _ hk => hk.2) (.slice Ao15 t277.length co15)) (fun _ hk => trivial), pkW HB.out⟩
   ·replace c38 := Bool.eq_false_iff.mpr c38
    subst c38
    replace H : (if (l0_1.length : Int) ≥ 40 then (some (t276, t277, 2)) else (spec_SetTimer.l0 kj4 false 0 a0_0 l0_1 t276 (([] : List (S46))) (wrap64 (a0_0 + a1)) a2)) = some (r1, r2, r3) := by rw [if_neg (show ¬ (false = true) by decide)] at H; exact H
    by_cases c44 : (l0_1.length : Int) ≥ 40
    ·rw [if_pos c44] at H
     have c44b0 : decide (40 ≤ (l0_1.length : Int)) = true := decide_eq_true c44
     have c44b1 : decide (40 ≤ l0_1.length) = true := decide_eq_true (by omega)
     clear c44
     simp only [Option.some.injEq, Prod.mk.injEq] at H
     obtain ⟨rfl, rfl, rfl⟩ := H
     have hnb45 := NB274_275.out
     have hnc45 := NB275_274.out
     have hnb46 := NB274_280.out
     have hnc46 := NB280_274.out
     obtain ⟨hcz47_0, hcz47_1, hfz47_0, hfz47_1⟩ := bk2 BK274.out
     have hnb48 := NB280_275.out
     have hnc48 := NB275_280.out
     obtain ⟨hcz49_0, hcz49_1, hfz49_0, hfz49_1⟩ := bk2 BK280.out
     obtain ⟨hcz50_0, hcz50_1, hfz50_0, hfz50_1⟩ := bk2 BK275.out
     go_wp2
     refine bodyPost_ret (results_ct rfl _ _ gb275 29 #[.int .i64 t276, .slice Ao15 t277.length co15] (0, 0) _ rfl (by (with_reducible repeat (first | refine blk_drewN ?_ _ | refine blk_drew ?_ | refine blk_alloc ?_ _)); refine blk_put (cs := #[.int .i64 t276, .slice none 0 0]) ?_ 1 _ rfl; (with_reducible repeat (first | refine blk_drewN ?_ _ | refine blk_drew ?_ | refine blk_alloc ?_ _)); refine blk_put (cs := #[.int .i64 0, .slice none 0 0]) ?_ 0 _ rfl; exact pkK BK275.out) Try.underlying29 rfl (by kernel_rfl)) rfl ?_
     exact ⟨_, rfe, by (with_reducible repeat (first | apply Kd.R_alloc | apply Kd.R_drewN | apply Kd.R_drew)); exact Kd.R_mono (Kd.R_far (p := ⟨gb275, 1, none⟩) (Kd.R_far (p := ⟨gb275, 0, none⟩) (Kd.R_types HO_281001.out BK275.out (by decide)) (fun _ hk => hk.2) (.int .i64 t276)) (fun _ hk => hk.2) (.slice Ao15 t277.length co15)) (fun _ hk => trivial), pkW HB.out⟩
    ·rw [if_neg c44] at H
     have c44b0 : decide (40 ≤ (l0_1.length : Int)) = false := decide_eq_false c44
     have c44b1 : decide (40 ≤ l0_1.length) = false := decide_eq_false (by omega)
     clear c44
     obtain ⟨y284, hy284⟩ : ∃ y_ : List (S46), y_ = (([] : List (S46))) := ⟨_, rfl⟩
     replace H : (spec_SetTimer.l0 kj4 false 0 a0_0 l0_1 t276 y284 (wrap64 (a0_0 + a1)) a2) = some (r1, r2, r3) := by first | (rw [hy284]; with_reducible exact H) | (have H2_ := (Option.bind_some _ _).symm.trans H; rw [hy284]; with_reducible exact H2_) | (have H2_ := (Option.bind_some _ _).symm.trans H; with_reducible exact H2_) | with_reducible exact H | (rw [hy284]; exact H) | exact H
     have Ny284 := am hy284
     clear hy284
     have H' := am H
     clear H
     have hnb51 := NB274_275.out
     have hnc51 := NB275_274.out
     have hnb52 := NB274_280.out
     have hnc52 := NB280_274.out
     obtain ⟨hcz53_0, hcz53_1, hfz53_0, hfz53_1⟩ := bk2 BK274.out
     go_wp2_with (first | ((with_reducible refine gate_dst (N := 9) rfl ?_); refine box_event ?hg (N := 9) ?hd (cs := #[.int .i64 0, .int .i64 0]) (t := 46) ?hr ?_; (case hd => rfl); (case hg => rfl); (case hr => first | (go_simp; done) | (go_simp; rfl)); intro gb283 hg w54 hbox hb; replace HO_281001 := am (Kd.R_below (Kd.R_elderB (pkR HO_281001.out) gb283 (Nat.le_of_eq hg.symm)) hb); have BK283 := am (hbox); have GW283 := am ((by rw [hg]; exact (below_size (pkW HB.out)) : w.heap.size ≤ gb283)); have GE283 := am ((by rw [hg]; exact (below_size (pkW HB.out)) : w.heap.size ≤ gb283)); replace HB := am (below_step (pkW HB.out) hb); have NB274_283 := am ((by rw [hg]; exact Nat.ne_of_lt (blk_lt (g := gb274) (o := .cells #[.int .i64 a0_0, .slice A0_1 l0_1.length c0_1] 29 (0, 0)) (pkK BK274.out)) : gb274 ≠ gb283)); have NB283_274 := am ((by rw [hg]; exact Nat.ne_of_gt (blk_lt (g := gb274) (o := .cells #[.int .i64 a0_0, .slice A0_1 l0_1.length c0_1] 29 (0, 0)) (pkK BK274.out)) : gb283 ≠ gb274)); replace BK274 := am (blk_below (pkK BK274.out) hb); have NB275_283 := am ((by rw [hg]; exact Nat.ne_of_lt (blk_lt (g := gb275) (o := .cells #[.int .i64 0, .slice none 0 0] 29 (0, 0)) (pkK BK275.out)) : gb275 ≠ gb283)); have NB283_275 := am ((by rw [hg]; exact Nat.ne_of_gt (blk_lt (g := gb275) (o := .cells #[.int .i64 0, .slice none 0 0] 29 (0, 0)) (pkK BK275.out)) : gb283 ≠ gb275)); replace BK275 := am (blk_below (pkK BK275.out) hb); have NB280_283 := am ((by rw [hg]; exact Nat.ne_of_lt (blk_lt (g := gb280) (o := .cells #[.int .i64 t276, .slice Ao15 t277.length co15] 29 (0, 0)) (pkK BK280.out)) : gb280 ≠ gb283)); have NB283_280 := am ((by rw [hg]; exact Nat.ne_of_gt (blk_lt (g := gb280) (o := .cells #[.int .i64 t276, .slice Ao15 t277.length co15] 29 (0, 0)) (pkK BK280.out)) : gb283 ≠ gb280)); replace BK280 := am (blk_below (pkK BK280.out) hb); clear hb hbox hg; have hnb55 := NB283_274.out; have hnc55 := NB274_283.out; have hnb56 := NB283_275.out; have hnc56 := NB275_283.out; have hnb57 := NB283_280.out; have hnc57 := NB280_283.out; obtain ⟨hcz58_0, hcz58_1, hfz58_0, hfz58_1⟩ := bk2 BK283.out) | ((with_reducible refine gate_dst (N := 47) rfl ?_); refine Kd.R_lit k46 _ 46 ?hg (N := 47) ?hd (xs := ([] : List (S46))) (inner := []) (ok := fun _ => True) (okp := fun _ => True) ?hr ?hp (fun _ hk => hk) trivial (Below.refl _ _) (Nat.le_refl _) (by simp) ?_; (case hd => rfl); (case hg => rfl); (case hr => first | (go_simp; done) | (go_simp; rfl)); (case hp => exact (Reps.none _ _)); intro v285 w59 ho60 hb hg_ hnew_; clear hg_ hnew_; (first | rw [← Ny284.out] at ho60 | (simp only [Int.reduceToNat] at ho60; rw [← Ny284.out] at ho60)); have HO286 := am (Kd.R_lower (Kd.R_newB (Kd.R_new' ho60 (Kd.R_lt (by (with_reducible repeat (first | apply Kd.R_alloc | apply Kd.R_drewN | apply Kd.R_drew)); exact (Kd.R_mono (Kd.R_far (p := ⟨gb283, 1, none⟩) (Kd.R_far (p := ⟨gb283, 0, none⟩) (Kd.R_mono HO_281001.out (fun k_ hk => (⟨hk, hk.2⟩ : _ ∧ k_ ≠ gb283))) (fun _ hk => hk.2) (.int .i64 (wrap64 (a0_0 + a1)))) (fun _ hk => hk.2) (.int .i64 a2)) (fun _ h_ => h_.1))))) (g := gb283) (o := .cells #[.int .i64 (wrap64 (a0_0 + a1)), .int .i64 a2] 46 (0, 0)) (by (with_reducible repeat (first | refine blk_drewN ?_ _ | refine blk_drew ?_ | refine blk_alloc ?_ _)); refine blk_put (cs := #[.int .i64 (wrap64 (a0_0 + a1)), .int .i64 0]) ?_ 1 _ rfl; (with_reducible repeat (first | refine blk_drewN ?_ _ | refine blk_drew ?_ | refine blk_alloc ?_ _)); refine blk_put (cs := #[.int .i64 0, .int .i64 0]) ?_ 0 _ rfl; exact pkK BK283.out)) (below_size (pkW HB.out))); replace HO_281001 := am (Kd.R_elder' (by (with_reducible repeat (first | apply Kd.R_alloc | apply Kd.R_drewN | apply Kd.R_drew)); exact (Kd.R_mono (Kd.R_far (p := ⟨gb283, 1, none⟩) (Kd.R_far (p := ⟨gb283, 0, none⟩) (Kd.R_mono HO_281001.out (fun k_ hk => (⟨hk, hk.2⟩ : _ ∧ k_ ≠ gb283))) (fun _ hk => hk.2) (.int .i64 (wrap64 (a0_0 + a1)))) (fun _ hk => hk.2) (.int .i64 a2)) (fun _ h_ => h_.1))) (Kd.R_base ho60) hb); replace BK274 := am (blk_below (g := gb274) (o := .cells #[.int .i64 a0_0, .slice A0_1 l0_1.length c0_1] 29 (0, 0)) (by (with_reducible repeat (first | refine blk_drewN ?_ _ | refine blk_drew ?_ | refine blk_alloc ?_ _)); refine blk_far ?_ NB274_283.out _; (with_reducible repeat (first | refine blk_drewN ?_ _ | refine blk_drew ?_ | refine blk_alloc ?_ _)); refine blk_far ?_ NB274_283.out _; exact pkK BK274.out) hb); replace BK275 := am (blk_below (g := gb275) (o := .cells #[.int .i64 0, .slice none 0 0] 29 (0, 0)) (by (with_reducible repeat (first | refine blk_drewN ?_ _ | refine blk_drew ?_ | refine blk_alloc ?_ _)); refine blk_far ?_ NB275_283.out _; (with_reducible repeat (first | refine blk_drewN ?_ _ | refine blk_drew ?_ | refine blk_alloc ?_ _)); refine blk_far ?_ NB275_283.out _; exact pkK BK275.out) hb); replace BK280 := am (blk_below (g := gb280) (o := .cells #[.int .i64 t276, .slice Ao15 t277.length co15] 29 (0, 0)) (by (with_reducible repeat (first | refine blk_drewN ?_ _ | refine blk_drew ?_ | refine blk_alloc ?_ _)); refine blk_far ?_ NB280_283.out _; (with_reducible repeat (first | refine blk_drewN ?_ _ | refine blk_drew ?_ | refine blk_alloc ?_ _)); refine blk_far ?_ NB280_283.out _; exact pkK BK280.out) hb); replace BK283 := am (blk_below (g := gb283) (o := .cells #[.int .i64 (wrap64 (a0_0 + a1)), .int .i64 a2] 46 (0, 0)) (by (with_reducible repeat (first | refine blk_drewN ?_ _ | refine blk_drew ?_ | refine blk_alloc ?_ _)); refine blk_put (cs := #[.int .i64 (wrap64 (a0_0 + a1)), .int .i64 0]) ?_ 1 _ rfl; (with_reducible repeat (first | refine blk_drewN ?_ _ | refine blk_drew ?_ | refine blk_alloc ?_ _)); refine blk_put (cs := #[.int .i64 0, .int .i64 0]) ?_ 0 _ rfl; exact pkK BK283.out) hb); replace HB := am (below_step (pkW HB.out) hb); clear hb ho60; obtain ⟨Ao61, co61, eo61⟩ := Kd.R_slice HO286.out; subst eo61; have hnb62 := NB280_275.out; have hnc62 := NB275_280.out; obtain ⟨hcz63_0, hcz63_1, hfz63_0, hfz63_1⟩ := bk2 BK280.out))
     go_loopg [10, 11] kj4 (fun kq v10 v11 w' => ∃ (x10_2 : Bool) (x11_2 : Int) (x281001_2 : List (S46)) (u281001 : Value), v10 = .bool x10_2 ∧ v11 = .int .i64 x11_2 ∧ Aside0 (spec_SetTimer.l0 kq x10_2 x11_2 a0_0 l0_1 t276 x281001_2 (wrap64 (a0_0 + a1)) a2 = some (r1, r2, r3)) ∧ Aside0 (kq ≤ kj4) ∧ Aside0 (Kd.R k46 46 w' w.heap.size (fun k_ => k_ ≠ gb283) u281001 x281001_2) ∧ Aside0 (w'.heap[gb274]? = some (.cells #[.int .i64 a0_0, (.slice A0_1 l0_1.length c0_1)] 29 (0, 0))) ∧ Aside0 (w'.heap[gb275]? = some (.cells #[.int .i64 0, (.slice none 0 0)] 29 (0, 0))) ∧ Aside0 (w'.heap[gb280]? = some (.cells #[.int .i64 t276, u281001] 29 (0, 0))) ∧ Aside0 (w'.heap[gb283]? = some (.cells #[.int .i64 (wrap64 (a0_0 + a1)), .int .i64 a2] 46 (0, 0))) ∧ Aside0 (Below w.heap.size w w'))
     case atStart => exact ⟨(false), (0), (y284), (.slice Ao61 y284.length co61), rfx, rfx, H', ⟨Nat.le_refl _⟩, ⟨by (with_reducible repeat (first | apply Kd.R_alloc | apply Kd.R_drewN | apply Kd.R_drew)); exact Kd.R_mono (Kd.R_far (p := ⟨gb280, 1, none⟩) (Kd.R_types HO286.out BK280.out (by decide)) (fun _ hk => hk.2) (.slice Ao61 y284.length co61)) (fun _ hk => hk.1.2)⟩, ⟨by (with_reducible repeat (first | refine blk_drewN ?_ _ | refine blk_drew ?_ | refine blk_alloc ?_ _)); refine blk_far ?_ NB274_280.out _; exact pkK BK274.out⟩, ⟨by (with_reducible repeat (first | refine blk_drewN ?_ _ | refine blk_drew ?_ | refine blk_alloc ?_ _)); refine blk_far ?_ NB275_280.out _; exact pkK BK275.out⟩, ⟨by (with_reducible repeat (first | refine blk_drewN ?_ _ | refine blk_drew ?_ | refine blk_alloc ?_ _)); refine blk_put (cs := #[.int .i64 t276, .slice Ao15 t277.length co15]) ?_ 1 _ rfl; exact pkK BK280.out⟩, ⟨by (with_reducible repeat (first | refine blk_drewN ?_ _ | refine blk_drew ?_ | refine blk_alloc ?_ _)); refine blk_far ?_ NB283_280.out _; exact pkK BK283.out⟩, ⟨pkW HB.out⟩⟩
     case round =>
      clear H'
      try clear c1
      try clear c2
      try clear p2
      try clear c3
      try clear c4
      try clear c5
      try clear c6
      try clear p6
      try clear c8
      try clear c10
      try clear c12
      try clear c13
      try clear c17
      try clear c18
      try clear c18b0
      try clear c19
      try clear c20
      try clear c24
      try clear c25
      try clear c26
      try clear c28
      try clear c30
      try clear c31
      try clear c34
      try clear c35
      try clear c37
      try clear c38
      try clear c39
      try clear c40
      try clear c42
      try clear c44
      try clear c44b0
      try clear c44b1
      try clear c45
      try clear c46
      try clear c48
      try clear c51
      try clear c52
      try clear c55
      try clear c56
      try clear c57
      try clear c62
      try clear hcz14_0
      try clear hcz14_1
      try clear hcz21_0
      try clear hcz21_1
      try clear hcz27_0
      try clear hcz27_1
      try clear hcz29_0
      try clear hcz29_1
      try clear hcz32_0
      try clear hcz32_1
      try clear hcz36_0
      try clear hcz36_1
      try clear hcz41_0
      try clear hcz41_1
      try clear hcz43_0
      try clear hcz43_1
      try clear hcz47_0
      try clear hcz47_1
      try clear hcz49_0
      try clear hcz49_1
      try clear hcz50_0
      try clear hcz50_1
      try clear hcz53_0
      try clear hcz53_1
      try clear hcz58_0
      try clear hcz58_1
      try clear hcz63_0
      try clear hcz63_1
      try clear hcz9_0
      try clear hcz9_1
      try clear hfz14_0
      try clear hfz14_1
      try clear hfz21_0
      try clear hfz21_1
      try clear hfz27_0
      try clear hfz27_1
      try clear hfz29_0
      try clear hfz29_1
      try clear hfz32_0
      try clear hfz32_1
      try clear hfz36_0
      try clear hfz36_1
      try clear hfz41_0
      try clear hfz41_1
      try clear hfz43_0
      try clear hfz43_1
      try clear hfz47_0
      try clear hfz47_1
      try clear hfz49_0
      try clear hfz49_1
      try clear hfz50_0
      try clear hfz50_1
      try clear hfz53_0
      try clear hfz53_1
      try clear hfz58_0
      try clear hfz58_1
      try clear hfz63_0
      try clear hfz63_1
      try clear hfz9_0
      try clear hfz9_1
      try clear p2
      try clear p6
      obtain ⟨x10_2, x11_2, x281001_2, u281001, rfl, rfl, HA, HK2, HO_281001, BK274, BK275, BK280, BK283, HB⟩ := hrel
      cases gk with
      | zero => exact absurd HA.out (by simp [spec_SetTimer.l0])
      | succ k2 =>
       have H := HA.out
       clear HA
       simp only [spec_SetTimer.l0] at H
       by_cases c64 : x11_2 < (l0_1.length : Int)
       ·rw [if_pos c64] at H
        have c64b0 : decide (x11_2 < (l0_1.length : Int)) = true := decide_eq_true c64
        clear c64
        by_cases c65 : 0 ≤ x11_2
        ·rw [if_pos c65] at H
         have c65b0 : decide (0 ≤ x11_2) = true := decide_eq_true c65
         clear c65
         by_cases c66 : ((rd_T46 l0_1 x11_2).f0) > (wrap64 (a0_0 + a1))
         ·rw [if_pos c66] at H
          have c66b0 : decide ((wrap64 (a0_0 + a1)) < ((rd_T46 l0_1 x11_2).f0)) = true := decide_eq_true c66
          clear c66
          by_cases c67 : x10_2 = true
          ·subst c67
           replace H : (if x281001_2.length < 8796093022208 then (spec_SetTimer.l0 k2 true (wrap64 (x11_2 + 1)) a0_0 l0_1 t276 (x281001_2 ++ [(⟨(rd_T46 l0_1 x11_2).f0, (rd_T46 l0_1 x11_2).f1⟩ : S46)]) (wrap64 (a0_0 + a1)) a2) else (none)) = some (r1, r2, r3) := by rw [if_pos rfl] at H; exact H
           by_cases c68 : x281001_2.length < 8796093022208
           ·rw [if_pos c68] at H
            have LMc68 := am c68
            clear c68
            obtain ⟨y289, hy289⟩ : ∃ y_ : List (S46), y_ = (x281001_2 ++ [(⟨(rd_T46 l0_1 x11_2).f0, (rd_T46 l0_1 x11_2).f1⟩ : S46)]) := ⟨_, rfl⟩
            replace H : (spec_SetTimer.l0 k2 true (wrap64 (x11_2 + 1)) a0_0 l0_1 t276 y289 (wrap64 (a0_0 + a1)) a2) = some (r1, r2, r3) := by first | (rw [hy289]; with_reducible exact H) | (have H2_ := (Option.bind_some _ _).symm.trans H; rw [hy289]; with_reducible exact H2_) | (have H2_ := (Option.bind_some _ _).symm.trans H; with_reducible exact H2_) | with_reducible exact H | (rw [hy289]; exact H) | exact H
            have Ny289 := am hy289
            clear hy289
            have H' := am H
            clear H
            have hnb69 := NB274_275.out
            have hnc69 := NB275_274.out
            have hnb70 := NB274_280.out
            have hnc70 := NB280_274.out
            have hnb71 := NB274_283.out
            have hnc71 := NB283_274.out
            obtain ⟨hcz72_0, hcz72_1, hfz72_0, hfz72_1⟩ := bk2 BK274.out
            try go_wp2
            replace HO_281001 := am (Kd.R_drew HO_281001.out)
            replace BK274 := am (blk_drew BK274.out)
            replace BK275 := am (blk_drew BK275.out)
            replace BK280 := am (blk_drew BK280.out)
            replace BK283 := am (blk_drew BK283.out)
            replace HB := am (below_drew1 HB.out)
            have p287 : 0 ≤ (x11_2 : Int) := ofd
            have q287 : x11_2 < (l0_1.length : Int) := ofd
            obtain ⟨ad287, e287, hx287_0, hx287_1⟩ := at_T46 HR0_1.out x11_2 p287 q287
            have hw287_1 := hx287_1
            have hw287_0 := hx287_0
            cases e287
            replace hx287_0 := (HB.out.cell (World.block_lt_of_cell? w _ hx287_0)).trans hx287_0
            replace hx287_1 := (HB.out.cell (World.block_lt_of_cell? w _ hx287_1)).trans hx287_1
            replace p287 := eq_true p287
            replace q287 := eq_true q287
            refine start_ (n := 13) (S := fun w' => w'.cell? ⟨gb274, 0, none⟩ = some (.int .i64 a0_0) ∧ w'.cell? ⟨gb274, 1, none⟩ = some (.slice (some ad287) l0_1.length c0_1) ∧ w'.cell? ⟨gb283, 0, none⟩ = some (.int .i64 (wrap64 (a0_0 + a1))) ∧ w'.cell? ⟨gb283, 1, none⟩ = some (.int .i64 a2) ∧ w'.cell? (ad287.add ((x11_2).toNat * 2)) = some (.int .i64 ((rd_T46 l0_1 x11_2).f0)) ∧ w'.cell? ⟨(ad287.add ((x11_2).toNat * 2)).block, (ad287.add ((x11_2).toNat * 2)).off + 1, none⟩ = some (.int .i64 ((rd_T46 l0_1 x11_2).f1))) (ds := []) #[false, false, false, false, false, false, false, false, false, false, false, false, false] (by kernel_rfl) rfl rfl ⟨(blk_cell BK274.out 0).trans rfl, (blk_cell BK274.out 1).trans rfl, (blk_cell BK283.out 0).trans rfl, (blk_cell BK283.out 1).trans rfl, ((HB.out.cell (World.block_lt_of_cell? w _ hw287_0)).trans hw287_0), ((HB.out.cell (World.block_lt_of_cell? w _ hw287_1)).trans hw287_1)⟩ (fun hHeld => ?_); refine with_tabW spec_SetTimer.tab12 spec_SetTimer.bits12 (fun HT_ HW_ => ?_)
            generalize wr.drew = w73 at HO_281001 BK274 BK275 BK280 BK283 HB hx287_0 hx287_1 hHeld ⊢
            refine pure_ (i := 0) (N := some 56) (v := ?_) (a' := ?_) #[true, false, false, false, false, false, false, false, false, false, false, false, false] rfl rfl (any_of HT_.out (by kernel_rfl)) (fun _ _ _ h => h) (Or.inl ⟨by rfl, ?_⟩) ?_ ?_
            rotate_left
            ·intro w'
             go_simp
             with_reducible rfl
            rotate_left
            ·simp only [Act.put, List.setIfInBounds_toArray, List.set_cons_zero, List.set_cons_succ, i64_w, i32_w]
             rfl
            refine pure_ (i := 2) (N := some 58) (v := ?_) (a' := ?_) #[true, false, true, false, false, false, false, false, false, false, false, false, false] rfl rfl (any_of HT_.out (by kernel_rfl)) (fun _ _ _ h => h) (Or.inl ⟨by rfl, ?_⟩) ?_ ?_
            rotate_left
            ·intro w'
             go_simp
             with_reducible rfl
            rotate_left
            ·simp only [Act.put, List.setIfInBounds_toArray, List.set_cons_zero, List.set_cons_succ, i64_w, i32_w]
             rfl
            refine pure_ (i := 6) (N := some 62) (v := ?_) (a' := ?_) #[true, false, true, false, false, false, true, false, false, false, false, false, false] rfl rfl (any_of HT_.out (by kernel_rfl)) (fun _ _ _ h => h) (Or.inl ⟨by rfl, ?_⟩) ?_ ?_
            rotate_left
            ·intro w'
             go_simp
             with_reducible rfl
            rotate_left
            ·simp only [Act.put, List.setIfInBounds_toArray, List.set_cons_zero, List.set_cons_succ, i64_w, i32_w]
             rfl
            refine take_ (i := 1) (N := some 57) (v := ?_) (a' := ?_) #[true, true, true, false, false, false, true, false, false, false, false, false, false] rfl rfl (take_ofW HT_.out HW_.out (by kernel_rfl)) (fun _ _ _ h => h) (Or.inl ⟨by rfl, ?_⟩) hHeld ?_ ?_
            rotate_left
            ·rintro w' ⟨s0, s1, s2, s3, s4, s5⟩
             go_simp
             with_reducible rfl
            rotate_left
            ·simp only [Act.put, List.setIfInBounds_toArray, List.set_cons_zero, List.set_cons_succ, i64_w, i32_w]
             rfl
            refine pure_ (i := 3) (N := some 59) (v := ?_) (a' := ?_) #[true, true, true, true, false, false, true, false, false, false, false, false, false] rfl rfl (any_of HT_.out (by kernel_rfl)) (fun _ _ _ h => h) (Or.inl ⟨by rfl, ?_⟩) ?_ ?_
            rotate_left
            ·intro w'
             go_simp
             with_reducible rfl
            rotate_left
            ·simp only [Act.put, List.setIfInBounds_toArray, List.set_cons_zero, List.set_cons_succ, i64_w, i32_w]
             rfl
            refine pure_ (i := 4) (N := some 60) (v := ?_) (a' := ?_) #[true, true, true, true, true, false, true, false, false, false, false, false, false] rfl rfl (any_of HT_.out (by kernel_rfl)) (fun _ _ _ h => h) (Or.inl ⟨by rfl, ?_⟩) ?_ ?_
            rotate_left
            ·intro w'
             go_simp
             with_reducible rfl
            rotate_left
            ·simp only [Act.put, List.setIfInBounds_toArray, List.set_cons_zero, List.set_cons_succ, i64_w, i32_w]
             rfl
            refine take_ (i := 5) (N := some 61) (v := ?_) (a' := ?_) #[true, true, true, true, true, true, true, false, false, false, false, false, false] rfl rfl (take_ofW HT_.out HW_.out (by kernel_rfl)) (fun _ _ _ h => h) (Or.inl ⟨by rfl, ?_⟩) hHeld ?_ ?_
            rotate_left
            ·rintro w' ⟨s0, s1, s2, s3, s4, s5⟩
             go_simp
             with_reducible rfl
            rotate_left
            ·simp only [Act.put, List.setIfInBounds_toArray, List.set_cons_zero, List.set_cons_succ, i64_w, i32_w]
             rfl
            refine take_ (i := 7) (N := some 63) (v := ?_) (a' := ?_) #[true, true, true, true, true, true, true, true, false, false, false, false, false] rfl rfl (take_ofW HT_.out HW_.out (by kernel_rfl)) (fun _ _ _ h => h) (Or.inl ⟨by rfl, ?_⟩) hHeld ?_ ?_
            rotate_left
            ·rintro w' ⟨s0, s1, s2, s3, s4, s5⟩
             go_simp
             with_reducible rfl
            rotate_left
            ·simp only [Act.put, List.setIfInBounds_toArray, List.set_cons_zero, List.set_cons_succ, i64_w, i32_w]
             rfl
            refine pure_ (i := 8) (N := some 64) (v := ?_) (a' := ?_) #[true, true, true, true, true, true, true, true, true, false, false, false, false] rfl rfl (any_of HT_.out (by kernel_rfl)) (fun _ _ _ h => h) (Or.inl ⟨by rfl, ?_⟩) ?_ ?_
            rotate_left
            ·intro w'
             go_simp
             with_reducible rfl
            rotate_left
            ·simp only [Act.put, List.setIfInBounds_toArray, List.set_cons_zero, List.set_cons_succ, i64_w, i32_w]
             rfl
            refine pure_ (i := 9) (N := some 65) (v := ?_) (a' := ?_) #[true, true, true, true, true, true, true, true, true, true, false, false, false] rfl rfl (any_of HT_.out (by kernel_rfl)) (fun _ _ _ h => h) (Or.inl ⟨by rfl, ?_⟩) ?_ ?_
            rotate_left
            ·intro w'
             go_simp
             with_reducible rfl
            rotate_left
            ·simp only [Act.put, List.setIfInBounds_toArray, List.set_cons_zero, List.set_cons_succ, i64_w, i32_w]
             rfl
            refine pure_ (i := 10) (N := some 66) (v := ?_) (a' := ?_) #[true, true, true, true, true, true, true, true, true, true, true, false, false] rfl rfl (any_of HT_.out (by kernel_rfl)) (fun _ _ _ h => h) (Or.inl ⟨by rfl, ?_⟩) ?_ ?_
            rotate_left
            ·intro w'
             go_simp
             with_reducible rfl
            rotate_left
            ·simp only [Act.put, List.setIfInBounds_toArray, List.set_cons_zero, List.set_cons_succ, i64_w, i32_w]
             rfl
            refine pure_ (i := 11) (N := some 67) (v := ?_) (a' := ?_) #[true, true, true, true, true, true, true, true, true, true, true, true, false] rfl rfl (any_of HT_.out (by kernel_rfl)) (fun _ _ _ h => h) (Or.inl ⟨by rfl, ?_⟩) ?_ ?_
            rotate_left
            ·intro w'
             go_simp
             with_reducible rfl
            rotate_left
            ·simp only [Act.put, List.setIfInBounds_toArray, List.set_cons_zero, List.set_cons_succ, i64_w, i32_w]
             rfl
            refine pure_ (i := 12) (N := some 68) (v := ?_) (a' := ?_) #[true, true, true, true, true, true, true, true, true, true, true, true, true] rfl rfl (any_of HT_.out (by kernel_rfl)) (fun _ _ _ h => h) (Or.inl ⟨by rfl, ?_⟩) ?_ ?_
            rotate_left
            ·intro w'
             go_simp
             with_reducible rfl
            rotate_left
            ·simp only [Act.put, List.setIfInBounds_toArray, List.set_cons_zero, List.set_cons_succ, i64_w, i32_w]
             rfl
            refine done_ (done_of HT_.out (by kernel_rfl)) ?_
            try go_wp2
            replace HO_281001 := am (Kd.R_drew HO_281001.out)
            replace BK274 := am (blk_drew BK274.out)
            replace BK275 := am (blk_drew BK275.out)
            replace BK280 := am (blk_drew BK280.out)
            replace BK283 := am (blk_drew BK283.out)
            replace HB := am (below_drew1 HB.out)
            have p288 : 0 ≤ (x11_2 : Int) := ofd
            have q288 : x11_2 < (l0_1.length : Int) := ofd
            obtain ⟨ad288, e288, hx288_0, hx288_1⟩ := at_T46 HR0_1.out x11_2 p288 q288
            have hw288_1 := hx288_1
            have hw288_0 := hx288_0
            obtain rfl : ad287 = ad288 := (by injection e288)
            replace hx288_0 := (HB.out.cell (World.block_lt_of_cell? w _ hx288_0)).trans hx288_0
            replace hx288_1 := (HB.out.cell (World.block_lt_of_cell? w _ hx288_1)).trans hx288_1
            replace p288 := eq_true p288
            replace q288 := eq_true q288
            refine start_ (n := 11) (S := fun w' => w'.cell? ⟨gb280, 0, none⟩ = some (.int .i64 t276) ∧ w'.cell? ⟨gb280, 1, none⟩ = some (u281001) ∧ w'.cell? ⟨gb274, 0, none⟩ = some (.int .i64 a0_0) ∧ w'.cell? ⟨gb274, 1, none⟩ = some (.slice (some ad287) l0_1.length c0_1) ∧ w'.cell? (ad287.add ((x11_2).toNat * 2)) = some (.int .i64 ((rd_T46 l0_1 x11_2).f0)) ∧ w'.cell? ⟨(ad287.add ((x11_2).toNat * 2)).block, (ad287.add ((x11_2).toNat * 2)).off + 1, none⟩ = some (.int .i64 ((rd_T46 l0_1 x11_2).f1))) (ds := [10]) #[false, false, false, false, false, false, false, false, false, false, false] (by kernel_rfl) rfl rfl ⟨(blk_cell BK280.out 0).trans rfl, (blk_cell BK280.out 1).trans rfl, (blk_cell BK274.out 0).trans rfl, (blk_cell BK274.out 1).trans rfl, ((HB.out.cell (World.block_lt_of_cell? w _ hw288_0)).trans hw288_0), ((HB.out.cell (World.block_lt_of_cell? w _ hw288_1)).trans hw288_1)⟩ (fun hHeld => ?_); refine with_tabW spec_SetTimer.tab15 spec_SetTimer.bits15 (fun HT_ HW_ => ?_)
            generalize w73.drew = w74 at HO_281001 BK274 BK275 BK280 BK283 HB hx288_0 hx288_1 hHeld ⊢
            refine pure_ (i := 0) (N := some 75) (v := ?_) (a' := ?_) #[true, false, false, false, false, false, false, false, false, false, false] rfl rfl (any_of HT_.out (by kernel_rfl)) (fun _ _ _ h => h) (Or.inl ⟨by rfl, ?_⟩) ?_ ?_
            rotate_left
            ·intro w'
             go_simp
             with_reducible rfl
            rotate_left
            ·simp only [Act.put, List.setIfInBounds_toArray, List.set_cons_zero, List.set_cons_succ, i64_w, i32_w]
             rfl
            refine pure_ (i := 2) (N := some 77) (v := ?_) (a' := ?_) #[true, false, true, false, false, false, false, false, false, false, false] rfl rfl (any_of HT_.out (by kernel_rfl)) (fun _ _ _ h => h) (Or.inl ⟨by rfl, ?_⟩) ?_ ?_
            rotate_left
            ·intro w'
             go_simp
             with_reducible rfl
            rotate_left
            ·simp only [Act.put, List.setIfInBounds_toArray, List.set_cons_zero, List.set_cons_succ, i64_w, i32_w]
             rfl
            refine pure_ (i := 4) (N := some 79) (v := ?_) (a' := ?_) #[true, false, true, false, true, false, false, false, false, false, false] rfl rfl (any_of HT_.out (by kernel_rfl)) (fun _ _ _ h => h) (Or.inl ⟨by rfl, ?_⟩) ?_ ?_
            rotate_left
            ·intro w'
             go_simp
             with_reducible rfl
            rotate_left
            ·simp only [Act.put, List.setIfInBounds_toArray, List.set_cons_zero, List.set_cons_succ, i64_w, i32_w]
             rfl
            refine take_ (i := 1) (N := some 76) (v := ?_) (a' := ?_) #[true, true, true, false, true, false, false, false, false, false, false] rfl rfl (take_ofW HT_.out HW_.out (by kernel_rfl)) (fun _ _ _ h => h) (Or.inl ⟨by rfl, ?_⟩) hHeld ?_ ?_
            rotate_left
            ·rintro w' ⟨s0, s1, s2, s3, s4, s5⟩
             go_simp
             with_reducible rfl
            rotate_left
            ·simp only [Act.put, List.setIfInBounds_toArray, List.set_cons_zero, List.set_cons_succ, i64_w, i32_w]
             rfl
            refine take_ (i := 3) (N := some 78) (v := ?_) (a' := ?_) #[true, true, true, true, true, false, false, false, false, false, false] rfl rfl (take_ofW HT_.out HW_.out (by kernel_rfl)) (fun _ _ _ h => h) (Or.inl ⟨by rfl, ?_⟩) hHeld ?_ ?_
            rotate_left
            ·rintro w' ⟨s0, s1, s2, s3, s4, s5⟩
             go_simp
             with_reducible rfl
            rotate_left
            ·simp only [Act.put, List.setIfInBounds_toArray, List.set_cons_zero, List.set_cons_succ, i64_w, i32_w]
             rfl
            refine pure_ (i := 5) (N := some 80) (v := ?_) (a' := ?_) #[true, true, true, true, true, true, false, false, false, false, false] rfl rfl (any_of HT_.out (by kernel_rfl)) (fun _ _ _ h => h) (Or.inl ⟨by rfl, ?_⟩) ?_ ?_
            rotate_left
            ·intro w'
             go_simp
             with_reducible rfl
            rotate_left
            ·simp only [Act.put, List.setIfInBounds_toArray, List.set_cons_zero, List.set_cons_succ, i64_w, i32_w]
             rfl
            refine take_ (i := 6) (N := some 81) (v := ?_) (a' := ?_) #[true, true, true, true, true, true, true, false, false, false, false] rfl rfl (take_ofW HT_.out HW_.out (by kernel_rfl)) (fun _ _ _ h => h) (Or.inl ⟨by rfl, ?_⟩) hHeld ?_ ?_
            rotate_left
            ·rintro w' ⟨s0, s1, s2, s3, s4, s5⟩
             go_simp
             with_reducible rfl
            rotate_left
            ·simp only [Act.put, List.setIfInBounds_toArray, List.set_cons_zero, List.set_cons_succ, i64_w, i32_w]
             rfl
            refine one_ (i := 7) (N := some 82) #[true, true, true, true, true, true, true, true, false, false, false] rfl rfl (one_of HT_.out (by kernel_rfl)) (by decide) (fun K hK => ?_)
            refine value_ (w1 := ?_) (v := ?_) (by rfl) rfl ?_ ?_
            rotate_left 2
            ·go_simp
             constructor
             ·rfl
             ·rfl
            refine hK.out _ _ ⟨(blk_cell (blk_alloc BK280.out _) 0).trans rfl, (blk_cell (blk_alloc BK280.out _) 1).trans rfl, (blk_cell (blk_alloc BK274.out _) 0).trans rfl, (blk_cell (blk_alloc BK274.out _) 1).trans rfl, (World.cell?_alloc_lt _ _ _ (World.block_lt_of_cell? _ _ (((HB.out.cell (World.block_lt_of_cell? w _ hw288_0)).trans hw288_0)))).trans (((HB.out.cell (World.block_lt_of_cell? w _ hw288_0)).trans hw288_0)), (World.cell?_alloc_lt _ _ _ (World.block_lt_of_cell? _ _ (((HB.out.cell (World.block_lt_of_cell? w _ hw288_1)).trans hw288_1)))).trans (((HB.out.cell (World.block_lt_of_cell? w _ hw288_1)).trans hw288_1))⟩ (fun hHeld => ?_)
            clear hK K
            refine norm_ (a' := ?_) ?_ ?_
            rotate_left
            ·show Act.put _ (some 82) _ = _
             simp only [Act.put, List.setIfInBounds_toArray, List.set_cons_zero, List.set_cons_succ, i64_w, i32_w]
             rfl
            refine one_ (i := 8) (N := some 83) #[true, true, true, true, true, true, true, true, true, false, false] rfl rfl (one_of HT_.out (by kernel_rfl)) (by decide) (fun K hK => ?_)
            refine Kd.R_append_step k46 (w0 := w) w.heap.size (by rfl) (.tmp 76) (.tmp 82) 27 46 (.agg #[(.int .i64 0), (.int .i64 0)]) 16 rfl Try.underlying27 info46 rfl (by decide) (by omega) u281001 x281001_2 (⟨(rd_T46 l0_1 x11_2).f0, (rd_T46 l0_1 x11_2).f1⟩ : S46) [.int .i64 ((rd_T46 l0_1 x11_2).f0), .int .i64 ((rd_T46 l0_1 x11_2).f1)] (fun k_ => k_ ≠ gb283) (fun _ => False) rfl rfl ?aP (fun _ hk => hk.elim) ?aF ?aO ?aB ?aS ?aL ?_
            (case aP => exact k46_mkM _ _ _ (⟨(rd_T46 l0_1 x11_2).f0, (rd_T46 l0_1 x11_2).f1⟩ : S46))
            (case aB => exact (pkW HB.out))
            (case aF => exact (fun k_ hk => Kd.freshB (g := gb283) (o := .cells #[.int .i64 (wrap64 (a0_0 + a1)), .int .i64 a2] 46 (0, 0)) (pkK BK283.out) k_ hk))
            (case aO => exact (pkR HO_281001.out))
            (case aS => exact (below_size (pkW HB.out)))
            (case aL => have := LMc68.out; omega)
            intro v290 w75 ho hb hg hat
            rw [← Ny289.out] at ho
            replace BK274 := am (blk_grown (g := gb274) (o := .cells #[.int .i64 a0_0, .slice (some ad287) l0_1.length c0_1] 29 (0, 0)) (pkK BK274.out) hg (Kd.R_ne HO_281001.out BK274.out (by decide)))
            replace BK275 := am (blk_grown (g := gb275) (o := .cells #[.int .i64 0, .slice none 0 0] 29 (0, 0)) (pkK BK275.out) hg (Kd.R_ne HO_281001.out BK275.out (by decide)))
            replace BK280 := am (blk_grown (g := gb280) (o := .cells #[.int .i64 t276, u281001] 29 (0, 0)) (pkK BK280.out) hg (Kd.R_ne HO_281001.out BK280.out (by decide)))
            replace BK283 := am (blk_grown (g := gb283) (o := .cells #[.int .i64 (wrap64 (a0_0 + a1)), .int .i64 a2] 46 (0, 0)) (pkK BK283.out) hg (Kd.R_away HO_281001.out (fun _ hk => hk)))
            replace HB := am (hb)
            have HO291 := am (ho)
            clear HO_281001 ho hb hg hat
            obtain ⟨Ao76, co76, eo76⟩ := Kd.R_slice HO291.out
            (first | subst eo76 | (injection eo76 with f1_ f2_ f3_; have f4_ := f1_.symm; have f5_ := f3_.symm; clear f1_ f2_ f3_; subst f4_; subst f5_))
            refine hK.out _ _ ⟨(blk_cell BK280.out 0).trans rfl, (blk_cell BK280.out 1).trans rfl, (blk_cell BK274.out 0).trans rfl, (blk_cell BK274.out 1).trans rfl, ((HB.out.cell (World.block_lt_of_cell? w _ hw288_0)).trans hw288_0), ((HB.out.cell (World.block_lt_of_cell? w _ hw288_1)).trans hw288_1)⟩ (fun hHeld => ?_)
            clear hK K
            refine norm_ (a' := ?_) ?_ ?_
            rotate_left
            ·show Act.put _ (some 83) _ = _
             simp only [Act.put, List.setIfInBounds_toArray, List.set_cons_zero, List.set_cons_succ, i64_w, i32_w]
             rfl
            refine pure_ (i := 9) (N := some 84) (v := ?_) (a' := ?_) #[true, true, true, true, true, true, true, true, true, true, false] rfl rfl (any_of HT_.out (by kernel_rfl)) (fun _ _ _ h => h) (Or.inl ⟨by rfl, ?_⟩) ?_ ?_
            rotate_left
            ·intro w'
             go_simp
             with_reducible rfl
            rotate_left
            ·simp only [Act.put, List.setIfInBounds_toArray, List.set_cons_zero, List.set_cons_succ, i64_w, i32_w]
             rfl
            refine last_ (i := 10) (N := none) #[true, true, true, true, true, true, true, true, true, true, true] rfl rfl (one_of HT_.out (by kernel_rfl)) (by decide) (fun K hK => ?_)
            have hs77 : w75.cell? ⟨gb280, 1, none⟩ = some (u281001) := (blk_cell BK280.out 1).trans rfl
            have hfs77 := blk_frozen BK280.out 1
            have hns77_0 := NB274_280.out
            have hns77_1 := NB275_280.out
            have hns77_3 := NB283_280.out
            have hms77_0 := NB280_274.out
            have hms77_1 := NB280_275.out
            have hms77_3 := NB280_283.out
            refine skip_ (w1 := ?_) (by rfl) rfl ?_ ?_
            rotate_left
            ·go_simp
             rfl
            refine hK.out _ _ ?_
            clear hK K
            refine done_ (done_of HT_.out (by kernel_rfl)) ?_
            try go_wp2
            go_roundg k2
            case measure => have := HJ4.out; have := HK2.out; omega
            case rel => exact ⟨(true), (wrap64 (x11_2 + 1)), (y289), (.slice Ao76 y289.length co76), rfx, rfx, H', ⟨by have := HJ4.out; have := HK2.out; omega⟩, ⟨by (with_reducible repeat (first | apply Kd.R_alloc | apply Kd.R_drewN | apply Kd.R_drew)); exact Kd.R_mono (Kd.R_far (p := ⟨gb280, 1, none⟩) (Kd.R_types HO291.out BK280.out (by decide)) (fun _ hk => hk.2) (.slice Ao76 y289.length co76)) (fun _ hk => hk.1)⟩, ⟨by (with_reducible repeat (first | refine blk_drewN ?_ _ | refine blk_drew ?_ | refine blk_alloc ?_ _)); refine blk_far ?_ NB274_280.out _; exact pkK BK274.out⟩, ⟨by (with_reducible repeat (first | refine blk_drewN ?_ _ | refine blk_drew ?_ | refine blk_alloc ?_ _)); refine blk_far ?_ NB275_280.out _; exact pkK BK275.out⟩, ⟨by (with_reducible repeat (first | refine blk_drewN ?_ _ | refine blk_drew ?_ | refine blk_alloc ?_ _)); refine blk_put (cs := #[.int .i64 t276, u281001]) ?_ 1 _ rfl; exact pkK BK280.out⟩, ⟨by (with_reducible repeat (first | refine blk_drewN ?_ _ | refine blk_drew ?_ | refine blk_alloc ?_ _)); refine blk_far ?_ NB283_280.out _; exact pkK BK283.out⟩, ⟨pkW HB.out⟩⟩
           ·rw [if_neg c68] at H
            exact absurd H (by simp)
          ·replace c67 := Bool.eq_false_iff.mpr c67
           subst c67
           replace H : (if x281001_2.length < 8796093022208 then ((some (x281001_2 ++ [(⟨(wrap64 (a0_0 + a1)), a2⟩ : S46)] : List (S46))).bind fun y292 => (if y292.length < 8796093022208 then (spec_SetTimer.l0 k2 true (wrap64 (x11_2 + 1)) a0_0 l0_1 t276 (y292 ++ [(⟨(rd_T46 l0_1 x11_2).f0, (rd_T46 l0_1 x11_2).f1⟩ : S46)]) (wrap64 (a0_0 + a1)) a2) else (none))) else (none)) = some (r1, r2, r3) := by rw [if_neg (show ¬ (false = true) by decide)] at H; exact H
           by_cases c78 : x281001_2.length < 8796093022208
           ·rw [if_pos c78] at H
            have LMc78 := am c78
            clear c78
            obtain ⟨y292, hy292⟩ : ∃ y_ : List (S46), y_ = (x281001_2 ++ [(⟨(wrap64 (a0_0 + a1)), a2⟩ : S46)]) := ⟨_, rfl⟩
            replace H : (if y292.length < 8796093022208 then (spec_SetTimer.l0 k2 true (wrap64 (x11_2 + 1)) a0_0 l0_1 t276 (y292 ++ [(⟨(rd_T46 l0_1 x11_2).f0, (rd_T46 l0_1 x11_2).f1⟩ : S46)]) (wrap64 (a0_0 + a1)) a2) else (none)) = some (r1, r2, r3) := by first | (rw [hy292]; with_reducible exact H) | (have H2_ := (Option.bind_some _ _).symm.trans H; rw [hy292]; with_reducible exact H2_) | (have H2_ := (Option.bind_some _ _).symm.trans H; with_reducible exact H2_) | with_reducible exact H | (rw [hy292]; exact H) | exact H
            have Ny292 := am hy292
            clear hy292
            by_cases c79 : y292.length < 8796093022208
            ·rw [if_pos c79] at H
             have LMc79 := am c79
             clear c79
             obtain ⟨y296, hy296⟩ : ∃ y_ : List (S46), y_ = (y292 ++ [(⟨(rd_T46 l0_1 x11_2).f0, (rd_T46 l0_1 x11_2).f1⟩ : S46)]) := ⟨_, rfl⟩
             replace H : (spec_SetTimer.l0 k2 true (wrap64 (x11_2 + 1)) a0_0 l0_1 t276 y296 (wrap64 (a0_0 + a1)) a2) = some (r1, r2, r3) := by first | (rw [hy296]; with_reducible exact H) | (have H2_ := (Option.bind_some _ _).symm.trans H; rw [hy296]; with_reducible exact H2_) | (have H2_ := (Option.bind_some _ _).symm.trans H; with_reducible exact H2_) | with_reducible exact H | (rw [hy296]; exact H) | exact H
             have Ny296 := am hy296
             clear hy296
             have H' := am H
             clear H
             have hnb80 := NB274_275.out
             have hnc80 := NB275_274.out
             have hnb81 := NB274_280.out
             have hnc81 := NB280_274.out
             have hnb82 := NB274_283.out
             have hnc82 := NB283_274.out
             obtain ⟨hcz83_0, hcz83_1, hfz83_0, hfz83_1⟩ := bk2 BK274.out
             try go_wp2
             replace HO_281001 := am (Kd.R_drew HO_281001.out)
             replace BK274 := am (blk_drew BK274.out)
             replace BK275 := am (blk_drew BK275.out)
             replace BK280 := am (blk_drew BK280.out)
             replace BK283 := am (blk_drew BK283.out)
             replace HB := am (below_drew1 HB.out)
             have p287 : 0 ≤ (x11_2 : Int) := ofd
             have q287 : x11_2 < (l0_1.length : Int) := ofd
             obtain ⟨ad287, e287, hx287_0, hx287_1⟩ := at_T46 HR0_1.out x11_2 p287 q287
             have hw287_1 := hx287_1
             have hw287_0 := hx287_0
             cases e287
             replace hx287_0 := (HB.out.cell (World.block_lt_of_cell? w _ hx287_0)).trans hx287_0
             replace hx287_1 := (HB.out.cell (World.block_lt_of_cell? w _ hx287_1)).trans hx287_1
             replace p287 := eq_true p287
             replace q287 := eq_true q287
             refine start_ (n := 13) (S := fun w' => w'.cell? ⟨gb274, 0, none⟩ = some (.int .i64 a0_0) ∧ w'.cell? ⟨gb274, 1, none⟩ = some (.slice (some ad287) l0_1.length c0_1) ∧ w'.cell? ⟨gb283, 0, none⟩ = some (.int .i64 (wrap64 (a0_0 + a1))) ∧ w'.cell? ⟨gb283, 1, none⟩ = some (.int .i64 a2) ∧ w'.cell? (ad287.add ((x11_2).toNat * 2)) = some (.int .i64 ((rd_T46 l0_1 x11_2).f0)) ∧ w'.cell? ⟨(ad287.add ((x11_2).toNat * 2)).block, (ad287.add ((x11_2).toNat * 2)).off + 1, none⟩ = some (.int .i64 ((rd_T46 l0_1 x11_2).f1))) (ds := []) #[false, false, false, false, false, false, false, false, false, false, false, false, false] (by kernel_rfl) rfl rfl ⟨(blk_cell BK274.out 0).trans rfl, (blk_cell BK274.out 1).trans rfl, (blk_cell BK283.out 0).trans rfl, (blk_cell BK283.out 1).trans rfl, ((HB.out.cell (World.block_lt_of_cell? w _ hw287_0)).trans hw287_0), ((HB.out.cell (World.block_lt_of_cell? w _ hw287_1)).trans hw287_1)⟩ (fun hHeld => ?_); refine with_tabW spec_SetTimer.tab12 spec_SetTimer.bits12 (fun HT_ HW_ => ?_)
             generalize wr.drew = w84 at HO_281001 BK274 BK275 BK280 BK283 HB hx287_0 hx287_1 hHeld ⊢
             refine pure_ (i := 0) (N := some 56) (v := ?_) (a' := ?_) #[true, false, false, false, false, false, false, false, false, false, false, false, false] rfl rfl (any_of HT_.out (by kernel_rfl)) (fun _ _ _ h => h) (Or.inl ⟨by rfl, ?_⟩) ?_ ?_
             rotate_left
             ·intro w'
              go_simp
              with_reducible rfl
             rotate_left
             ·simp only [Act.put, List.setIfInBounds_toArray, List.set_cons_zero, List.set_cons_succ, i64_w, i32_w]
              rfl
             refine pure_ (i := 2) (N := some 58) (v := ?_) (a' := ?_) #[true, false, true, false, false, false, false, false, false, false, false, false, false] rfl rfl (any_of HT_.out (by kernel_rfl)) (fun _ _ _ h => h) (Or.inl ⟨by rfl, ?_⟩) ?_ ?_
             rotate_left
             ·intro w'
              go_simp
              with_reducible rfl
             rotate_left
             ·simp only [Act.put, List.setIfInBounds_toArray, List.set_cons_zero, List.set_cons_succ, i64_w, i32_w]
              rfl
             refine pure_ (i := 6) (N := some 62) (v := ?_) (a' := ?_) #[true, false, true, false, false, false, true, false, false, false, false, false, false] rfl rfl (any_of HT_.out (by kernel_rfl)) (fun _ _ _ h => h) (Or.inl ⟨by rfl, ?_⟩) ?_ ?_
             rotate_left
             ·intro w'
              go_simp
              with_reducible rfl
             rotate_left
             ·simp only [Act.put, List.setIfInBounds_toArray, List.set_cons_zero, List.set_cons_succ, i64_w, i32_w]
              rfl
             refine take_ (i := 1) (N := some 57) (v := ?_) (a' := ?_) #[true, true, true, false, false, false, true, false, false, false, false, false, false] rfl rfl (take_ofW HT_.out HW_.out (by kernel_rfl)) (fun _ _ _ h => h) (Or.inl ⟨by rfl, ?_⟩) hHeld ?_ ?_
             rotate_left
             ·rintro w' ⟨s0, s1, s2, s3, s4, s5⟩
              go_simp
              with_reducible rfl
             rotate_left
             ·simp only [Act.put, List.setIfInBounds_toArray, List.set_cons_zero, List.set_cons_succ, i64_w, i32_w]
              rfl
             refine pure_ (i := 3) (N := some 59) (v := ?_) (a' := ?_) #[true, true, true, true, false, false, true, false, false, false, false, false, false] rfl rfl (any_of HT_.out (by kernel_rfl)) (fun _ _ _ h => h) (Or.inl ⟨by rfl, ?_⟩) ?_ ?_
             rotate_left
             ·intro w'
              go_simp
              with_reducible rfl
             rotate_left
             ·simp only [Act.put, List.setIfInBounds_toArray, List.set_cons_zero, List.set_cons_succ, i64_w, i32_w]
              rfl
             refine pure_ (i := 4) (N := some 60) (v := ?_) (a' := ?_) #[true, true, true, true, true, false, true, false, false, false, false, false, false] rfl rfl (any_of HT_.out (by kernel_rfl)) (fun _ _ _ h => h) (Or.inl ⟨by rfl, ?_⟩) ?_ ?_
             rotate_left
             ·intro w'
              go_simp
              with_reducible rfl
             rotate_left
             ·simp only [Act.put, List.setIfInBounds_toArray, List.set_cons_zero, List.set_cons_succ, i64_w, i32_w]
              rfl
             refine take_ (i := 5) (N := some 61) (v := ?_) (a' := ?_) #[true, true, true, true, true, true, true, false, false, false, false, false, false] rfl rfl (take_ofW HT_.out HW_.out (by kernel_rfl)) (fun _ _ _ h => h) (Or.inl ⟨by rfl, ?_⟩) hHeld ?_ ?_
             rotate_left
             ·rintro w' ⟨s0, s1, s2, s3, s4, s5⟩
              go_simp
              with_reducible rfl
             rotate_left
             ·simp only [Act.put, List.setIfInBounds_toArray, List.set_cons_zero, List.set_cons_succ, i64_w, i32_w]
              rfl
             refine take_ (i := 7) (N := some 63) (v := ?_) (a' := ?_) #[true, true, true, true, true, true, true, true, false, false, false, false, false] rfl rfl (take_ofW HT_.out HW_.out (by kernel_rfl)) (fun _ _ _ h => h) (Or.inl ⟨by rfl, ?_⟩) hHeld ?_ ?_
             rotate_left
             ·rintro w' ⟨s0, s1, s2, s3, s4, s5⟩
              go_simp
              with_reducible rfl
             rotate_left
             ·simp only [Act.put, List.setIfInBounds_toArray, List.set_cons_zero, List.set_cons_succ, i64_w, i32_w]
              rfl
             refine pure_ (i := 8) (N := some 64) (v := ?_) (a' := ?_) #[true, true, true, true, true, true, true, true, true, false, false, false, false] rfl rfl (any_of HT_.out (by kernel_rfl)) (fun _ _ _ h => h) (Or.inl ⟨by rfl, ?_⟩) ?_ ?_
             rotate_left
             ·intro w'
              go_simp
              with_reducible rfl
             rotate_left
             ·simp only [Act.put, List.setIfInBounds_toArray, List.set_cons_zero, List.set_cons_succ, i64_w, i32_w]
              rfl
             refine pure_ (i := 9) (N := some 65) (v := ?_) (a' := ?_) #[true, true, true, true, true, true, true, true, true, true, false, false, false] rfl rfl (any_of HT_.out (by kernel_rfl)) (fun _ _ _ h => h) (Or.inl ⟨by rfl, ?_⟩) ?_ ?_
             rotate_left
             ·intro w'
              go_simp
              with_reducible rfl
             rotate_left
             ·simp only [Act.put, List.setIfInBounds_toArray, List.set_cons_zero, List.set_cons_succ, i64_w, i32_w]
              rfl
             refine pure_ (i := 10) (N := some 66) (v := ?_) (a' := ?_) #[true, true, true, true, true, true, true, true, true, true, true, false, false] rfl rfl (any_of HT_.out (by kernel_rfl)) (fun _ _ _ h => h) (Or.inl ⟨by rfl, ?_⟩) ?_ ?_
             rotate_left
             ·intro w'
              go_simp
              with_reducible rfl
             rotate_left
             ·simp only [Act.put, List.setIfInBounds_toArray, List.set_cons_zero, List.set_cons_succ, i64_w, i32_w]
              rfl
             refine pure_ (i := 11) (N := some 67) (v := ?_) (a' := ?_) #[true, true, true, true, true, true, true, true, true, true, true, true, false] rfl rfl (any_of HT_.out (by kernel_rfl)) (fun _ _ _ h => h) (Or.inl ⟨by rfl, ?_⟩) ?_ ?_
             rotate_left
             ·intro w'
              go_simp
              with_reducible rfl
             rotate_left
             ·simp only [Act.put, List.setIfInBounds_toArray, List.set_cons_zero, List.set_cons_succ, i64_w, i32_w]
              rfl
             refine pure_ (i := 12) (N := some 68) (v := ?_) (a' := ?_) #[true, true, true, true, true, true, true, true, true, true, true, true, true] rfl rfl (any_of HT_.out (by kernel_rfl)) (fun _ _ _ h => h) (Or.inl ⟨by rfl, ?_⟩) ?_ ?_
             rotate_left
             ·intro w'
              go_simp
              with_reducible rfl
             rotate_left
             ·simp only [Act.put, List.setIfInBounds_toArray, List.set_cons_zero, List.set_cons_succ, i64_w, i32_w]
              rfl
             refine done_ (done_of HT_.out (by kernel_rfl)) ?_
             have hnb85 := NB280_275.out
             have hnc85 := NB275_280.out
             have hnb86 := NB280_283.out
             have hnc86 := NB283_280.out
             obtain ⟨hcz87_0, hcz87_1, hfz87_0, hfz87_1⟩ := bk2 BK280.out
             have hnb88 := NB283_275.out
             have hnc88 := NB275_283.out
             obtain ⟨hcz89_0, hcz89_1, hfz89_0, hfz89_1⟩ := bk2 BK283.out
             try go_wp2_with (first | ((with_reducible refine gate_builtin (b := .append) (xs := #[.tmp 70, .tmp 72]) rfl ?_); at_builtin; refine Kd.R_append k46 (w0 := w) w.heap.size rfl (.tmp 70) (.tmp 72) 27 46 (.agg #[(.int .i64 0), (.int .i64 0)]) 16 rfl Try.underlying27 info46 rfl (by decide) (by omega) u281001 x281001_2 (⟨(wrap64 (a0_0 + a1)), a2⟩ : S46) [.int .i64 (wrap64 (a0_0 + a1)), .int .i64 a2] (fun k_ => k_ ≠ gb283) (fun _ => False) rfl rfl ?aP (fun _ hk => hk.elim) ?aF ?aO ?aB ?aS ?aL ?_; (case aP => exact k46_mkM _ _ _ (⟨(wrap64 (a0_0 + a1)), a2⟩ : S46)); (case aB => exact (pkW HB.out)); (case aF => exact (fun k_ hk => Kd.freshB (g := gb283) (o := .cells #[.int .i64 (wrap64 (a0_0 + a1)), .int .i64 a2] 46 (0, 0)) (pkK BK283.out) k_ hk)); (case aO => exact (pkR HO_281001.out)); (case aS => exact (below_size (pkW HB.out))); (case aL => have := LMc78.out; omega); intro v293 w90 ho hb hg hat; rw [← Ny292.out] at ho; replace BK274 := am (blk_grown (g := gb274) (o := .cells #[.int .i64 a0_0, .slice (some ad287) l0_1.length c0_1] 29 (0, 0)) (pkK BK274.out) hg (Kd.R_ne HO_281001.out BK274.out (by decide))); replace BK275 := am (blk_grown (g := gb275) (o := .cells #[.int .i64 0, .slice none 0 0] 29 (0, 0)) (pkK BK275.out) hg (Kd.R_ne HO_281001.out BK275.out (by decide))); replace BK280 := am (blk_grown (g := gb280) (o := .cells #[.int .i64 t276, u281001] 29 (0, 0)) (pkK BK280.out) hg (Kd.R_ne HO_281001.out BK280.out (by decide))); replace BK283 := am (blk_grown (g := gb283) (o := .cells #[.int .i64 (wrap64 (a0_0 + a1)), .int .i64 a2] 46 (0, 0)) (pkK BK283.out) hg (Kd.R_away HO_281001.out (fun _ hk => hk))); replace HB := am (hb); have HO294 := am (ho); clear HO_281001; clear ho hb hg hat; obtain ⟨Ao91, co91, eo91⟩ := Kd.R_slice HO294.out; subst eo91; obtain ⟨hcz92_0, hcz92_1, hfz92_0, hfz92_1⟩ := bk2 BK280.out))
             have n0_ : Aside0 (Kd.R k46 46 (w90.setCell ⟨gb280, 1, none⟩ (.slice Ao91 y292.length co91)) w.heap.size (fun k_ => k_ ≠ gb283) (.slice Ao91 y292.length co91) y292) := ⟨by (with_reducible repeat (first | apply Kd.R_alloc | apply Kd.R_drewN | apply Kd.R_drew)); exact Kd.R_mono (Kd.R_far (p := ⟨gb280, 1, none⟩) (Kd.R_types HO294.out BK280.out (by decide)) (fun _ hk => hk.2) (.slice Ao91 y292.length co91)) (fun _ hk => hk.1)⟩
             have n1_ : Aside0 ((w90.setCell ⟨gb280, 1, none⟩ (.slice Ao91 y292.length co91)).heap[gb274]? = some (.cells #[.int .i64 a0_0, .slice (some ad287) l0_1.length c0_1] 29 (0, 0))) := ⟨by (with_reducible repeat (first | refine blk_drewN ?_ _ | refine blk_drew ?_ | refine blk_alloc ?_ _)); refine blk_far ?_ NB274_280.out _; exact pkK BK274.out⟩
             have n2_ : Aside0 ((w90.setCell ⟨gb280, 1, none⟩ (.slice Ao91 y292.length co91)).heap[gb275]? = some (.cells #[.int .i64 0, .slice none 0 0] 29 (0, 0))) := ⟨by (with_reducible repeat (first | refine blk_drewN ?_ _ | refine blk_drew ?_ | refine blk_alloc ?_ _)); refine blk_far ?_ NB275_280.out _; exact pkK BK275.out⟩
             have n3_ : Aside0 ((w90.setCell ⟨gb280, 1, none⟩ (.slice Ao91 y292.length co91)).heap[gb280]? = some (.cells #[.int .i64 t276, .slice Ao91 y292.length co91] 29 (0, 0))) := ⟨by (with_reducible repeat (first | refine blk_drewN ?_ _ | refine blk_drew ?_ | refine blk_alloc ?_ _)); refine blk_put (cs := #[.int .i64 t276, u281001]) ?_ 1 _ rfl; exact pkK BK280.out⟩
             have n4_ : Aside0 ((w90.setCell ⟨gb280, 1, none⟩ (.slice Ao91 y292.length co91)).heap[gb283]? = some (.cells #[.int .i64 (wrap64 (a0_0 + a1)), .int .i64 a2] 46 (0, 0))) := ⟨by (with_reducible repeat (first | refine blk_drewN ?_ _ | refine blk_drew ?_ | refine blk_alloc ?_ _)); refine blk_far ?_ NB283_280.out _; exact pkK BK283.out⟩
             have n5_ : Aside0 (Below w.heap.size w (w90.setCell ⟨gb280, 1, none⟩ (.slice Ao91 y292.length co91))) := ⟨pkW HB.out⟩
             (try clear HO294); (try clear BK274); (try clear BK275); (try clear BK280); (try clear BK283); (try clear HB)
             generalize (w90.setCell ⟨gb280, 1, none⟩ (.slice Ao91 y292.length co91)) = w93 at n0_ n1_ n2_ n3_ n4_ n5_ ⊢
             have HO294 := n0_; have BK274 := n1_; have BK275 := n2_; have BK280 := n3_; have BK283 := n4_; have HB := n5_
             clear n0_ n1_ n2_ n3_ n4_ n5_
             replace HO294 := am (Kd.R_drew HO294.out)
             replace BK274 := am (blk_drew BK274.out)
             replace BK275 := am (blk_drew BK275.out)
             replace BK280 := am (blk_drew BK280.out)
             replace BK283 := am (blk_drew BK283.out)
             replace HB := am (below_drew1 HB.out)
             have p295 : 0 ≤ (x11_2 : Int) := ofd
             have q295 : x11_2 < (l0_1.length : Int) := ofd
             obtain ⟨ad295, e295, hx295_0, hx295_1⟩ := at_T46 HR0_1.out x11_2 p295 q295
             have hw295_1 := hx295_1
             have hw295_0 := hx295_0
             obtain rfl : ad287 = ad295 := (by injection e295)
             replace hx295_0 := (HB.out.cell (World.block_lt_of_cell? w _ hx295_0)).trans hx295_0
             replace hx295_1 := (HB.out.cell (World.block_lt_of_cell? w _ hx295_1)).trans hx295_1
             replace p295 := eq_true p295
             replace q295 := eq_true q295
             refine start_ (n := 11) (S := fun w' => w'.cell? ⟨gb280, 0, none⟩ = some (.int .i64 t276) ∧ w'.cell? ⟨gb280, 1, none⟩ = some (.slice Ao91 y292.length co91) ∧ w'.cell? ⟨gb274, 0, none⟩ = some (.int .i64 a0_0) ∧ w'.cell? ⟨gb274, 1, none⟩ = some (.slice (some ad287) l0_1.length c0_1) ∧ w'.cell? (ad287.add ((x11_2).toNat * 2)) = some (.int .i64 ((rd_T46 l0_1 x11_2).f0)) ∧ w'.cell? ⟨(ad287.add ((x11_2).toNat * 2)).block, (ad287.add ((x11_2).toNat * 2)).off + 1, none⟩ = some (.int .i64 ((rd_T46 l0_1 x11_2).f1))) (ds := [10]) #[false, false, false, false, false, false, false, false, false, false, false] (by kernel_rfl) rfl rfl ⟨(blk_cell BK280.out 0).trans rfl, (blk_cell BK280.out 1).trans rfl, (blk_cell BK274.out 0).trans rfl, (blk_cell BK274.out 1).trans rfl, ((HB.out.cell (World.block_lt_of_cell? w _ hw295_0)).trans hw295_0), ((HB.out.cell (World.block_lt_of_cell? w _ hw295_1)).trans hw295_1)⟩ (fun hHeld => ?_); refine with_tabW spec_SetTimer.tab15 spec_SetTimer.bits15 (fun HT_ HW_ => ?_)
             generalize w93.drew = w94 at HO294 BK274 BK275 BK280 BK283 HB hx295_0 hx295_1 hHeld ⊢
             refine pure_ (i := 0) (N := some 75) (v := ?_) (a' := ?_) #[true, false, false, false, false, false, false, false, false, false, false] rfl rfl (any_of HT_.out (by kernel_rfl)) (fun _ _ _ h => h) (Or.inl ⟨by rfl, ?_⟩) ?_ ?_
             rotate_left
             ·intro w'
              go_simp
              with_reducible rfl
             rotate_left
             ·simp only [Act.put, List.setIfInBounds_toArray, List.set_cons_zero, List.set_cons_succ, i64_w, i32_w]
              rfl
             refine pure_ (i := 2) (N := some 77) (v := ?_) (a' := ?_) #[true, false, true, false, false, false, false, false, false, false, false] rfl rfl (any_of HT_.out (by kernel_rfl)) (fun _ _ _ h => h) (Or.inl ⟨by rfl, ?_⟩) ?_ ?_
             rotate_left
             ·intro w'
              go_simp
              with_reducible rfl
             rotate_left
             ·simp only [Act.put, List.setIfInBounds_toArray, List.set_cons_zero, List.set_cons_succ, i64_w, i32_w]
              rfl
             refine pure_ (i := 4) (N := some 79) (v := ?_) (a' := ?_) #[true, false, true, false, true, false, false, false, false, false, false] rfl rfl (any_of HT_.out (by kernel_rfl)) (fun _ _ _ h => h) (Or.inl ⟨by rfl, ?_⟩) ?_ ?_
             rotate_left
             ·intro w'
              go_simp
              with_reducible rfl
             rotate_left
             ·simp only [Act.put, List.setIfInBounds_toArray, List.set_cons_zero, List.set_cons_succ, i64_w, i32_w]
              rfl
             refine take_ (i := 1) (N := some 76) (v := ?_) (a' := ?_) #[true, true, true, false, true, false, false, false, false, false, false] rfl rfl (take_ofW HT_.out HW_.out (by kernel_rfl)) (fun _ _ _ h => h) (Or.inl ⟨by rfl, ?_⟩) hHeld ?_ ?_
             rotate_left
             ·rintro w' ⟨s0, s1, s2, s3, s4, s5⟩
              go_simp
              with_reducible rfl
             rotate_left
             ·simp only [Act.put, List.setIfInBounds_toArray, List.set_cons_zero, List.set_cons_succ, i64_w, i32_w]
              rfl
             refine take_ (i := 3) (N := some 78) (v := ?_) (a' := ?_) #[true, true, true, true, true, false, false, false, false, false, false] rfl rfl (take_ofW HT_.out HW_.out (by kernel_rfl)) (fun _ _ _ h => h) (Or.inl ⟨by rfl, ?_⟩) hHeld ?_ ?_
             rotate_left
             ·rintro w' ⟨s0, s1, s2, s3, s4, s5⟩
              go_simp
              with_reducible rfl
             rotate_left
             ·simp only [Act.put, List.setIfInBounds_toArray, List.set_cons_zero, List.set_cons_succ, i64_w, i32_w]
              rfl
             refine pure_ (i := 5) (N := some 80) (v := ?_) (a' := ?_) #[true, true, true, true, true, true, false, false, false, false, false] rfl rfl (any_of HT_.out (by kernel_rfl)) (fun _ _ _ h => h) (Or.inl ⟨by rfl, ?_⟩) ?_ ?_
             rotate_left
             ·intro w'
              go_simp
              with_reducible rfl
             rotate_left
             ·simp only [Act.put, List.setIfInBounds_toArray, List.set_cons_zero, List.set_cons_succ, i64_w, i32_w]
              rfl
             refine take_ (i := 6) (N := some 81) (v := ?_) (a' := ?_) #[true, true, true, true, true, true, true, false, false, false, false] rfl rfl (take_ofW HT_.out HW_.out (by kernel_rfl)) (fun _ _ _ h => h) (Or.inl ⟨by rfl, ?_⟩) hHeld ?_ ?_
             rotate_left
             ·rintro w' ⟨s0, s1, s2, s3, s4, s5⟩
              go_simp
              with_reducible rfl
             rotate_left
             ·simp only [Act.put, List.setIfInBounds_toArray, List.set_cons_zero, List.set_cons_succ, i64_w, i32_w]
              rfl
             refine one_ (i := 7) (N := some 82) #[true, true, true, true, true, true, true, true, false, false, false] rfl rfl (one_of HT_.out (by kernel_rfl)) (by decide) (fun K hK => ?_)
             refine value_ (w1 := ?_) (v := ?_) (by rfl) rfl ?_ ?_
             rotate_left 2
             ·go_simp
              constructor
              ·rfl
              ·rfl
             refine hK.out _ _ ⟨(blk_cell (blk_alloc BK280.out _) 0).trans rfl, (blk_cell (blk_alloc BK280.out _) 1).trans rfl, (blk_cell (blk_alloc BK274.out _) 0).trans rfl, (blk_cell (blk_alloc BK274.out _) 1).trans rfl, (World.cell?_alloc_lt _ _ _ (World.block_lt_of_cell? _ _ (((HB.out.cell (World.block_lt_of_cell? w _ hw295_0)).trans hw295_0)))).trans (((HB.out.cell (World.block_lt_of_cell? w _ hw295_0)).trans hw295_0)), (World.cell?_alloc_lt _ _ _ (World.block_lt_of_cell? _ _ (((HB.out.cell (World.block_lt_of_cell? w _ hw295_1)).trans hw295_1)))).trans (((HB.out.cell (World.block_lt_of_cell? w _ hw295_1)).trans hw295_1))⟩ (fun hHeld => ?_)
             clear hK K
             refine norm_ (a' := ?_) ?_ ?_
             rotate_left
             ·show Act.put _ (some 82) _ = _
              simp only [Act.put, List.setIfInBounds_toArray, List.set_cons_zero, List.set_cons_succ, i64_w, i32_w]
              rfl
             refine one_ (i := 8) (N := some 83) #[true, true, true, true, true, true, true, true, true, false, false] rfl rfl (one_of HT_.out (by kernel_rfl)) (by decide) (fun K hK => ?_)
             refine Kd.R_append_step k46 (w0 := w) w.heap.size (by rfl) (.tmp 76) (.tmp 82) 27 46 (.agg #[(.int .i64 0), (.int .i64 0)]) 16 rfl Try.underlying27 info46 rfl (by decide) (by omega) (.slice Ao91 y292.length co91) y292 (⟨(rd_T46 l0_1 x11_2).f0, (rd_T46 l0_1 x11_2).f1⟩ : S46) [.int .i64 ((rd_T46 l0_1 x11_2).f0), .int .i64 ((rd_T46 l0_1 x11_2).f1)] (fun k_ => k_ ≠ gb283) (fun _ => False) rfl rfl ?aP (fun _ hk => hk.elim) ?aF ?aO ?aB ?aS ?aL ?_
             (case aP => exact k46_mkM _ _ _ (⟨(rd_T46 l0_1 x11_2).f0, (rd_T46 l0_1 x11_2).f1⟩ : S46))
             (case aB => exact (pkW HB.out))
             (case aF => exact (fun k_ hk => Kd.freshB (g := gb283) (o := .cells #[.int .i64 (wrap64 (a0_0 + a1)), .int .i64 a2] 46 (0, 0)) (pkK BK283.out) k_ hk))
             (case aO => exact (pkR HO294.out))
             (case aS => exact (below_size (pkW HB.out)))
             (case aL => have := LMc79.out; omega)
             intro v297 w95 ho hb hg hat
             rw [← Ny296.out] at ho
             replace BK274 := am (blk_grown (g := gb274) (o := .cells #[.int .i64 a0_0, .slice (some ad287) l0_1.length c0_1] 29 (0, 0)) (pkK BK274.out) hg (Kd.R_ne HO294.out BK274.out (by decide)))
             replace BK275 := am (blk_grown (g := gb275) (o := .cells #[.int .i64 0, .slice none 0 0] 29 (0, 0)) (pkK BK275.out) hg (Kd.R_ne HO294.out BK275.out (by decide)))
             replace BK280 := am (blk_grown (g := gb280) (o := .cells #[.int .i64 t276, .slice Ao91 y292.length co91] 29 (0, 0)) (pkK BK280.out) hg (Kd.R_ne HO294.out BK280.out (by decide)))
             replace BK283 := am (blk_grown (g := gb283) (o := .cells #[.int .i64 (wrap64 (a0_0 + a1)), .int .i64 a2] 46 (0, 0)) (pkK BK283.out) hg (Kd.R_away HO294.out (fun _ hk => hk)))
             replace HB := am (hb)
             have HO298 := am (ho)
             clear HO294 ho hb hg hat
             obtain ⟨Ao96, co96, eo96⟩ := Kd.R_slice HO298.out
             (first | subst eo96 | (injection eo96 with f1_ f2_ f3_; have f4_ := f1_.symm; have f5_ := f3_.symm; clear f1_ f2_ f3_; subst f4_; subst f5_))
             refine hK.out _ _ ⟨(blk_cell BK280.out 0).trans rfl, (blk_cell BK280.out 1).trans rfl, (blk_cell BK274.out 0).trans rfl, (blk_cell BK274.out 1).trans rfl, ((HB.out.cell (World.block_lt_of_cell? w _ hw295_0)).trans hw295_0), ((HB.out.cell (World.block_lt_of_cell? w _ hw295_1)).trans hw295_1)⟩ (fun hHeld => ?_)
             clear hK K
             refine norm_ (a' := ?_) ?_ ?_
             rotate_left
             ·show Act.put _ (some 83) _ = _
              simp only [Act.put, List.setIfInBounds_toArray, List.set_cons_zero, List.set_cons_succ, i64_w, i32_w]
              rfl
             refine pure_ (i := 9) (N := some 84) (v := ?_) (a' := ?_) #[true, true, true, true, true, true, true, true, true, true, false] rfl rfl (any_of HT_.out (by kernel_rfl)) (fun _ _ _ h => h) (Or.inl ⟨by rfl, ?_⟩) ?_ ?_
             rotate_left
             ·intro w'
              go_simp
              with_reducible rfl
             rotate_left
             ·simp only [Act.put, List.setIfInBounds_toArray, List.set_cons_zero, List.set_cons_succ, i64_w, i32_w]
              rfl
             refine last_ (i := 10) (N := none) #[true, true, true, true, true, true, true, true, true, true, true] rfl rfl (one_of HT_.out (by kernel_rfl)) (by decide) (fun K hK => ?_)
             have hs97 : w95.cell? ⟨gb280, 1, none⟩ = some (.slice Ao91 y292.length co91) := (blk_cell BK280.out 1).trans rfl
             have hfs97 := blk_frozen BK280.out 1
             have hns97_0 := NB274_280.out
             have hns97_1 := NB275_280.out
             have hns97_3 := NB283_280.out
             have hms97_0 := NB280_274.out
             have hms97_1 := NB280_275.out
             have hms97_3 := NB280_283.out
             refine skip_ (w1 := ?_) (by rfl) rfl ?_ ?_
             rotate_left
             ·go_simp
              rfl
             refine hK.out _ _ ?_
             clear hK K
             refine done_ (done_of HT_.out (by kernel_rfl)) ?_
             try go_wp2
             go_roundg k2
             case measure => have := HJ4.out; have := HK2.out; omega
             case rel => exact ⟨(true), (wrap64 (x11_2 + 1)), (y296), (.slice Ao96 y296.length co96), rfx, rfx, H', ⟨by have := HJ4.out; have := HK2.out; omega⟩, ⟨by (with_reducible repeat (first | apply Kd.R_alloc | apply Kd.R_drewN | apply Kd.R_drew)); exact Kd.R_mono (Kd.R_far (p := ⟨gb280, 1, none⟩) (Kd.R_types HO298.out BK280.out (by decide)) (fun _ hk => hk.2) (.slice Ao96 y296.length co96)) (fun _ hk => hk.1)⟩, ⟨by (with_reducible repeat (first | refine blk_drewN ?_ _ | refine blk_drew ?_ | refine blk_alloc ?_ _)); refine blk_far ?_ NB274_280.out _; exact pkK BK274.out⟩, ⟨by (with_reducible repeat (first | refine blk_drewN ?_ _ | refine blk_drew ?_ | refine blk_alloc ?_ _)); refine blk_far ?_ NB275_280.out _; exact pkK BK275.out⟩, ⟨by (with_reducible repeat (first | refine blk_drewN ?_ _ | refine blk_drew ?_ | refine blk_alloc ?_ _)); refine blk_put (cs := #[.int .i64 t276, .slice Ao91 y292.length co91]) ?_ 1 _ rfl; exact pkK BK280.out⟩, ⟨by (with_reducible repeat (first | refine blk_drewN ?_ _ | refine blk_drew ?_ | refine blk_alloc ?_ _)); refine blk_far ?_ NB283_280.out _; exact pkK BK283.out⟩, ⟨pkW HB.out⟩⟩
            ·rw [if_neg c79] at H
             exact absurd H (by simp)
           ·rw [if_neg c78] at H
            exact absurd H (by simp)
         ·rw [if_neg c66] at H
          have c66b0 : decide ((wrap64 (a0_0 + a1)) < ((rd_T46 l0_1 x11_2).f0)) = false := decide_eq_false c66
          clear c66
          by_cases c98 : x281001_2.length < 8796093022208
          ·rw [if_pos c98] at H
           have LMc98 := am c98
           clear c98
           obtain ⟨y300, hy300⟩ : ∃ y_ : List (S46), y_ = (x281001_2 ++ [(⟨(rd_T46 l0_1 x11_2).f0, (rd_T46 l0_1 x11_2).f1⟩ : S46)]) := ⟨_, rfl⟩
           replace H : (spec_SetTimer.l0 k2 x10_2 (wrap64 (x11_2 + 1)) a0_0 l0_1 t276 y300 (wrap64 (a0_0 + a1)) a2) = some (r1, r2, r3) := by first | (rw [hy300]; with_reducible exact H) | (have H2_ := (Option.bind_some _ _).symm.trans H; rw [hy300]; with_reducible exact H2_) | (have H2_ := (Option.bind_some _ _).symm.trans H; with_reducible exact H2_) | with_reducible exact H | (rw [hy300]; exact H) | exact H
           have Ny300 := am hy300
           clear hy300
           have H' := am H
           clear H
           have hnb99 := NB274_275.out
           have hnc99 := NB275_274.out
           have hnb100 := NB274_280.out
           have hnc100 := NB280_274.out
           have hnb101 := NB274_283.out
           have hnc101 := NB283_274.out
           obtain ⟨hcz102_0, hcz102_1, hfz102_0, hfz102_1⟩ := bk2 BK274.out
           try go_wp2
           replace HO_281001 := am (Kd.R_drew HO_281001.out)
           replace BK274 := am (blk_drew BK274.out)
           replace BK275 := am (blk_drew BK275.out)
           replace BK280 := am (blk_drew BK280.out)
           replace BK283 := am (blk_drew BK283.out)
           replace HB := am (below_drew1 HB.out)
           have p287 : 0 ≤ (x11_2 : Int) := ofd
           have q287 : x11_2 < (l0_1.length : Int) := ofd
           obtain ⟨ad287, e287, hx287_0, hx287_1⟩ := at_T46 HR0_1.out x11_2 p287 q287
           have hw287_1 := hx287_1
           have hw287_0 := hx287_0
           cases e287
           replace hx287_0 := (HB.out.cell (World.block_lt_of_cell? w _ hx287_0)).trans hx287_0
           replace hx287_1 := (HB.out.cell (World.block_lt_of_cell? w _ hx287_1)).trans hx287_1
           replace p287 := eq_true p287
           replace q287 := eq_true q287
           refine start_ (n := 13) (S := fun w' => w'.cell? ⟨gb274, 0, none⟩ = some (.int .i64 a0_0) ∧ w'.cell? ⟨gb274, 1, none⟩ = some (.slice (some ad287) l0_1.length c0_1) ∧ w'.cell? ⟨gb283, 0, none⟩ = some (.int .i64 (wrap64 (a0_0 + a1))) ∧ w'.cell? ⟨gb283, 1, none⟩ = some (.int .i64 a2) ∧ w'.cell? (ad287.add ((x11_2).toNat * 2)) = some (.int .i64 ((rd_T46 l0_1 x11_2).f0)) ∧ w'.cell? ⟨(ad287.add ((x11_2).toNat * 2)).block, (ad287.add ((x11_2).toNat * 2)).off + 1, none⟩ = some (.int .i64 ((rd_T46 l0_1 x11_2).f1))) (ds := []) #[false, false, false, false, false, false, false, false, false, false, false, false, false] (by kernel_rfl) rfl rfl ⟨(blk_cell BK274.out 0).trans rfl, (blk_cell BK274.out 1).trans rfl, (blk_cell BK283.out 0).trans rfl, (blk_cell BK283.out 1).trans rfl, ((HB.out.cell (World.block_lt_of_cell? w _ hw287_0)).trans hw287_0), ((HB.out.cell (World.block_lt_of_cell? w _ hw287_1)).trans hw287_1)⟩ (fun hHeld => ?_); refine with_tabW spec_SetTimer.tab12 spec_SetTimer.bits12 (fun HT_ HW_ => ?_)
           generalize wr.drew = w103 at HO_281001 BK274 BK275 BK280 BK283 HB hx287_0 hx287_1 hHeld ⊢
           refine pure_ (i := 0) (N := some 56) (v := ?_) (a' := ?_) #[true, false, false, false, false, false, false, false, false, false, false, false, false] rfl rfl (any_of HT_.out (by kernel_rfl)) (fun _ _ _ h => h) (Or.inl ⟨by rfl, ?_⟩) ?_ ?_
           rotate_left
           ·intro w'
            go_simp
            with_reducible rfl
           rotate_left
           ·simp only [Act.put, List.setIfInBounds_toArray, List.set_cons_zero, List.set_cons_succ, i64_w, i32_w]
            rfl
           refine pure_ (i := 2) (N := some 58) (v := ?_) (a' := ?_) #[true, false, true, false, false, false, false, false, false, false, false, false, false] rfl rfl (any_of HT_.out (by kernel_rfl)) (fun _ _ _ h => h) (Or.inl ⟨by rfl, ?_⟩) ?_ ?_
           rotate_left
           ·intro w'
            go_simp
            with_reducible rfl
           rotate_left
           ·simp only [Act.put, List.setIfInBounds_toArray, List.set_cons_zero, List.set_cons_succ, i64_w, i32_w]
            rfl
           refine pure_ (i := 6) (N := some 62) (v := ?_) (a' := ?_) #[true, false, true, false, false, false, true, false, false, false, false, false, false] rfl rfl (any_of HT_.out (by kernel_rfl)) (fun _ _ _ h => h) (Or.inl ⟨by rfl, ?_⟩) ?_ ?_
           rotate_left
           ·intro w'
            go_simp
            with_reducible rfl
           rotate_left
           ·simp only [Act.put, List.setIfInBounds_toArray, List.set_cons_zero, List.set_cons_succ, i64_w, i32_w]
            rfl
           refine take_ (i := 1) (N := some 57) (v := ?_) (a' := ?_) #[true, true, true, false, false, false, true, false, false, false, false, false, false] rfl rfl (take_ofW HT_.out HW_.out (by kernel_rfl)) (fun _ _ _ h => h) (Or.inl ⟨by rfl, ?_⟩) hHeld ?_ ?_
           rotate_left
           ·rintro w' ⟨s0, s1, s2, s3, s4, s5⟩
            go_simp
            with_reducible rfl
           rotate_left
           ·simp only [Act.put, List.setIfInBounds_toArray, List.set_cons_zero, List.set_cons_succ, i64_w, i32_w]
            rfl
           refine pure_ (i := 3) (N := some 59) (v := ?_) (a' := ?_) #[true, true, true, true, false, false, true, false, false, false, false, false, false] rfl rfl (any_of HT_.out (by kernel_rfl)) (fun _ _ _ h => h) (Or.inl ⟨by rfl, ?_⟩) ?_ ?_
           rotate_left
           ·intro w'
            go_simp
            with_reducible rfl
           rotate_left
           ·simp only [Act.put, List.setIfInBounds_toArray, List.set_cons_zero, List.set_cons_succ, i64_w, i32_w]
            rfl
           refine pure_ (i := 4) (N := some 60) (v := ?_) (a' := ?_) #[true, true, true, true, true, false, true, false, false, false, false, false, false] rfl rfl (any_of HT_.out (by kernel_rfl)) (fun _ _ _ h => h) (Or.inl ⟨by rfl, ?_⟩) ?_ ?_
           rotate_left
           ·intro w'
            go_simp
            with_reducible rfl
           rotate_left
           ·simp only [Act.put, List.setIfInBounds_toArray, List.set_cons_zero, List.set_cons_succ, i64_w, i32_w]
            rfl
           refine take_ (i := 5) (N := some 61) (v := ?_) (a' := ?_) #[true, true, true, true, true, true, true, false, false, false, false, false, false] rfl rfl (take_ofW HT_.out HW_.out (by kernel_rfl)) (fun _ _ _ h => h) (Or.inl ⟨by rfl, ?_⟩) hHeld ?_ ?_
           rotate_left
           ·rintro w' ⟨s0, s1, s2, s3, s4, s5⟩
            go_simp
            with_reducible rfl
           rotate_left
           ·simp only [Act.put, List.setIfInBounds_toArray, List.set_cons_zero, List.set_cons_succ, i64_w, i32_w]
            rfl
           refine take_ (i := 7) (N := some 63) (v := ?_) (a' := ?_) #[true, true, true, true, true, true, true, true, false, false, false, false, false] rfl rfl (take_ofW HT_.out HW_.out (by kernel_rfl)) (fun _ _ _ h => h) (Or.inl ⟨by rfl, ?_⟩) hHeld ?_ ?_
           rotate_left
           ·rintro w' ⟨s0, s1, s2, s3, s4, s5⟩
            go_simp
            with_reducible rfl
           rotate_left
           ·simp only [Act.put, List.setIfInBounds_toArray, List.set_cons_zero, List.set_cons_succ, i64_w, i32_w]
            rfl
           refine pure_ (i := 8) (N := some 64) (v := ?_) (a' := ?_) #[true, true, true, true, true, true, true, true, true, false, false, false, false] rfl rfl (any_of HT_.out (by kernel_rfl)) (fun _ _ _ h => h) (Or.inl ⟨by rfl, ?_⟩) ?_ ?_
           rotate_left
           ·intro w'
            go_simp
            with_reducible rfl
           rotate_left
           ·simp only [Act.put, List.setIfInBounds_toArray, List.set_cons_zero, List.set_cons_succ, i64_w, i32_w]
            rfl
           refine pure_ (i := 9) (N := some 65) (v := ?_) (a' := ?_) #[true, true, true, true, true, true, true, true, true, true, false, false, false] rfl rfl (any_of HT_.out (by kernel_rfl)) (fun _ _ _ h => h) (Or.inl ⟨by rfl, ?_⟩) ?_ ?_
           rotate_left
           ·intro w'
            go_simp
            with_reducible rfl
           rotate_left
           ·simp only [Act.put, List.setIfInBounds_toArray, List.set_cons_zero, List.set_cons_succ, i64_w, i32_w]
            rfl
           refine pure_ (i := 10) (N := some 66) (v := undef) (a' := ?_) #[true, true, true, true, true, true, true, true, true, true, true, false, false] rfl rfl (any_of HT_.out (by kernel_rfl)) (fun _ _ _ h => h) (Or.inr ⟨by rfl, rfl⟩) ?_ ?_
           rotate_left
           ·simp only [Act.put, List.setIfInBounds_toArray, List.set_cons_zero, List.set_cons_succ, i64_w, i32_w]
            rfl
           refine pure_ (i := 11) (N := some 67) (v := undef) (a' := ?_) #[true, true, true, true, true, true, true, true, true, true, true, true, false] rfl rfl (any_of HT_.out (by kernel_rfl)) (fun _ _ _ h => h) (Or.inr ⟨by rfl, rfl⟩) ?_ ?_
           rotate_left
           ·simp only [Act.put, List.setIfInBounds_toArray, List.set_cons_zero, List.set_cons_succ, i64_w, i32_w]
            rfl
           refine pure_ (i := 12) (N := some 68) (v := ?_) (a' := ?_) #[true, true, true, true, true, true, true, true, true, true, true, true, true] rfl rfl (any_of HT_.out (by kernel_rfl)) (fun _ _ _ h => h) (Or.inl ⟨by rfl, ?_⟩) ?_ ?_
           rotate_left
           ·intro w'
            go_simp
            with_reducible rfl
           rotate_left
           ·simp only [Act.put, List.setIfInBounds_toArray, List.set_cons_zero, List.set_cons_succ, i64_w, i32_w]
            rfl
           refine done_ (done_of HT_.out (by kernel_rfl)) ?_
           try go_wp2
           replace HO_281001 := am (Kd.R_drew HO_281001.out)
           replace BK274 := am (blk_drew BK274.out)
           replace BK275 := am (blk_drew BK275.out)
           replace BK280 := am (blk_drew BK280.out)
           replace BK283 := am (blk_drew BK283.out)
           replace HB := am (below_drew1 HB.out)
           have p299 : 0 ≤ (x11_2 : Int) := ofd
           have q299 : x11_2 < (l0_1.length : Int) := ofd
           obtain ⟨ad299, e299, hx299_0, hx299_1⟩ := at_T46 HR0_1.out x11_2 p299 q299
           have hw299_1 := hx299_1
           have hw299_0 := hx299_0
           obtain rfl : ad287 = ad299 := (by injection e299)
           replace hx299_0 := (HB.out.cell (World.block_lt_of_cell? w _ hx299_0)).trans hx299_0
           replace hx299_1 := (HB.out.cell (World.block_lt_of_cell? w _ hx299_1)).trans hx299_1
           replace p299 := eq_true p299
           replace q299 := eq_true q299
           refine start_ (n := 11) (S := fun w' => w'.cell? ⟨gb280, 0, none⟩ = some (.int .i64 t276) ∧ w'.cell? ⟨gb280, 1, none⟩ = some (u281001) ∧ w'.cell? ⟨gb274, 0, none⟩ = some (.int .i64 a0_0) ∧ w'.cell? ⟨gb274, 1, none⟩ = some (.slice (some ad287) l0_1.length c0_1) ∧ w'.cell? (ad287.add ((x11_2).toNat * 2)) = some (.int .i64 ((rd_T46 l0_1 x11_2).f0)) ∧ w'.cell? ⟨(ad287.add ((x11_2).toNat * 2)).block, (ad287.add ((x11_2).toNat * 2)).off + 1, none⟩ = some (.int .i64 ((rd_T46 l0_1 x11_2).f1))) (ds := [10]) #[false, false, false, false, false, false, false, false, false, false, false] (by kernel_rfl) rfl rfl ⟨(blk_cell BK280.out 0).trans rfl, (blk_cell BK280.out 1).trans rfl, (blk_cell BK274.out 0).trans rfl, (blk_cell BK274.out 1).trans rfl, ((HB.out.cell (World.block_lt_of_cell? w _ hw299_0)).trans hw299_0), ((HB.out.cell (World.block_lt_of_cell? w _ hw299_1)).trans hw299_1)⟩ (fun hHeld => ?_); refine with_tabW spec_SetTimer.tab15 spec_SetTimer.bits15 (fun HT_ HW_ => ?_)
           generalize w103.drew = w104 at HO_281001 BK274 BK275 BK280 BK283 HB hx299_0 hx299_1 hHeld ⊢
           refine pure_ (i := 0) (N := some 75) (v := ?_) (a' := ?_) #[true, false, false, false, false, false, false, false, false, false, false] rfl rfl (any_of HT_.out (by kernel_rfl)) (fun _ _ _ h => h) (Or.inl ⟨by rfl, ?_⟩) ?_ ?_
           rotate_left
           ·intro w'
            go_simp
            with_reducible rfl
           rotate_left
           ·simp only [Act.put, List.setIfInBounds_toArray, List.set_cons_zero, List.set_cons_succ, i64_w, i32_w]
            rfl
           refine pure_ (i := 2) (N := some 77) (v := ?_) (a' := ?_) #[true, false, true, false, false, false, false, false, false, false, false] rfl rfl (any_of HT_.out (by kernel_rfl)) (fun _ _ _ h => h) (Or.inl ⟨by rfl, ?_⟩) ?_ ?_
           rotate_left
           ·intro w'
            go_simp
            with_reducible rfl
           rotate_left
           ·simp only [Act.put, List.setIfInBounds_toArray, List.set_cons_zero, List.set_cons_succ, i64_w, i32_w]
            rfl
           refine pure_ (i := 4) (N := some 79) (v := ?_) (a' := ?_) #[true, false, true, false, true, false, false, false, false, false, false] rfl rfl (any_of HT_.out (by kernel_rfl)) (fun _ _ _ h => h) (Or.inl ⟨by rfl, ?_⟩) ?_ ?_
           rotate_left
           ·intro w'
            go_simp
            with_reducible rfl
           rotate_left
           ·simp only [Act.put, List.setIfInBounds_toArray, List.set_cons_zero, List.set_cons_succ, i64_w, i32_w]
            rfl
           refine take_ (i := 1) (N := some 76) (v := ?_) (a' := ?_) #[true, true, true, false, true, false, false, false, false, false, false] rfl rfl (take_ofW HT_.out HW_.out (by kernel_rfl)) (fun _ _ _ h => h) (Or.inl ⟨by rfl, ?_⟩) hHeld ?_ ?_
           rotate_left
           ·rintro w' ⟨s0, s1, s2, s3, s4, s5⟩
            go_simp
            with_reducible rfl
           rotate_left
           ·simp only [Act.put, List.setIfInBounds_toArray, List.set_cons_zero, List.set_cons_succ, i64_w, i32_w]
            rfl
           refine take_ (i := 3) (N := some 78) (v := ?_) (a' := ?_) #[true, true, true, true, true, false, false, false, false, false, false] rfl rfl (take_ofW HT_.out HW_.out (by kernel_rfl)) (fun _ _ _ h => h) (Or.inl ⟨by rfl, ?_⟩) hHeld ?_ ?_
           rotate_left
           ·rintro w' ⟨s0, s1, s2, s3, s4, s5⟩
            go_simp
            with_reducible rfl
           rotate_left
           ·simp only [Act.put, List.setIfInBounds_toArray, List.set_cons_zero, List.set_cons_succ, i64_w, i32_w]
            rfl
           refine pure_ (i := 5) (N := some 80) (v := ?_) (a' := ?_) #[true, true, true, true, true, true, false, false, false, false, false] rfl rfl (any_of HT_.out (by kernel_rfl)) (fun _ _ _ h => h) (Or.inl ⟨by rfl, ?_⟩) ?_ ?_
           rotate_left
           ·intro w'
            go_simp
            with_reducible rfl
           rotate_left
           ·simp only [Act.put, List.setIfInBounds_toArray, List.set_cons_zero, List.set_cons_succ, i64_w, i32_w]
            rfl
           refine take_ (i := 6) (N := some 81) (v := ?_) (a' := ?_) #[true, true, true, true, true, true, true, false, false, false, false] rfl rfl (take_ofW HT_.out HW_.out (by kernel_rfl)) (fun _ _ _ h => h) (Or.inl ⟨by rfl, ?_⟩) hHeld ?_ ?_
           rotate_left
           ·rintro w' ⟨s0, s1, s2, s3, s4, s5⟩
            go_simp
            with_reducible rfl
           rotate_left
           ·simp only [Act.put, List.setIfInBounds_toArray, List.set_cons_zero, List.set_cons_succ, i64_w, i32_w]
            rfl
           refine one_ (i := 7) (N := some 82) #[true, true, true, true, true, true, true, true, false, false, false] rfl rfl (one_of HT_.out (by kernel_rfl)) (by decide) (fun K hK => ?_)
           refine value_ (w1 := ?_) (v := ?_) (by rfl) rfl ?_ ?_
           rotate_left 2
           ·go_simp
            constructor
            ·rfl
            ·rfl
           refine hK.out _ _ ⟨(blk_cell (blk_alloc BK280.out _) 0).trans rfl, (blk_cell (blk_alloc BK280.out _) 1).trans rfl, (blk_cell (blk_alloc BK274.out _) 0).trans rfl, (blk_cell (blk_alloc BK274.out _) 1).trans rfl, (World.cell?_alloc_lt _ _ _ (World.block_lt_of_cell? _ _ (((HB.out.cell (World.block_lt_of_cell? w _ hw299_0)).trans hw299_0)))).trans (((HB.out.cell (World.block_lt_of_cell? w _ hw299_0)).trans hw299_0)), (World.cell?_alloc_lt _ _ _ (World.block_lt_of_cell? _ _ (((HB.out.cell (World.block_lt_of_cell? w _ hw299_1)).trans hw299_1)))).trans (((HB.out.cell (World.block_lt_of_cell? w _ hw299_1)).trans hw299_1))⟩ (fun hHeld => ?_)
           clear hK K
           refine norm_ (a' := ?_) ?_ ?_
           rotate_left
           ·show Act.put _ (some 82) _ = _
            simp only [Act.put, List.setIfInBounds_toArray, List.set_cons_zero, List.set_cons_succ, i64_w, i32_w]
            rfl
           refine one_ (i := 8) (N := some 83) #[true, true, true, true, true, true, true, true, true, false, false] rfl rfl (one_of HT_.out (by kernel_rfl)) (by decide) (fun K hK => ?_)
           refine Kd.R_append_step k46 (w0 := w) w.heap.size (by rfl) (.tmp 76) (.tmp 82) 27 46 (.agg #[(.int .i64 0), (.int .i64 0)]) 16 rfl Try.underlying27 info46 rfl (by decide) (by omega) u281001 x281001_2 (⟨(rd_T46 l0_1 x11_2).f0, (rd_T46 l0_1 x11_2).f1⟩ : S46) [.int .i64 ((rd_T46 l0_1 x11_2).f0), .int .i64 ((rd_T46 l0_1 x11_2).f1)] (fun k_ => k_ ≠ gb283) (fun _ => False) rfl rfl ?aP (fun _ hk => hk.elim) ?aF ?aO ?aB ?aS ?aL ?_
           (case aP => exact k46_mkM _ _ _ (⟨(rd_T46 l0_1 x11_2).f0, (rd_T46 l0_1 x11_2).f1⟩ : S46))
           (case aB => exact (pkW HB.out))
           (case aF => exact (fun k_ hk => Kd.freshB (g := gb283) (o := .cells #[.int .i64 (wrap64 (a0_0 + a1)), .int .i64 a2] 46 (0, 0)) (pkK BK283.out) k_ hk))
           (case aO => exact (pkR HO_281001.out))
           (case aS => exact (below_size (pkW HB.out)))
           (case aL => have := LMc98.out; omega)
           intro v301 w105 ho hb hg hat
           rw [← Ny300.out] at ho
           replace BK274 := am (blk_grown (g := gb274) (o := .cells #[.int .i64 a0_0, .slice (some ad287) l0_1.length c0_1] 29 (0, 0)) (pkK BK274.out) hg (Kd.R_ne HO_281001.out BK274.out (by decide)))
           replace BK275 := am (blk_grown (g := gb275) (o := .cells #[.int .i64 0, .slice none 0 0] 29 (0, 0)) (pkK BK275.out) hg (Kd.R_ne HO_281001.out BK275.out (by decide)))
           replace BK280 := am (blk_grown (g := gb280) (o := .cells #[.int .i64 t276, u281001] 29 (0, 0)) (pkK BK280.out) hg (Kd.R_ne HO_281001.out BK280.out (by decide)))
           replace BK283 := am (blk_grown (g := gb283) (o := .cells #[.int .i64 (wrap64 (a0_0 + a1)), .int .i64 a2] 46 (0, 0)) (pkK BK283.out) hg (Kd.R_away HO_281001.out (fun _ hk => hk)))
           replace HB := am (hb)
           have HO302 := am (ho)
           clear HO_281001 ho hb hg hat
           obtain ⟨Ao106, co106, eo106⟩ := Kd.R_slice HO302.out
           (first | subst eo106 | (injection eo106 with f1_ f2_ f3_; have f4_ := f1_.symm; have f5_ := f3_.symm; clear f1_ f2_ f3_; subst f4_; subst f5_))
           refine hK.out _ _ ⟨(blk_cell BK280.out 0).trans rfl, (blk_cell BK280.out 1).trans rfl, (blk_cell BK274.out 0).trans rfl, (blk_cell BK274.out 1).trans rfl, ((HB.out.cell (World.block_lt_of_cell? w _ hw299_0)).trans hw299_0), ((HB.out.cell (World.block_lt_of_cell? w _ hw299_1)).trans hw299_1)⟩ (fun hHeld => ?_)
           clear hK K
           refine norm_ (a' := ?_) ?_ ?_
           rotate_left
           ·show Act.put _ (some 83) _ = _
            simp only [Act.put, List.setIfInBounds_toArray, List.set_cons_zero, List.set_cons_succ, i64_w, i32_w]
            rfl
           refine pure_ (i := 9) (N := some 84) (v := ?_) (a' := ?_) #[true, true, true, true, true, true, true, true, true, true, false] rfl rfl (any_of HT_.out (by kernel_rfl)) (fun _ _ _ h => h) (Or.inl ⟨by rfl, ?_⟩) ?_ ?_
           rotate_left
           ·intro w'
            go_simp
            with_reducible rfl
           rotate_left
           ·simp only [Act.put, List.setIfInBounds_toArray, List.set_cons_zero, List.set_cons_succ, i64_w, i32_w]
            rfl
           refine last_ (i := 10) (N := none) #[true, true, true, true, true, true, true, true, true, true, true] rfl rfl (one_of HT_.out (by kernel_rfl)) (by decide) (fun K hK => ?_)
           have hs107 : w105.cell? ⟨gb280, 1, none⟩ = some (u281001) := (blk_cell BK280.out 1).trans rfl
           have hfs107 := blk_frozen BK280.out 1
           have hns107_0 := NB274_280.out
           have hns107_1 := NB275_280.out
           have hns107_3 := NB283_280.out
           have hms107_0 := NB280_274.out
           have hms107_1 := NB280_275.out
           have hms107_3 := NB280_283.out
           refine skip_ (w1 := ?_) (by rfl) rfl ?_ ?_
           rotate_left
           ·go_simp
            rfl
           refine hK.out _ _ ?_
           clear hK K
           refine done_ (done_of HT_.out (by kernel_rfl)) ?_
           try go_wp2
           go_roundg k2
           case measure => have := HJ4.out; have := HK2.out; omega
           case rel => exact ⟨(x10_2), (wrap64 (x11_2 + 1)), (y300), (.slice Ao106 y300.length co106), rfx, rfx, H', ⟨by have := HJ4.out; have := HK2.out; omega⟩, ⟨by (with_reducible repeat (first | apply Kd.R_alloc | apply Kd.R_drewN | apply Kd.R_drew)); exact Kd.R_mono (Kd.R_far (p := ⟨gb280, 1, none⟩) (Kd.R_types HO302.out BK280.out (by decide)) (fun _ hk => hk.2) (.slice Ao106 y300.length co106)) (fun _ hk => hk.1)⟩, ⟨by (with_reducible repeat (first | refine blk_drewN ?_ _ | refine blk_drew ?_ | refine blk_alloc ?_ _)); refine blk_far ?_ NB274_280.out _; exact pkK BK274.out⟩, ⟨by (with_reducible repeat (first | refine blk_drewN ?_ _ | refine blk_drew ?_ | refine blk_alloc ?_ _)); refine blk_far ?_ NB275_280.out _; exact pkK BK275.out⟩, ⟨by (with_reducible repeat (first | refine blk_drewN ?_ _ | refine blk_drew ?_ | refine blk_alloc ?_ _)); refine blk_put (cs := #[.int .i64 t276, u281001]) ?_ 1 _ rfl; exact pkK BK280.out⟩, ⟨by (with_reducible repeat (first | refine blk_drewN ?_ _ | refine blk_drew ?_ | refine blk_alloc ?_ _)); refine blk_far ?_ NB283_280.out _; exact pkK BK283.out⟩, ⟨pkW HB.out⟩⟩
          ·rw [if_neg c98] at H
           exact absurd H (by simp)
        ·rw [if_neg c65] at H
         exact absurd H (by simp)
       ·rw [if_neg c64] at H
        have c64b0 : decide (x11_2 < (l0_1.length : Int)) = false := decide_eq_false c64
        clear c64
        by_cases c108 : x10_2 = true
        ·subst c108
         replace H : (some (t276, x281001_2, 0)) = some (r1, r2, r3) := by rw [if_pos rfl] at H; exact H
         simp only [Option.some.injEq, Prod.mk.injEq] at H
         obtain ⟨rfl, rfl, rfl⟩ := H
         have hnb109 := NB274_275.out
         have hnc109 := NB275_274.out
         have hnb110 := NB274_280.out
         have hnc110 := NB280_274.out
         have hnb111 := NB274_283.out
         have hnc111 := NB283_274.out
         obtain ⟨hcz112_0, hcz112_1, hfz112_0, hfz112_1⟩ := bk2 BK274.out
         have hnb113 := NB280_275.out
         have hnc113 := NB275_280.out
         have hnb114 := NB280_283.out
         have hnc114 := NB283_280.out
         obtain ⟨hcz115_0, hcz115_1, hfz115_0, hfz115_1⟩ := bk2 BK280.out
         have hnb116 := NB275_283.out
         have hnc116 := NB283_275.out
         obtain ⟨hcz117_0, hcz117_1, hfz117_0, hfz117_1⟩ := bk2 BK275.out
         obtain ⟨Ao118, co118, eo118⟩ := Kd.R_slice HO_281001.out
         subst eo118
         go_wp2
         refine bodyPost_ret (results_ct rfl _ _ gb275 29 #[.int .i64 t276, .slice Ao118 x281001_2.length co118] (0, 0) _ rfl (by (with_reducible repeat (first | refine blk_drewN ?_ _ | refine blk_drew ?_ | refine blk_alloc ?_ _)); refine blk_put (cs := #[.int .i64 t276, .slice none 0 0]) ?_ 1 _ rfl; (with_reducible repeat (first | refine blk_drewN ?_ _ | refine blk_drew ?_ | refine blk_alloc ?_ _)); refine blk_put (cs := #[.int .i64 0, .slice none 0 0]) ?_ 0 _ rfl; exact pkK BK275.out) Try.underlying29 rfl (by kernel_rfl)) rfl ?_
         exact ⟨_, rfe, by (with_reducible repeat (first | apply Kd.R_alloc | apply Kd.R_drewN | apply Kd.R_drew)); exact Kd.R_mono (Kd.R_far (p := ⟨gb275, 1, none⟩) (Kd.R_far (p := ⟨gb275, 0, none⟩) (Kd.R_types HO_281001.out BK275.out (by decide)) (fun _ hk => hk.2) (.int .i64 t276)) (fun _ hk => hk.2) (.slice Ao118 x281001_2.length co118)) (fun _ hk => trivial), pkW HB.out⟩
        ·replace c108 := Bool.eq_false_iff.mpr c108
         subst c108
         replace H : (if x281001_2.length < 8796093022208 then (some (t276, (x281001_2 ++ [(⟨(wrap64 (a0_0 + a1)), a2⟩ : S46)]), 0)) else (none)) = some (r1, r2, r3) := by rw [if_neg (show ¬ (false = true) by decide)] at H; exact H
         by_cases c119 : x281001_2.length < 8796093022208
         ·rw [if_pos c119] at H
          have LMc119 := am c119
          clear c119
          obtain ⟨y303, hy303⟩ : ∃ y_ : List (S46), y_ = (x281001_2 ++ [(⟨(wrap64 (a0_0 + a1)), a2⟩ : S46)]) := ⟨_, rfl⟩
          replace H : (some (t276, y303, 0)) = some (r1, r2, r3) := by first | (rw [hy303]; with_reducible exact H) | (have H2_ := (Option.bind_some _ _).symm.trans H; rw [hy303]; with_reducible exact H2_) | (have H2_ := (Option.bind_some _ _).symm.trans H; with_reducible exact H2_) | with_reducible exact H | (rw [hy303]; exact H) | exact H
          have Ny303 := am hy303
          clear hy303
          simp only [Option.some.injEq, Prod.mk.injEq] at H
          obtain ⟨rfl, rfl, rfl⟩ := H
          have hnb120 := NB274_275.out
          have hnc120 := NB275_274.out
          have hnb121 := NB274_280.out
          have hnc121 := NB280_274.out
          have hnb122 := NB274_283.out
          have hnc122 := NB283_274.out
          obtain ⟨hcz123_0, hcz123_1, hfz123_0, hfz123_1⟩ := bk2 BK274.out
          have hnb124 := NB280_275.out
          have hnc124 := NB275_280.out
          have hnb125 := NB280_283.out
          have hnc125 := NB283_280.out
          obtain ⟨hcz126_0, hcz126_1, hfz126_0, hfz126_1⟩ := bk2 BK280.out
          have hnb127 := NB283_275.out
          have hnc127 := NB275_283.out
          obtain ⟨hcz128_0, hcz128_1, hfz128_0, hfz128_1⟩ := bk2 BK283.out
          go_wp2_with (first | ((with_reducible refine gate_builtin (b := .append) (xs := #[.tmp 88, .tmp 90]) rfl ?_); at_builtin; refine Kd.R_append k46 (w0 := w) w.heap.size rfl (.tmp 88) (.tmp 90) 27 46 (.agg #[(.int .i64 0), (.int .i64 0)]) 16 rfl Try.underlying27 info46 rfl (by decide) (by omega) u281001 x281001_2 (⟨(wrap64 (a0_0 + a1)), a2⟩ : S46) [.int .i64 (wrap64 (a0_0 + a1)), .int .i64 a2] (fun k_ => k_ ≠ gb283) (fun _ => False) rfl rfl ?aP (fun _ hk => hk.elim) ?aF ?aO ?aB ?aS ?aL ?_; (case aP => exact k46_mkM _ _ _ (⟨(wrap64 (a0_0 + a1)), a2⟩ : S46)); (case aB => exact (pkW HB.out)); (case aF => exact (fun k_ hk => Kd.freshB (g := gb283) (o := .cells #[.int .i64 (wrap64 (a0_0 + a1)), .int .i64 a2] 46 (0, 0)) (pkK BK283.out) k_ hk)); (case aO => exact (pkR HO_281001.out)); (case aS => exact (below_size (pkW HB.out))); (case aL => have := LMc119.out; omega); intro v304 w129 ho hb hg hat; rw [← Ny303.out] at ho; replace BK274 := am (blk_grown (g := gb274) (o := .cells #[.int .i64 a0_0, .slice A0_1 l0_1.length c0_1] 29 (0, 0)) (pkK BK274.out) hg (Kd.R_ne HO_281001.out BK274.out (by decide))); replace BK275 := am (blk_grown (g := gb275) (o := .cells #[.int .i64 0, .slice none 0 0] 29 (0, 0)) (pkK BK275.out) hg (Kd.R_ne HO_281001.out BK275.out (by decide))); replace BK280 := am (blk_grown (g := gb280) (o := .cells #[.int .i64 t276, u281001] 29 (0, 0)) (pkK BK280.out) hg (Kd.R_ne HO_281001.out BK280.out (by decide))); replace BK283 := am (blk_grown (g := gb283) (o := .cells #[.int .i64 (wrap64 (a0_0 + a1)), .int .i64 a2] 46 (0, 0)) (pkK BK283.out) hg (Kd.R_away HO_281001.out (fun _ hk => hk))); replace HB := am (hb); have HO305 := am (ho); clear HO_281001; clear ho hb hg hat; obtain ⟨Ao130, co130, eo130⟩ := Kd.R_slice HO305.out; subst eo130; obtain ⟨hcz131_0, hcz131_1, hfz131_0, hfz131_1⟩ := bk2 BK280.out; obtain ⟨hcz132_0, hcz132_1, hfz132_0, hfz132_1⟩ := bk2 BK275.out))
          refine bodyPost_ret (results_ct rfl _ _ gb275 29 #[.int .i64 t276, .slice Ao130 y303.length co130] (0, 0) _ rfl (by (with_reducible repeat (first | refine blk_drewN ?_ _ | refine blk_drew ?_ | refine blk_alloc ?_ _)); refine blk_put (cs := #[.int .i64 t276, .slice none 0 0]) ?_ 1 _ rfl; (with_reducible repeat (first | refine blk_drewN ?_ _ | refine blk_drew ?_ | refine blk_alloc ?_ _)); refine blk_put (cs := #[.int .i64 0, .slice none 0 0]) ?_ 0 _ rfl; (with_reducible repeat (first | refine blk_drewN ?_ _ | refine blk_drew ?_ | refine blk_alloc ?_ _)); refine blk_far ?_ NB275_280.out _; exact pkK BK275.out) Try.underlying29 rfl (by kernel_rfl)) rfl ?_
          exact ⟨_, rfe, by (with_reducible repeat (first | apply Kd.R_alloc | apply Kd.R_drewN | apply Kd.R_drew)); exact Kd.R_mono (Kd.R_far (p := ⟨gb275, 1, none⟩) (Kd.R_far (p := ⟨gb275, 0, none⟩) (Kd.R_far (p := ⟨gb280, 1, none⟩) (Kd.R_types (Kd.R_types HO305.out BK280.out (by decide)) BK275.out (by decide)) (fun _ hk => hk.1.2) (.slice Ao130 y303.length co130)) (fun _ hk => hk.2) (.int .i64 t276)) (fun _ hk => hk.2) (.slice Ao130 y303.length co130)) (fun _ hk => trivial), pkW HB.out⟩
         ·rw [if_neg c119] at H
          exact absurd H (by simp)
end Go.Proofs.Ytfgjfheiekhmlaa.Z
