/- The Go functions spec_Advance as Lean functions, each with a proof that its code comes to just these answers; conditions: those of each theorem. -/
import Derived.Test.YtfgjfheiekhmlaaZx0
import Derived.Test.YtfgjfheiekhmlaaZx3
import Derived.Test.YtfgjfheiekhmlaaZx8
namespace Go.Proofs.Ytfgjfheiekhmlaa.Z
open Go.RowKit Go.Proofs.YtfgjfheiekhmlaaW.PrintWords Go.Proofs.YtfgjfheiekhmlaaW.PrintLast Go.Proofs.YtfgjfheiekhmlaaW.PrintMore
attribute [local go_sem] max2_int min2_int max_two min_two max_three min_three max_four min_four   -- for this text's walks alone
set_option linter.unusedVariables false
set_option linter.unusedSimpArgs false
mutual
def spec_Advance.j0 : Nat → Int → Bool → Int → List (S46) → Option (Int × (List (S46)) × List Int × Int)
 | 0, _, _, _, _ => none
 | k + 1, x1, x23, x429000, x429001 => if x23 = true then ((spec_l4Copy.f x429000 x429001).bind fun bt431 => (some (bt431.1, bt431.2, ([] : List Int), 1))) else (spec_Advance.l0 k (([] : List Int)) 0 x429000 x429001 (wrap64 (x429000 + x1)) ([] : List (S46)))
def spec_Advance.l0 : Nat → List Int → Int → Int → List (S46) → Int → List (S46) → Option (Int × (List (S46)) × List Int × Int)
 | 0, _, _, _, _, _, _ => none
 | k + 1, x8, x9, x429000, x429001, x436000, x436001 => if x9 < (x429001.length : Int) then (if 0 ≤ x9 then (if ((rd_T46 x429001 x9).f0) ≤ x436000 then (if x8.length < 17592186044416 then (spec_Advance.l0 k (x8 ++ [(rd_T46 x429001 x9).f1]) (wrap64 (x9 + 1)) x429000 x429001 x436000 x436001) else (none)) else (if x436001.length < 8796093022208 then (spec_Advance.l0 k x8 (wrap64 (x9 + 1)) x429000 x429001 x436000 (x436001 ++ [(⟨(rd_T46 x429001 x9).f0, (rd_T46 x429001 x9).f1⟩ : S46)])) else (none))) else (none)) else (some (x436000, x436001, x8, 0))
end
def spec_Advance.f (k : Nat) (a0_0 : Int) (l0_1 : List (S46)) (a1 : Int) : Option (Int × (List (S46)) × List Int × Int) := (spec_ClockOk.f k a0_0 l0_1).bind fun t430 => (if t430 = true then (if a1 < 0 then (spec_Advance.j0 k a1 true a0_0 l0_1) else (spec_Advance.j0 k a1 (decide (a1 > (wrap64 (1000000000 - a0_0)))) a0_0 l0_1)) else (spec_Advance.j0 k a1 true a0_0 l0_1))
theorem spec_Advance.mono_l : ∀ k, (∀ y0 y1 y2 y3, LeO (spec_Advance.j0 k y0 y1 y2 y3) (spec_Advance.j0 (k + 1) y0 y1 y2 y3)) ∧ (∀ y0 y1 y2 y3 y4 y5, LeO (spec_Advance.l0 k y0 y1 y2 y3 y4 y5) (spec_Advance.l0 (k + 1) y0 y1 y2 y3 y4 y5))
 | 0 => ⟨fun _ _ _ _ r h => by simp [spec_Advance.j0] at h, fun _ _ _ _ _ _ r h => by simp [spec_Advance.l0] at h⟩
 | k + 1 => by
  obtain ⟨ih0, ih1⟩ := spec_Advance.mono_l k
  refine ⟨?_, ?_⟩
  ·intro y0 y1 y2 y3
   unfold spec_Advance.j0
   repeat' first
   | (with_reducible exact ih0 _ _ _ _)
   | (with_reducible exact ih1 _ _ _ _ _ _)
   | (with_reducible exact spec_ClockOk.mono _ _ _)
   | (with_reducible exact LeO.refl _)
   | (with_reducible exact LeO.none _)
   | (with_reducible refine LeO.ite ?_ ?_)
   | (with_reducible refine LeO.bind ?_ (fun _ => ?_))
  ·intro y0 y1 y2 y3 y4 y5
   unfold spec_Advance.l0
   repeat' first
   | (with_reducible exact ih0 _ _ _ _)
   | (with_reducible exact ih1 _ _ _ _ _ _)
   | (with_reducible exact spec_ClockOk.mono _ _ _)
   | (with_reducible exact LeO.refl _)
   | (with_reducible exact LeO.none _)
   | (with_reducible refine LeO.ite ?_ ?_)
   | (with_reducible refine LeO.bind ?_ (fun _ => ?_))
theorem spec_Advance.mono : ∀ a0 a1 a2 k, LeO (spec_Advance.f k a0 a1 a2) (spec_Advance.f (k + 1) a0 a1 a2) := by
 intro a0 a1 a2 k
 obtain ⟨ih0, ih1⟩ := spec_Advance.mono_l k
 unfold spec_Advance.f
 repeat' first
   | (with_reducible exact ih0 _ _ _ _)
   | (with_reducible exact ih1 _ _ _ _ _ _)
   | (with_reducible exact spec_ClockOk.mono _ _ _)
   | (with_reducible exact LeO.refl _)
   | (with_reducible exact LeO.none _)
   | (with_reducible refine LeO.ite ?_ ?_)
   | (with_reducible refine LeO.bind ?_ (fun _ => ?_))
def spec_Advance.T8 : Bool × List (List Nat × List Nat) := (true, [([], []), ([0], [0]), ([], []), ([1, 2], [1, 2]), ([3], [3]), ([4], [4]), ([], []), ([6], [6]), ([5, 7], [5, 7])])
def spec_Advance.B8 : List Nat := [0, 1, 0, 7, 15, 31, 0, 64, 255]
theorem spec_Advance.tab8 : rtab .any (opsOf Try.f21 8) = spec_Advance.T8 := by kernel_rfl
theorem spec_Advance.bits8 : waitsOk spec_Advance.T8.2 spec_Advance.B8 = true := by kernel_rfl
def spec_Advance.T10 : Bool × List (List Nat × List Nat) := (true, [([], []), ([0], [0]), ([], []), ([2], [2]), ([], []), ([3, 4], [3, 4]), ([5], [5]), ([6], [6]), ([1, 7], [1, 7]), ([0, 1, 2, 3, 4, 5, 6, 7, 8], []), ([9, 8, 8, 0, 1, 2, 3, 4, 5, 6, 7, 8], [8, 9])])
def spec_Advance.B10 : List Nat := [0, 1, 0, 4, 0, 28, 60, 124, 255, 511, 1023]
theorem spec_Advance.tab10 : rtab .any (opsOf Try.f21 10) = spec_Advance.T10 := by kernel_rfl
theorem spec_Advance.bits10 : waitsOk spec_Advance.T10.2 spec_Advance.B10 = true := by kernel_rfl
set_option maxHeartbeats 8000000 in
set_option maxRecDepth 100000 in
theorem spec_Advance.calls (k : Nat) (a0_0 : Int) (A0_1 : Option Addr) (c0_1 : Nat) (l0_1 : List (S46)) (a1 : Int) (r1 : Int) (r2 : List (S46)) (r3 : List Int) (r4 : Int) (w : World) (hr0_1 : Kd.C k46 w A0_1 l0_1.length l0_1) (hc0_1 : l0_1.length ≤ c0_1) (h : spec_Advance.f k a0_0 l0_1 a1 = some (r1, r2, r3, r4)) :
  Calls Try.prog 21 #[.agg #[.int .i64 a0_0, .slice A0_1 l0_1.length c0_1], .int .i64 a1] w fun e w' => ∃ v1_ v2_ : Value, e = .returned (.tuple #[.agg #[.int .i64 r1, v1_], v2_, .int .i64 r4]) ∧ Kd.R k46 46 w' w.heap.size (fun _ => True) v1_ r2 ∧ Kd.R (Kd.int .i64) 3 w' w.heap.size (fun _ => True) v2_ r3 ∧ Below w.heap.size w w' := by
 have hu29 := Try.underlying29
 have hu46 := Try.underlying46
 have HR0_1 := am hr0_1
 have HC0_1 := am hc0_1
 clear hr0_1 hc0_1
 have HB := am (Below.refl w.heap.size w)
 have H : ((spec_ClockOk.f k a0_0 l0_1).bind fun t430 => (if t430 = true then (if a1 < 0 then (spec_Advance.j0 k a1 true a0_0 l0_1) else (spec_Advance.j0 k a1 (decide (a1 > (wrap64 (1000000000 - a0_0)))) a0_0 l0_1)) else (spec_Advance.j0 k a1 true a0_0 l0_1))) = some (r1, r2, r3, r4) := h
 clear h
 have HC3 := am H
 clear H
 go_enter Try.func21, Try.ntmps21
 go_upto_region 1 with (first | ((with_reducible refine gate_dst (N := 2) rfl ?_); refine box_event ?hg (N := 2) ?hd (cs := #[.int .i64 a0_0, .slice A0_1 l0_1.length c0_1]) (t := 29) ?hr ?_; (case hd => rfl); (case hg => rfl); (case hr => first | (go_simp; done) | (go_simp; rfl)); intro gb428 hg w4 hbox hb; have BK428 := am (hbox); have GW428 := am ((by rw [hg]; exact (below_size (pkB HB.out)) : w.heap.size ≤ gb428)); have GE428 := am ((by rw [hg]; exact (below_size (pkB HB.out)) : w.heap.size ≤ gb428)); replace HB := am (below_step (pkB HB.out) hb); clear hb hbox hg) | ((with_reducible refine gate_dst (N := 4) rfl ?_); refine box_event ?hg (N := 4) ?hd (cs := #[.int .i64 0, .slice none 0 0]) (t := 29) ?hr ?_; (case hd => rfl); (case hg => rfl); (case hr => first | (go_simp; done) | (go_simp; rfl)); intro gb429 hg w5 hbox hb; have BK429 := am (hbox); have GW429 := am ((by rw [hg]; exact (below_size (pkW HB.out)) : w.heap.size ≤ gb429)); have GE429 := am ((by rw [hg]; exact (below_size (pkW HB.out)) : w.heap.size ≤ gb429)); replace HB := am (below_step (pkW HB.out) hb); have NB428_429 := am ((by rw [hg]; exact Nat.ne_of_lt (blk_lt (g := gb428) (o := .cells #[.int .i64 a0_0, .slice A0_1 l0_1.length c0_1] 29 (0, 0)) (pkK BK428.out)) : gb428 ≠ gb429)); have NB429_428 := am ((by rw [hg]; exact Nat.ne_of_gt (blk_lt (g := gb428) (o := .cells #[.int .i64 a0_0, .slice A0_1 l0_1.length c0_1] 29 (0, 0)) (pkK BK428.out)) : gb429 ≠ gb428)); replace BK428 := am (blk_below (pkK BK428.out) hb); clear hb hbox hg))
 (try simp only [Act.put, List.setIfInBounds_toArray, List.set_cons_zero, List.set_cons_succ])
 go_cut [23] (fun v23 wc => ∃ (kq : Nat) (x23_2 : Bool), v23 = .bool x23_2 ∧ Aside0 (spec_Advance.j0 kq a1 x23_2 a0_0 l0_1 = some (r1, r2, r3, r4)) ∧ Aside0 (kq ≤ k) ∧ Aside0 (wc.heap[gb428]? = some (.cells #[.int .i64 a0_0, (.slice A0_1 l0_1.length c0_1)] 29 (0, 0))) ∧ Aside0 (wc.heap[gb429]? = some (.cells #[.int .i64 0, (.slice none 0 0)] 29 (0, 0))) ∧ Aside0 (Below w.heap.size w wc))
 case first =>
  have H := HC3.out
  clear HC3
  replace H := Option.bind_eq_some_iff.mp H
  obtain ⟨t430, A60, H⟩ := H
  replace H : (if t430 = true then (if a1 < 0 then (spec_Advance.j0 k a1 true a0_0 l0_1) else (spec_Advance.j0 k a1 (decide (a1 > (wrap64 (1000000000 - a0_0)))) a0_0 l0_1)) else (spec_Advance.j0 k a1 true a0_0 l0_1)) = some (r1, r2, r3, r4) := H
  have A6 := am A60
  clear A60
  by_cases c7 : t430 = true
  ·subst c7
   replace H : (if a1 < 0 then (spec_Advance.j0 k a1 true a0_0 l0_1) else (spec_Advance.j0 k a1 (decide (a1 > (wrap64 (1000000000 - a0_0)))) a0_0 l0_1)) = some (r1, r2, r3, r4) := by rw [if_pos rfl] at H; exact H
   by_cases c8 : a1 < 0
   ·rw [if_pos c8] at H
    have c8b0 : decide (a1 < 0) = true := decide_eq_true c8
    clear c8
    (first | rw [c8b0] | (simp only [i64_w, i32_w]; rw [c8b0]) | skip)
    have H' := am H
    clear H
    have hnb9 := NB428_429.out
    have hnc9 := NB429_428.out
    obtain ⟨hcz10_0, hcz10_1, hfz10_0, hfz10_1⟩ := bk2 BK428.out
    go_wp2_with (first | ((with_reducible refine gate_callee (f := 10) rfl ?_); refine goesL_ (some 11) rfl rfl Try.func10 (by kernel_rfl) rfl #[.agg #[.int .i64 a0_0, .slice A0_1 l0_1.length c0_1]] rfl mpx ?_; (with_reducible refine (spec_ClockOk.calls k a0_0 _ _ l0_1 true _ ?side1 ?side2 A6.out).mono ?_); (case side1 => exact pkC (Kd.C_below HR0_1.out HB.out)); (case side2 => exact HC0_1.out); rintro e w11 ⟨rfl, hb⟩; refine ⟨_, rfl, ?_⟩; replace BK428 := am (blk_below (pkK BK428.out) hb); replace BK429 := am (blk_below (pkK BK429.out) hb); replace HB := am (below_step (pkW HB.out) hb); (try clear hb)))
    go_meet
    case rel => exact ⟨_, (true), rfx, H', ⟨by first | omega | exact Nat.le_refl _⟩, ⟨pkK BK428.out⟩, ⟨pkK BK429.out⟩, ⟨pkW HB.out⟩⟩
   ·rw [if_neg c8] at H
    have c8b0 : decide (a1 < 0) = false := decide_eq_false c8
    clear c8
    (first | rw [c8b0] | (simp only [i64_w, i32_w]; rw [c8b0]) | skip)
    have H' := am H
    clear H
    have hnb12 := NB428_429.out
    have hnc12 := NB429_428.out
    obtain ⟨hcz13_0, hcz13_1, hfz13_0, hfz13_1⟩ := bk2 BK428.out
    go_wp2_with (first | ((with_reducible refine gate_callee (f := 10) rfl ?_); refine goesL_ (some 11) rfl rfl Try.func10 (by kernel_rfl) rfl #[.agg #[.int .i64 a0_0, .slice A0_1 l0_1.length c0_1]] rfl mpx ?_; (with_reducible refine (spec_ClockOk.calls k a0_0 _ _ l0_1 true _ ?side1 ?side2 A6.out).mono ?_); (case side1 => exact pkC (Kd.C_below HR0_1.out HB.out)); (case side2 => exact HC0_1.out); rintro e w14 ⟨rfl, hb⟩; refine ⟨_, rfl, ?_⟩; replace BK428 := am (blk_below (pkK BK428.out) hb); replace BK429 := am (blk_below (pkK BK429.out) hb); replace HB := am (below_step (pkW HB.out) hb); (try clear hb); obtain ⟨hcz15_0, hcz15_1, hfz15_0, hfz15_1⟩ := bk2 BK428.out))
    go_meet
    case rel => exact ⟨_, (decide (a1 > (wrap64 (1000000000 - a0_0)))), rfx, H', ⟨by first | omega | exact Nat.le_refl _⟩, ⟨pkK BK428.out⟩, ⟨pkK BK429.out⟩, ⟨pkW HB.out⟩⟩
  ·replace c7 := Bool.eq_false_iff.mpr c7
   subst c7
   replace H : (spec_Advance.j0 k a1 true a0_0 l0_1) = some (r1, r2, r3, r4) := by rw [if_neg (show ¬ (false = true) by decide)] at H; exact H
   have H' := am H
   clear H
   have hnb16 := NB428_429.out
   have hnc16 := NB429_428.out
   obtain ⟨hcz17_0, hcz17_1, hfz17_0, hfz17_1⟩ := bk2 BK428.out
   go_wp2_with (first | ((with_reducible refine gate_callee (f := 10) rfl ?_); refine goesL_ (some 11) rfl rfl Try.func10 (by kernel_rfl) rfl #[.agg #[.int .i64 a0_0, .slice A0_1 l0_1.length c0_1]] rfl mpx ?_; (with_reducible refine (spec_ClockOk.calls k a0_0 _ _ l0_1 false _ ?side1 ?side2 A6.out).mono ?_); (case side1 => exact pkC (Kd.C_below HR0_1.out HB.out)); (case side2 => exact HC0_1.out); rintro e w18 ⟨rfl, hb⟩; refine ⟨_, rfl, ?_⟩; replace BK428 := am (blk_below (pkK BK428.out) hb); replace BK429 := am (blk_below (pkK BK429.out) hb); replace HB := am (below_step (pkW HB.out) hb); (try clear hb)))
   go_meet
   case rel => exact ⟨_, (true), rfx, H', ⟨by first | omega | exact Nat.le_refl _⟩, ⟨pkK BK428.out⟩, ⟨pkK BK429.out⟩, ⟨pkW HB.out⟩⟩
 case rest =>
  clear HC3
  try clear c1
  try clear c2
  try clear p2
  try clear p6
  try clear c7
  try clear c8
  try clear c8b0
  try clear c9
  try clear c10
  try clear c12
  try clear c16
  try clear hcz10_0
  try clear hcz10_1
  try clear hcz13_0
  try clear hcz13_1
  try clear hcz15_0
  try clear hcz15_1
  try clear hcz17_0
  try clear hcz17_1
  try clear hfz10_0
  try clear hfz10_1
  try clear hfz13_0
  try clear hfz13_1
  try clear hfz15_0
  try clear hfz15_1
  try clear hfz17_0
  try clear hfz17_1
  obtain ⟨kq, x23_2, rfl, HA, HJ2, BK428, BK429, HB⟩ := hcut
  cases kq with
  | zero => exact absurd HA.out (by simp [spec_Advance.j0])
  | succ kj2 =>
   have H := HA.out
   clear HA
   simp only [spec_Advance.j0] at H
   by_cases c19 : x23_2 = true
   ·subst c19
    replace H : ((spec_l4Copy.f a0_0 l0_1).bind fun bt431 => (some (bt431.1, bt431.2, ([] : List Int), 1))) = some (r1, r2, r3, r4) := by rw [if_pos rfl] at H; exact H
    replace H := Option.bind_eq_some_iff.mp H
    obtain ⟨⟨t431, t432⟩, A200, H⟩ := H
    replace H : (some (t431, t432, ([] : List Int), 1)) = some (r1, r2, r3, r4) := H
    have A20 := am A200
    clear A200
    simp only [Option.some.injEq, Prod.mk.injEq] at H
    obtain ⟨rfl, rfl, rfl, rfl⟩ := H
    have hnb21 := NB428_429.out
    have hnc21 := NB429_428.out
    obtain ⟨hcz22_0, hcz22_1, hfz22_0, hfz22_1⟩ := bk2 BK428.out
    go_wp2_with (first | ((with_reducible refine gate_callee (f := 37) rfl ?_); refine goesL_ (some 25) rfl rfl Try.func37 (by kernel_rfl) rfl #[.agg #[.int .i64 a0_0, .slice A0_1 l0_1.length c0_1]] rfl mpx ?_; (with_reducible refine (spec_l4Copy.calls a0_0 _ _ l0_1 t431 t432 _ ?side1 ?side2 A20.out).mono ?_); (case side1 => exact pkC (Kd.C_below HR0_1.out HB.out)); (case side2 => exact HC0_1.out); rintro e w23 ⟨v433, rfl, ho0, hb⟩; refine ⟨_, rfl, ?_⟩; have HO434 := am (Kd.R_lower ho0 (below_size (pkW HB.out))); replace BK428 := am (blk_below (pkK BK428.out) hb); replace BK429 := am (blk_below (pkK BK429.out) hb); replace HB := am (below_step (pkW HB.out) hb); (try clear hb ho0); obtain ⟨hcz24_0, hcz24_1, hfz24_0, hfz24_1⟩ := bk2 BK429.out; obtain ⟨Ao25, co25, eo25⟩ := Kd.R_slice HO434.out; subst eo25))
    refine bodyPost_ret (results_ctt rfl _ _ gb429 29 #[.int .i64 t431, .slice Ao25 t432.length co25] (0, 0) _ rfl (by (with_reducible repeat (first | refine blk_drewN ?_ _ | refine blk_drew ?_ | refine blk_alloc ?_ _)); refine blk_put (cs := #[.int .i64 t431, .slice none 0 0]) ?_ 1 _ rfl; (with_reducible repeat (first | refine blk_drewN ?_ _ | refine blk_drew ?_ | refine blk_alloc ?_ _)); refine blk_put (cs := #[.int .i64 0, .slice none 0 0]) ?_ 0 _ rfl; exact pkK BK429.out) Try.underlying29 rfl (by kernel_rfl)) rfl ?_
    exact ⟨_, _, rfe, by (with_reducible repeat (first | apply Kd.R_alloc | apply Kd.R_drewN | apply Kd.R_drew)); exact Kd.R_mono (Kd.R_far (p := ⟨gb429, 1, none⟩) (Kd.R_far (p := ⟨gb429, 0, none⟩) (Kd.R_types HO434.out BK429.out (by decide)) (fun _ hk => hk.2) (.int .i64 t431)) (fun _ hk => hk.2) (.slice Ao25 t432.length co25)) (fun _ hk => trivial), by first | exact Kd.R_nil _ _ _ _ _ | exact Kd.N_nil _ _ _ _ _ | exact Kd.V_nil _ _ _ _ _ | exact Kd.Q_nil _ _ _ _ _ | exact Kd.S_nil _ _ _ _ _, pkW HB.out⟩
   ·replace c19 := Bool.eq_false_iff.mpr c19
    subst c19
    replace H : (spec_Advance.l0 kj2 (([] : List Int)) 0 a0_0 l0_1 (wrap64 (a0_0 + a1)) ([] : List (S46))) = some (r1, r2, r3, r4) := by rw [if_neg (show ¬ (false = true) by decide)] at H; exact H
    obtain ⟨y436, hy436⟩ : ∃ y_ : List Int, y_ = (([] : List Int)) := ⟨_, rfl⟩
    replace H : (spec_Advance.l0 kj2 y436 0 a0_0 l0_1 (wrap64 (a0_0 + a1)) ([] : List (S46))) = some (r1, r2, r3, r4) := by first | (rw [hy436]; with_reducible exact H) | (have H2_ := (Option.bind_some _ _).symm.trans H; rw [hy436]; with_reducible exact H2_) | (have H2_ := (Option.bind_some _ _).symm.trans H; with_reducible exact H2_) | with_reducible exact H | (rw [hy436]; exact H) | exact H
    have Ny436 := am hy436
    clear hy436
    have H' := am H
    clear H
    have hnb26 := NB428_429.out
    have hnc26 := NB429_428.out
    obtain ⟨hcz27_0, hcz27_1, hfz27_0, hfz27_1⟩ := bk2 BK428.out
    go_wp2_with (first | ((with_reducible refine gate_dst (N := 7) rfl ?_); refine box_event ?hg (N := 7) ?hd (cs := #[.int .i64 0, .slice none 0 0]) (t := 29) ?hr ?_; (case hd => rfl); (case hg => rfl); (case hr => first | (go_simp; done) | (go_simp; rfl)); intro gb435 hg w28 hbox hb; have BK435 := am (hbox); have GW435 := am ((by rw [hg]; exact (below_size (pkW HB.out)) : w.heap.size ≤ gb435)); have GE435 := am ((by rw [hg]; exact (below_size (pkW HB.out)) : w.heap.size ≤ gb435)); replace HB := am (below_step (pkW HB.out) hb); have NB428_435 := am ((by rw [hg]; exact Nat.ne_of_lt (blk_lt (g := gb428) (o := .cells #[.int .i64 a0_0, .slice A0_1 l0_1.length c0_1] 29 (0, 0)) (pkK BK428.out)) : gb428 ≠ gb435)); have NB435_428 := am ((by rw [hg]; exact Nat.ne_of_gt (blk_lt (g := gb428) (o := .cells #[.int .i64 a0_0, .slice A0_1 l0_1.length c0_1] 29 (0, 0)) (pkK BK428.out)) : gb435 ≠ gb428)); replace BK428 := am (blk_below (pkK BK428.out) hb); have NB429_435 := am ((by rw [hg]; exact Nat.ne_of_lt (blk_lt (g := gb429) (o := .cells #[.int .i64 0, .slice none 0 0] 29 (0, 0)) (pkK BK429.out)) : gb429 ≠ gb435)); have NB435_429 := am ((by rw [hg]; exact Nat.ne_of_gt (blk_lt (g := gb429) (o := .cells #[.int .i64 0, .slice none 0 0] 29 (0, 0)) (pkK BK429.out)) : gb435 ≠ gb429)); replace BK429 := am (blk_below (pkK BK429.out) hb); clear hb hbox hg; have hnb29 := NB435_428.out; have hnc29 := NB428_435.out; have hnb30 := NB435_429.out; have hnc30 := NB429_435.out; obtain ⟨hcz31_0, hcz31_1, hfz31_0, hfz31_1⟩ := bk2 BK435.out) | ((with_reducible refine gate_dst (N := 31) rfl ?_); refine Kd.R_lit (Kd.int .i64) _ 3 ?hg (N := 31) ?hd (xs := ([] : List Int)) (inner := []) (ok := fun _ => True) (okp := fun _ => True) ?hr ?hp (fun _ hk => hk) trivial (Below.refl _ _) (Nat.le_refl _) (by simp) ?_; (case hd => rfl); (case hg => rfl); (case hr => first | (go_simp; done) | (go_simp; rfl)); (case hp => exact (Reps.none _ _)); intro v437 w32 ho33 hb hg_ hnew_; clear hg_ hnew_; (first | rw [← Ny436.out] at ho33 | (simp only [Int.reduceToNat] at ho33; rw [← Ny436.out] at ho33)); have HO438 := am (Kd.R_lower ho33 (below_size (pkW HB.out))); replace BK428 := am (blk_below (g := gb428) (o := .cells #[.int .i64 a0_0, .slice A0_1 l0_1.length c0_1] 29 (0, 0)) (by (with_reducible repeat (first | refine blk_drewN ?_ _ | refine blk_drew ?_ | refine blk_alloc ?_ _)); refine blk_far ?_ NB428_435.out _; (with_reducible repeat (first | refine blk_drewN ?_ _ | refine blk_drew ?_ | refine blk_alloc ?_ _)); refine blk_far ?_ NB428_435.out _; exact pkK BK428.out) hb); replace BK429 := am (blk_below (g := gb429) (o := .cells #[.int .i64 0, .slice none 0 0] 29 (0, 0)) (by (with_reducible repeat (first | refine blk_drewN ?_ _ | refine blk_drew ?_ | refine blk_alloc ?_ _)); refine blk_far ?_ NB429_435.out _; (with_reducible repeat (first | refine blk_drewN ?_ _ | refine blk_drew ?_ | refine blk_alloc ?_ _)); refine blk_far ?_ NB429_435.out _; exact pkK BK429.out) hb); replace BK435 := am (blk_below (g := gb435) (o := .cells #[.int .i64 (wrap64 (a0_0 + a1)), .slice none 0 0] 29 (0, 0)) (by (with_reducible repeat (first | refine blk_drewN ?_ _ | refine blk_drew ?_ | refine blk_alloc ?_ _)); refine blk_put (cs := #[.int .i64 (wrap64 (a0_0 + a1)), .slice none 0 0]) ?_ 1 _ rfl; (with_reducible repeat (first | refine blk_drewN ?_ _ | refine blk_drew ?_ | refine blk_alloc ?_ _)); refine blk_put (cs := #[.int .i64 0, .slice none 0 0]) ?_ 0 _ rfl; exact pkK BK435.out) hb); replace HB := am (below_step (pkW HB.out) hb); clear hb ho33))
    go_loopg [8, 9] kj2 (fun kq v8 v9 w' => ∃ (x8_2 : List Int) (x9_2 : Int) (x436001_2 : List (S46)) (u436001 : Value), v9 = .int .i64 x9_2 ∧ Aside0 (spec_Advance.l0 kq x8_2 x9_2 a0_0 l0_1 (wrap64 (a0_0 + a1)) x436001_2 = some (r1, r2, r3, r4)) ∧ Aside0 (kq ≤ kj2) ∧ Aside0 (Kd.R (Kd.int .i64) 3 w' w.heap.size (fun _ => True) v8 x8_2) ∧ Aside0 (Kd.R k46 46 w' w.heap.size (fun _ => True) u436001 x436001_2) ∧ Aside0 (w'.heap[gb428]? = some (.cells #[.int .i64 a0_0, (.slice A0_1 l0_1.length c0_1)] 29 (0, 0))) ∧ Aside0 (w'.heap[gb429]? = some (.cells #[.int .i64 0, (.slice none 0 0)] 29 (0, 0))) ∧ Aside0 (w'.heap[gb435]? = some (.cells #[.int .i64 (wrap64 (a0_0 + a1)), u436001] 29 (0, 0))) ∧ Aside0 (Below w.heap.size w w'))
    case atStart => exact ⟨(y436), (0), (([] : List (S46))), (.slice none 0 0), rfx, H', ⟨Nat.le_refl _⟩, ⟨pkR HO438.out⟩, ⟨by first | exact Kd.R_nil _ _ _ _ _ | exact Kd.N_nil _ _ _ _ _ | exact Kd.V_nil _ _ _ _ _ | exact Kd.Q_nil _ _ _ _ _ | exact Kd.S_nil _ _ _ _ _⟩, ⟨pkK BK428.out⟩, ⟨pkK BK429.out⟩, ⟨pkK BK435.out⟩, ⟨pkW HB.out⟩⟩
    case round =>
     clear H'
     try clear c1
     try clear c2
     try clear p2
     try clear c3
     try clear p6
     try clear c7
     try clear c8
     try clear c8b0
     try clear c9
     try clear c10
     try clear c12
     try clear c16
     try clear c19
     try clear c21
     try clear c26
     try clear c29
     try clear c30
     try clear hcz10_0
     try clear hcz10_1
     try clear hcz13_0
     try clear hcz13_1
     try clear hcz15_0
     try clear hcz15_1
     try clear hcz17_0
     try clear hcz17_1
     try clear hcz22_0
     try clear hcz22_1
     try clear hcz24_0
     try clear hcz24_1
     try clear hcz27_0
     try clear hcz27_1
     try clear hcz31_0
     try clear hcz31_1
     try clear hfz10_0
     try clear hfz10_1
     try clear hfz13_0
     try clear hfz13_1
     try clear hfz15_0
     try clear hfz15_1
     try clear hfz17_0
     try clear hfz17_1
     try clear hfz22_0
     try clear hfz22_1
     try clear hfz24_0
     try clear hfz24_1
     try clear hfz27_0
     try clear hfz27_1
     try clear hfz31_0
     try clear hfz31_1
     try clear p2
     try clear p6
     obtain ⟨x8_2, x9_2, x436001_2, u436001, rfl, HA, HK2, HO_8, HO_436001, BK428, BK429, BK435, HB⟩ := hrel
     cases gk with
     | zero => exact absurd HA.out (by simp [spec_Advance.l0])
     | succ k2 =>
      have H := HA.out
      clear HA
      simp only [spec_Advance.l0] at H
      by_cases c34 : x9_2 < (l0_1.length : Int)
      ·rw [if_pos c34] at H
       have c34b0 : decide (x9_2 < (l0_1.length : Int)) = true := decide_eq_true c34
       clear c34
       by_cases c35 : 0 ≤ x9_2
       ·rw [if_pos c35] at H
        have c35b0 : decide (0 ≤ x9_2) = true := decide_eq_true c35
        clear c35
        by_cases c36 : ((rd_T46 l0_1 x9_2).f0) ≤ (wrap64 (a0_0 + a1))
        ·rw [if_pos c36] at H
         have c36b0 : decide (((rd_T46 l0_1 x9_2).f0) ≤ (wrap64 (a0_0 + a1))) = true := decide_eq_true c36
         clear c36
         by_cases c37 : x8_2.length < 17592186044416
         ·rw [if_pos c37] at H
          have LMc37 := am c37
          clear c37
          obtain ⟨y441, hy441⟩ : ∃ y_ : List Int, y_ = (x8_2 ++ [(rd_T46 l0_1 x9_2).f1]) := ⟨_, rfl⟩
          replace H : (spec_Advance.l0 k2 y441 (wrap64 (x9_2 + 1)) a0_0 l0_1 (wrap64 (a0_0 + a1)) x436001_2) = some (r1, r2, r3, r4) := by first | (rw [hy441]; with_reducible exact H) | (have H2_ := (Option.bind_some _ _).symm.trans H; rw [hy441]; with_reducible exact H2_) | (have H2_ := (Option.bind_some _ _).symm.trans H; with_reducible exact H2_) | with_reducible exact H | (rw [hy441]; exact H) | exact H
          have Ny441 := am hy441
          clear hy441
          have H' := am H
          clear H
          have hnb38 := NB428_429.out
          have hnc38 := NB429_428.out
          have hnb39 := NB428_435.out
          have hnc39 := NB435_428.out
          obtain ⟨hcz40_0, hcz40_1, hfz40_0, hfz40_1⟩ := bk2 BK428.out
          try go_wp2
          replace HO_8 := am (Kd.R_drew HO_8.out)
          replace HO_436001 := am (Kd.R_drew HO_436001.out)
          replace BK428 := am (blk_drew BK428.out)
          replace BK429 := am (blk_drew BK429.out)
          replace BK435 := am (blk_drew BK435.out)
          replace HB := am (below_drew1 HB.out)
          have p439 : 0 ≤ (x9_2 : Int) := ofd
          have q439 : x9_2 < (l0_1.length : Int) := ofd
          obtain ⟨ad439, e439, hx439_0, hx439_1⟩ := at_T46 HR0_1.out x9_2 p439 q439
          have hw439_1 := hx439_1
          have hw439_0 := hx439_0
          cases e439
          replace hx439_0 := (HB.out.cell (World.block_lt_of_cell? w _ hx439_0)).trans hx439_0
          replace hx439_1 := (HB.out.cell (World.block_lt_of_cell? w _ hx439_1)).trans hx439_1
          replace p439 := eq_true p439
          replace q439 := eq_true q439
          refine start_ (n := 9) (S := fun w' => w'.cell? ⟨gb428, 0, none⟩ = some (.int .i64 a0_0) ∧ w'.cell? ⟨gb428, 1, none⟩ = some (.slice (some ad439) l0_1.length c0_1) ∧ w'.cell? ⟨gb435, 0, none⟩ = some (.int .i64 (wrap64 (a0_0 + a1))) ∧ w'.cell? ⟨gb435, 1, none⟩ = some (u436001) ∧ w'.cell? (ad439.add ((x9_2).toNat * 2)) = some (.int .i64 ((rd_T46 l0_1 x9_2).f0)) ∧ w'.cell? ⟨(ad439.add ((x9_2).toNat * 2)).block, (ad439.add ((x9_2).toNat * 2)).off + 1, none⟩ = some (.int .i64 ((rd_T46 l0_1 x9_2).f1))) (ds := []) #[false, false, false, false, false, false, false, false, false] (by kernel_rfl) rfl rfl ⟨(blk_cell BK428.out 0).trans rfl, (blk_cell BK428.out 1).trans rfl, (blk_cell BK435.out 0).trans rfl, (blk_cell BK435.out 1).trans rfl, ((HB.out.cell (World.block_lt_of_cell? w _ hw439_0)).trans hw439_0), ((HB.out.cell (World.block_lt_of_cell? w _ hw439_1)).trans hw439_1)⟩ (fun hHeld => ?_); refine with_tabW spec_Advance.tab8 spec_Advance.bits8 (fun HT_ HW_ => ?_)
          generalize wr.drew = w41 at HO_8 HO_436001 BK428 BK429 BK435 HB hx439_0 hx439_1 hHeld ⊢
          refine pure_ (i := 0) (N := some 39) (v := ?_) (a' := ?_) #[true, false, false, false, false, false, false, false, false] rfl rfl (any_of HT_.out (by kernel_rfl)) (fun _ _ _ h => h) (Or.inl ⟨by rfl, ?_⟩) ?_ ?_
          rotate_left
          ·intro w'
           go_simp
           with_reducible rfl
          rotate_left
          ·simp only [Act.put, List.setIfInBounds_toArray, List.set_cons_zero, List.set_cons_succ, i64_w, i32_w]
           rfl
          refine pure_ (i := 2) (N := some 41) (v := ?_) (a' := ?_) #[true, false, true, false, false, false, false, false, false] rfl rfl (any_of HT_.out (by kernel_rfl)) (fun _ _ _ h => h) (Or.inl ⟨by rfl, ?_⟩) ?_ ?_
          rotate_left
          ·intro w'
           go_simp
           with_reducible rfl
          rotate_left
          ·simp only [Act.put, List.setIfInBounds_toArray, List.set_cons_zero, List.set_cons_succ, i64_w, i32_w]
           rfl
          refine pure_ (i := 6) (N := some 45) (v := ?_) (a' := ?_) #[true, false, true, false, false, false, true, false, false] rfl rfl (any_of HT_.out (by kernel_rfl)) (fun _ _ _ h => h) (Or.inl ⟨by rfl, ?_⟩) ?_ ?_
          rotate_left
          ·intro w'
           go_simp
           with_reducible rfl
          rotate_left
          ·simp only [Act.put, List.setIfInBounds_toArray, List.set_cons_zero, List.set_cons_succ, i64_w, i32_w]
           rfl
          refine take_ (i := 1) (N := some 40) (v := ?_) (a' := ?_) #[true, true, true, false, false, false, true, false, false] rfl rfl (take_ofW HT_.out HW_.out (by kernel_rfl)) (fun _ _ _ h => h) (Or.inl ⟨by rfl, ?_⟩) hHeld ?_ ?_
          rotate_left
          ·rintro w' ⟨s0, s1, s2, s3, s4, s5⟩
           go_simp
           with_reducible rfl
          rotate_left
          ·simp only [Act.put, List.setIfInBounds_toArray, List.set_cons_zero, List.set_cons_succ, i64_w, i32_w]
           rfl
          refine pure_ (i := 3) (N := some 42) (v := ?_) (a' := ?_) #[true, true, true, true, false, false, true, false, false] rfl rfl (any_of HT_.out (by kernel_rfl)) (fun _ _ _ h => h) (Or.inl ⟨by rfl, ?_⟩) ?_ ?_
          rotate_left
          ·intro w'
           go_simp
           with_reducible rfl
          rotate_left
          ·simp only [Act.put, List.setIfInBounds_toArray, List.set_cons_zero, List.set_cons_succ, i64_w, i32_w]
           rfl
          refine pure_ (i := 4) (N := some 43) (v := ?_) (a' := ?_) #[true, true, true, true, true, false, true, false, false] rfl rfl (any_of HT_.out (by kernel_rfl)) (fun _ _ _ h => h) (Or.inl ⟨by rfl, ?_⟩) ?_ ?_
          rotate_left
          ·intro w'
           go_simp
           with_reducible rfl
          rotate_left
          ·simp only [Act.put, List.setIfInBounds_toArray, List.set_cons_zero, List.set_cons_succ, i64_w, i32_w]
           rfl
          refine take_ (i := 5) (N := some 44) (v := ?_) (a' := ?_) #[true, true, true, true, true, true, true, false, false] rfl rfl (take_ofW HT_.out HW_.out (by kernel_rfl)) (fun _ _ _ h => h) (Or.inl ⟨by rfl, ?_⟩) hHeld ?_ ?_
          rotate_left
          ·rintro w' ⟨s0, s1, s2, s3, s4, s5⟩
           go_simp
           with_reducible rfl
          rotate_left
          ·simp only [Act.put, List.setIfInBounds_toArray, List.set_cons_zero, List.set_cons_succ, i64_w, i32_w]
           rfl
          refine take_ (i := 7) (N := some 46) (v := ?_) (a' := ?_) #[true, true, true, true, true, true, true, true, false] rfl rfl (take_ofW HT_.out HW_.out (by kernel_rfl)) (fun _ _ _ h => h) (Or.inl ⟨by rfl, ?_⟩) hHeld ?_ ?_
          rotate_left
          ·rintro w' ⟨s0, s1, s2, s3, s4, s5⟩
           go_simp
           with_reducible rfl
          rotate_left
          ·simp only [Act.put, List.setIfInBounds_toArray, List.set_cons_zero, List.set_cons_succ, i64_w, i32_w]
           rfl
          refine pure_ (i := 8) (N := some 47) (v := ?_) (a' := ?_) #[true, true, true, true, true, true, true, true, true] rfl rfl (any_of HT_.out (by kernel_rfl)) (fun _ _ _ h => h) (Or.inl ⟨by rfl, ?_⟩) ?_ ?_
          rotate_left
          ·intro w'
           go_simp
           with_reducible rfl
          rotate_left
          ·simp only [Act.put, List.setIfInBounds_toArray, List.set_cons_zero, List.set_cons_succ, i64_w, i32_w]
           rfl
          refine done_ (done_of HT_.out (by kernel_rfl)) ?_
          obtain ⟨hcz42_0, hcz42_1, hfz42_0, hfz42_1⟩ := bk2 BK428.out
          have p440 : 0 ≤ (x9_2 : Int) := ofd
          have q440 : x9_2 < (l0_1.length : Int) := ofd
          obtain ⟨ad440, e440, hx440_0, hx440_1⟩ := at_T46 HR0_1.out x9_2 p440 q440
          obtain rfl : ad439 = ad440 := (by injection e440)
          replace hx440_0 := (HB.out.cell (World.block_lt_of_cell? w _ hx440_0)).trans hx440_0
          replace hx440_1 := (HB.out.cell (World.block_lt_of_cell? w _ hx440_1)).trans hx440_1
          replace p440 := eq_true p440
          replace q440 := eq_true q440
          try go_wp2_with (first | ((with_reducible refine gate_builtin (b := .append) (xs := #[.tmp 48, .tmp 55]) rfl ?_); at_builtin; refine Kd.R_append (Kd.int .i64) (w0 := w) w.heap.size rfl (.tmp 48) (.tmp 55) 40 3 (.int .i64 0) 8 rfl Try.underlying40 info3 rfl (by decide) (by omega) u8 x8_2 ((rd_T46 l0_1 x9_2).f1) [.int .i64 ((rd_T46 l0_1 x9_2).f1)] (fun _ => True) (fun _ => False) rfl rfl ?aP (fun _ hk => hk.elim) ?aF ?aO ?aB ?aS ?aL ?_; (case aP => exact rfl); (case aB => exact (pkW HB.out)); (case aF => exact (fun _ _ => trivial)); (case aO => exact (pkR HO_8.out)); (case aS => exact (below_size (pkW HB.out))); (case aL => have := LMc37.out; omega); intro v442 w43 ho hb hg hat; rw [← Ny441.out] at ho; replace HO_436001 := am (Kd.R_over' (pkR HO_436001.out) (Kd.R_typed (pkR HO_8.out)) (by decide) hg); replace BK428 := am (blk_grown (g := gb428) (o := .cells #[.int .i64 a0_0, .slice (some ad439) l0_1.length c0_1] 29 (0, 0)) (pkK BK428.out) hg (Kd.R_ne HO_8.out BK428.out (by decide))); replace BK429 := am (blk_grown (g := gb429) (o := .cells #[.int .i64 0, .slice none 0 0] 29 (0, 0)) (pkK BK429.out) hg (Kd.R_ne HO_8.out BK429.out (by decide))); replace BK435 := am (blk_grown (g := gb435) (o := .cells #[.int .i64 (wrap64 (a0_0 + a1)), u436001] 29 (0, 0)) (pkK BK435.out) hg (Kd.R_ne HO_8.out BK435.out (by decide))); replace HB := am (hb); have HO443 := am (ho); clear HO_8; clear ho hb hg hat))
          go_roundg k2
          case measure => have := HJ2.out; have := HK2.out; omega
          case rel => exact ⟨(y441), (wrap64 (x9_2 + 1)), (x436001_2), (u436001), rfx, H', ⟨by have := HJ2.out; have := HK2.out; omega⟩, ⟨pkR HO443.out⟩, ⟨pkR HO_436001.out⟩, ⟨pkK BK428.out⟩, ⟨pkK BK429.out⟩, ⟨pkK BK435.out⟩, ⟨pkW HB.out⟩⟩
         ·rw [if_neg c37] at H
          exact absurd H (by simp)
        ·rw [if_neg c36] at H
         have c36b0 : decide (((rd_T46 l0_1 x9_2).f0) ≤ (wrap64 (a0_0 + a1))) = false := decide_eq_false c36
         clear c36
         by_cases c44 : x436001_2.length < 8796093022208
         ·rw [if_pos c44] at H
          have LMc44 := am c44
          clear c44
          obtain ⟨y445, hy445⟩ : ∃ y_ : List (S46), y_ = (x436001_2 ++ [(⟨(rd_T46 l0_1 x9_2).f0, (rd_T46 l0_1 x9_2).f1⟩ : S46)]) := ⟨_, rfl⟩
          replace H : (spec_Advance.l0 k2 x8_2 (wrap64 (x9_2 + 1)) a0_0 l0_1 (wrap64 (a0_0 + a1)) y445) = some (r1, r2, r3, r4) := by first | (rw [hy445]; with_reducible exact H) | (have H2_ := (Option.bind_some _ _).symm.trans H; rw [hy445]; with_reducible exact H2_) | (have H2_ := (Option.bind_some _ _).symm.trans H; with_reducible exact H2_) | with_reducible exact H | (rw [hy445]; exact H) | exact H
          have Ny445 := am hy445
          clear hy445
          have H' := am H
          clear H
          have hnb45 := NB428_429.out
          have hnc45 := NB429_428.out
          have hnb46 := NB428_435.out
          have hnc46 := NB435_428.out
          obtain ⟨hcz47_0, hcz47_1, hfz47_0, hfz47_1⟩ := bk2 BK428.out
          try go_wp2
          replace HO_8 := am (Kd.R_drew HO_8.out)
          replace HO_436001 := am (Kd.R_drew HO_436001.out)
          replace BK428 := am (blk_drew BK428.out)
          replace BK429 := am (blk_drew BK429.out)
          replace BK435 := am (blk_drew BK435.out)
          replace HB := am (below_drew1 HB.out)
          have p439 : 0 ≤ (x9_2 : Int) := ofd
          have q439 : x9_2 < (l0_1.length : Int) := ofd
          obtain ⟨ad439, e439, hx439_0, hx439_1⟩ := at_T46 HR0_1.out x9_2 p439 q439
          have hw439_1 := hx439_1
          have hw439_0 := hx439_0
          cases e439
          replace hx439_0 := (HB.out.cell (World.block_lt_of_cell? w _ hx439_0)).trans hx439_0
          replace hx439_1 := (HB.out.cell (World.block_lt_of_cell? w _ hx439_1)).trans hx439_1
          replace p439 := eq_true p439
          replace q439 := eq_true q439
          refine start_ (n := 9) (S := fun w' => w'.cell? ⟨gb428, 0, none⟩ = some (.int .i64 a0_0) ∧ w'.cell? ⟨gb428, 1, none⟩ = some (.slice (some ad439) l0_1.length c0_1) ∧ w'.cell? ⟨gb435, 0, none⟩ = some (.int .i64 (wrap64 (a0_0 + a1))) ∧ w'.cell? ⟨gb435, 1, none⟩ = some (u436001) ∧ w'.cell? (ad439.add ((x9_2).toNat * 2)) = some (.int .i64 ((rd_T46 l0_1 x9_2).f0)) ∧ w'.cell? ⟨(ad439.add ((x9_2).toNat * 2)).block, (ad439.add ((x9_2).toNat * 2)).off + 1, none⟩ = some (.int .i64 ((rd_T46 l0_1 x9_2).f1))) (ds := []) #[false, false, false, false, false, false, false, false, false] (by kernel_rfl) rfl rfl ⟨(blk_cell BK428.out 0).trans rfl, (blk_cell BK428.out 1).trans rfl, (blk_cell BK435.out 0).trans rfl, (blk_cell BK435.out 1).trans rfl, ((HB.out.cell (World.block_lt_of_cell? w _ hw439_0)).trans hw439_0), ((HB.out.cell (World.block_lt_of_cell? w _ hw439_1)).trans hw439_1)⟩ (fun hHeld => ?_); refine with_tabW spec_Advance.tab8 spec_Advance.bits8 (fun HT_ HW_ => ?_)
          generalize wr.drew = w48 at HO_8 HO_436001 BK428 BK429 BK435 HB hx439_0 hx439_1 hHeld ⊢
          refine pure_ (i := 0) (N := some 39) (v := ?_) (a' := ?_) #[true, false, false, false, false, false, false, false, false] rfl rfl (any_of HT_.out (by kernel_rfl)) (fun _ _ _ h => h) (Or.inl ⟨by rfl, ?_⟩) ?_ ?_
          rotate_left
          ·intro w'
           go_simp
           with_reducible rfl
          rotate_left
          ·simp only [Act.put, List.setIfInBounds_toArray, List.set_cons_zero, List.set_cons_succ, i64_w, i32_w]
           rfl
          refine pure_ (i := 2) (N := some 41) (v := ?_) (a' := ?_) #[true, false, true, false, false, false, false, false, false] rfl rfl (any_of HT_.out (by kernel_rfl)) (fun _ _ _ h => h) (Or.inl ⟨by rfl, ?_⟩) ?_ ?_
          rotate_left
          ·intro w'
           go_simp
           with_reducible rfl
          rotate_left
          ·simp only [Act.put, List.setIfInBounds_toArray, List.set_cons_zero, List.set_cons_succ, i64_w, i32_w]
           rfl
          refine pure_ (i := 6) (N := some 45) (v := ?_) (a' := ?_) #[true, false, true, false, false, false, true, false, false] rfl rfl (any_of HT_.out (by kernel_rfl)) (fun _ _ _ h => h) (Or.inl ⟨by rfl, ?_⟩) ?_ ?_
          rotate_left
          ·intro w'
           go_simp
           with_reducible rfl
          rotate_left
          ·simp only [Act.put, List.setIfInBounds_toArray, List.set_cons_zero, List.set_cons_succ, i64_w, i32_w]
           rfl
          refine take_ (i := 1) (N := some 40) (v := ?_) (a' := ?_) #[true, true, true, false, false, false, true, false, false] rfl rfl (take_ofW HT_.out HW_.out (by kernel_rfl)) (fun _ _ _ h => h) (Or.inl ⟨by rfl, ?_⟩) hHeld ?_ ?_
          rotate_left
          ·rintro w' ⟨s0, s1, s2, s3, s4, s5⟩
           go_simp
           with_reducible rfl
          rotate_left
          ·simp only [Act.put, List.setIfInBounds_toArray, List.set_cons_zero, List.set_cons_succ, i64_w, i32_w]
           rfl
          refine pure_ (i := 3) (N := some 42) (v := ?_) (a' := ?_) #[true, true, true, true, false, false, true, false, false] rfl rfl (any_of HT_.out (by kernel_rfl)) (fun _ _ _ h => h) (Or.inl ⟨by rfl, ?_⟩) ?_ ?_
          rotate_left
          ·intro w'
           go_simp
           with_reducible rfl
          rotate_left
          ·simp only [Act.put, List.setIfInBounds_toArray, List.set_cons_zero, List.set_cons_succ, i64_w, i32_w]
           rfl
          refine pure_ (i := 4) (N := some 43) (v := ?_) (a' := ?_) #[true, true, true, true, true, false, true, false, false] rfl rfl (any_of HT_.out (by kernel_rfl)) (fun _ _ _ h => h) (Or.inl ⟨by rfl, ?_⟩) ?_ ?_
          rotate_left
          ·intro w'
           go_simp
           with_reducible rfl
          rotate_left
          ·simp only [Act.put, List.setIfInBounds_toArray, List.set_cons_zero, List.set_cons_succ, i64_w, i32_w]
           rfl
          refine take_ (i := 5) (N := some 44) (v := ?_) (a' := ?_) #[true, true, true, true, true, true, true, false, false] rfl rfl (take_ofW HT_.out HW_.out (by kernel_rfl)) (fun _ _ _ h => h) (Or.inl ⟨by rfl, ?_⟩) hHeld ?_ ?_
          rotate_left
          ·rintro w' ⟨s0, s1, s2, s3, s4, s5⟩
           go_simp
           with_reducible rfl
          rotate_left
          ·simp only [Act.put, List.setIfInBounds_toArray, List.set_cons_zero, List.set_cons_succ, i64_w, i32_w]
           rfl
          refine take_ (i := 7) (N := some 46) (v := ?_) (a' := ?_) #[true, true, true, true, true, true, true, true, false] rfl rfl (take_ofW HT_.out HW_.out (by kernel_rfl)) (fun _ _ _ h => h) (Or.inl ⟨by rfl, ?_⟩) hHeld ?_ ?_
          rotate_left
          ·rintro w' ⟨s0, s1, s2, s3, s4, s5⟩
           go_simp
           with_reducible rfl
          rotate_left
          ·simp only [Act.put, List.setIfInBounds_toArray, List.set_cons_zero, List.set_cons_succ, i64_w, i32_w]
           rfl
          refine pure_ (i := 8) (N := some 47) (v := ?_) (a' := ?_) #[true, true, true, true, true, true, true, true, true] rfl rfl (any_of HT_.out (by kernel_rfl)) (fun _ _ _ h => h) (Or.inl ⟨by rfl, ?_⟩) ?_ ?_
          rotate_left
          ·intro w'
           go_simp
           with_reducible rfl
          rotate_left
          ·simp only [Act.put, List.setIfInBounds_toArray, List.set_cons_zero, List.set_cons_succ, i64_w, i32_w]
           rfl
          refine done_ (done_of HT_.out (by kernel_rfl)) ?_
          try go_wp2
          replace HO_8 := am (Kd.R_drew HO_8.out)
          replace HO_436001 := am (Kd.R_drew HO_436001.out)
          replace BK428 := am (blk_drew BK428.out)
          replace BK429 := am (blk_drew BK429.out)
          replace BK435 := am (blk_drew BK435.out)
          replace HB := am (below_drew1 HB.out)
          have p444 : 0 ≤ (x9_2 : Int) := ofd
          have q444 : x9_2 < (l0_1.length : Int) := ofd
          obtain ⟨ad444, e444, hx444_0, hx444_1⟩ := at_T46 HR0_1.out x9_2 p444 q444
          have hw444_1 := hx444_1
          have hw444_0 := hx444_0
          obtain rfl : ad439 = ad444 := (by injection e444)
          replace hx444_0 := (HB.out.cell (World.block_lt_of_cell? w _ hx444_0)).trans hx444_0
          replace hx444_1 := (HB.out.cell (World.block_lt_of_cell? w _ hx444_1)).trans hx444_1
          replace p444 := eq_true p444
          replace q444 := eq_true q444
          refine start_ (n := 11) (S := fun w' => w'.cell? ⟨gb435, 0, none⟩ = some (.int .i64 (wrap64 (a0_0 + a1))) ∧ w'.cell? ⟨gb435, 1, none⟩ = some (u436001) ∧ w'.cell? ⟨gb428, 0, none⟩ = some (.int .i64 a0_0) ∧ w'.cell? ⟨gb428, 1, none⟩ = some (.slice (some ad439) l0_1.length c0_1) ∧ w'.cell? (ad439.add ((x9_2).toNat * 2)) = some (.int .i64 ((rd_T46 l0_1 x9_2).f0)) ∧ w'.cell? ⟨(ad439.add ((x9_2).toNat * 2)).block, (ad439.add ((x9_2).toNat * 2)).off + 1, none⟩ = some (.int .i64 ((rd_T46 l0_1 x9_2).f1))) (ds := [10]) #[false, false, false, false, false, false, false, false, false, false, false] (by kernel_rfl) rfl rfl ⟨(blk_cell BK435.out 0).trans rfl, (blk_cell BK435.out 1).trans rfl, (blk_cell BK428.out 0).trans rfl, (blk_cell BK428.out 1).trans rfl, ((HB.out.cell (World.block_lt_of_cell? w _ hw444_0)).trans hw444_0), ((HB.out.cell (World.block_lt_of_cell? w _ hw444_1)).trans hw444_1)⟩ (fun hHeld => ?_); refine with_tabW spec_Advance.tab10 spec_Advance.bits10 (fun HT_ HW_ => ?_)
          generalize w48.drew = w49 at HO_8 HO_436001 BK428 BK429 BK435 HB hx444_0 hx444_1 hHeld ⊢
          refine pure_ (i := 0) (N := some 57) (v := ?_) (a' := ?_) #[true, false, false, false, false, false, false, false, false, false, false] rfl rfl (any_of HT_.out (by kernel_rfl)) (fun _ _ _ h => h) (Or.inl ⟨by rfl, ?_⟩) ?_ ?_
          rotate_left
          ·intro w'
           go_simp
           with_reducible rfl
          rotate_left
          ·simp only [Act.put, List.setIfInBounds_toArray, List.set_cons_zero, List.set_cons_succ, i64_w, i32_w]
           rfl
          refine pure_ (i := 2) (N := some 59) (v := ?_) (a' := ?_) #[true, false, true, false, false, false, false, false, false, false, false] rfl rfl (any_of HT_.out (by kernel_rfl)) (fun _ _ _ h => h) (Or.inl ⟨by rfl, ?_⟩) ?_ ?_
          rotate_left
          ·intro w'
           go_simp
           with_reducible rfl
          rotate_left
          ·simp only [Act.put, List.setIfInBounds_toArray, List.set_cons_zero, List.set_cons_succ, i64_w, i32_w]
           rfl
          refine pure_ (i := 4) (N := some 61) (v := ?_) (a' := ?_) #[true, false, true, false, true, false, false, false, false, false, false] rfl rfl (any_of HT_.out (by kernel_rfl)) (fun _ _ _ h => h) (Or.inl ⟨by rfl, ?_⟩) ?_ ?_
          rotate_left
          ·intro w'
           go_simp
           with_reducible rfl
          rotate_left
          ·simp only [Act.put, List.setIfInBounds_toArray, List.set_cons_zero, List.set_cons_succ, i64_w, i32_w]
           rfl
          refine take_ (i := 1) (N := some 58) (v := ?_) (a' := ?_) #[true, true, true, false, true, false, false, false, false, false, false] rfl rfl (take_ofW HT_.out HW_.out (by kernel_rfl)) (fun _ _ _ h => h) (Or.inl ⟨by rfl, ?_⟩) hHeld ?_ ?_
          rotate_left
          ·rintro w' ⟨s0, s1, s2, s3, s4, s5⟩
           go_simp
           with_reducible rfl
          rotate_left
          ·simp only [Act.put, List.setIfInBounds_toArray, List.set_cons_zero, List.set_cons_succ, i64_w, i32_w]
           rfl
          refine take_ (i := 3) (N := some 60) (v := ?_) (a' := ?_) #[true, true, true, true, true, false, false, false, false, false, false] rfl rfl (take_ofW HT_.out HW_.out (by kernel_rfl)) (fun _ _ _ h => h) (Or.inl ⟨by rfl, ?_⟩) hHeld ?_ ?_
          rotate_left
          ·rintro w' ⟨s0, s1, s2, s3, s4, s5⟩
           go_simp
           with_reducible rfl
          rotate_left
          ·simp only [Act.put, List.setIfInBounds_toArray, List.set_cons_zero, List.set_cons_succ, i64_w, i32_w]
           rfl
          refine pure_ (i := 5) (N := some 62) (v := ?_) (a' := ?_) #[true, true, true, true, true, true, false, false, false, false, false] rfl rfl (any_of HT_.out (by kernel_rfl)) (fun _ _ _ h => h) (Or.inl ⟨by rfl, ?_⟩) ?_ ?_
          rotate_left
          ·intro w'
           go_simp
           with_reducible rfl
          rotate_left
          ·simp only [Act.put, List.setIfInBounds_toArray, List.set_cons_zero, List.set_cons_succ, i64_w, i32_w]
           rfl
          refine take_ (i := 6) (N := some 63) (v := ?_) (a' := ?_) #[true, true, true, true, true, true, true, false, false, false, false] rfl rfl (take_ofW HT_.out HW_.out (by kernel_rfl)) (fun _ _ _ h => h) (Or.inl ⟨by rfl, ?_⟩) hHeld ?_ ?_
          rotate_left
          ·rintro w' ⟨s0, s1, s2, s3, s4, s5⟩
           go_simp
           with_reducible rfl
          rotate_left
          ·simp only [Act.put, List.setIfInBounds_toArray, List.set_cons_zero, List.set_cons_succ, i64_w, i32_w]
           rfl
          refine one_ (i := 7) (N := some 64) #[true, true, true, true, true, true, true, true, false, false, false] rfl rfl (one_of HT_.out (by kernel_rfl)) (by decide) (fun K hK => ?_)
          refine value_ (w1 := ?_) (v := ?_) (by rfl) rfl ?_ ?_
          rotate_left 2
          ·go_simp
           constructor
           ·rfl
           ·rfl
          refine hK.out _ _ ⟨(blk_cell (blk_alloc BK435.out _) 0).trans rfl, (blk_cell (blk_alloc BK435.out _) 1).trans rfl, (blk_cell (blk_alloc BK428.out _) 0).trans rfl, (blk_cell (blk_alloc BK428.out _) 1).trans rfl, (World.cell?_alloc_lt _ _ _ (World.block_lt_of_cell? _ _ (((HB.out.cell (World.block_lt_of_cell? w _ hw444_0)).trans hw444_0)))).trans (((HB.out.cell (World.block_lt_of_cell? w _ hw444_0)).trans hw444_0)), (World.cell?_alloc_lt _ _ _ (World.block_lt_of_cell? _ _ (((HB.out.cell (World.block_lt_of_cell? w _ hw444_1)).trans hw444_1)))).trans (((HB.out.cell (World.block_lt_of_cell? w _ hw444_1)).trans hw444_1))⟩ (fun hHeld => ?_)
          clear hK K
          refine norm_ (a' := ?_) ?_ ?_
          rotate_left
          ·show Act.put _ (some 64) _ = _
           simp only [Act.put, List.setIfInBounds_toArray, List.set_cons_zero, List.set_cons_succ, i64_w, i32_w]
           rfl
          refine one_ (i := 8) (N := some 65) #[true, true, true, true, true, true, true, true, true, false, false] rfl rfl (one_of HT_.out (by kernel_rfl)) (by decide) (fun K hK => ?_)
          refine Kd.R_append_step k46 (w0 := w) w.heap.size (by rfl) (.tmp 58) (.tmp 64) 27 46 (.agg #[(.int .i64 0), (.int .i64 0)]) 16 rfl Try.underlying27 info46 rfl (by decide) (by omega) u436001 x436001_2 (⟨(rd_T46 l0_1 x9_2).f0, (rd_T46 l0_1 x9_2).f1⟩ : S46) [.int .i64 ((rd_T46 l0_1 x9_2).f0), .int .i64 ((rd_T46 l0_1 x9_2).f1)] (fun _ => True) (fun _ => False) rfl rfl ?aP (fun _ hk => hk.elim) ?aF ?aO ?aB ?aS ?aL ?_
          (case aP => exact k46_mkM _ _ _ (⟨(rd_T46 l0_1 x9_2).f0, (rd_T46 l0_1 x9_2).f1⟩ : S46))
          (case aB => exact (pkW HB.out))
          (case aF => exact (fun _ _ => trivial))
          (case aO => exact (pkR HO_436001.out))
          (case aS => exact (below_size (pkW HB.out)))
          (case aL => have := LMc44.out; omega)
          intro v446 w50 ho hb hg hat
          rw [← Ny445.out] at ho
          replace HO_8 := am (Kd.R_over' (pkR HO_8.out) (Kd.R_typed (pkR HO_436001.out)) (by decide) hg)
          replace BK428 := am (blk_grown (g := gb428) (o := .cells #[.int .i64 a0_0, .slice (some ad439) l0_1.length c0_1] 29 (0, 0)) (pkK BK428.out) hg (Kd.R_ne HO_436001.out BK428.out (by decide)))
          replace BK429 := am (blk_grown (g := gb429) (o := .cells #[.int .i64 0, .slice none 0 0] 29 (0, 0)) (pkK BK429.out) hg (Kd.R_ne HO_436001.out BK429.out (by decide)))
          replace BK435 := am (blk_grown (g := gb435) (o := .cells #[.int .i64 (wrap64 (a0_0 + a1)), u436001] 29 (0, 0)) (pkK BK435.out) hg (Kd.R_ne HO_436001.out BK435.out (by decide)))
          replace HB := am (hb)
          have HO447 := am (ho)
          clear HO_436001 ho hb hg hat
          obtain ⟨Ao51, co51, eo51⟩ := Kd.R_slice HO447.out
          (first | subst eo51 | (injection eo51 with f1_ f2_ f3_; have f4_ := f1_.symm; have f5_ := f3_.symm; clear f1_ f2_ f3_; subst f4_; subst f5_))
          refine hK.out _ _ ⟨(blk_cell BK435.out 0).trans rfl, (blk_cell BK435.out 1).trans rfl, (blk_cell BK428.out 0).trans rfl, (blk_cell BK428.out 1).trans rfl, ((HB.out.cell (World.block_lt_of_cell? w _ hw444_0)).trans hw444_0), ((HB.out.cell (World.block_lt_of_cell? w _ hw444_1)).trans hw444_1)⟩ (fun hHeld => ?_)
          clear hK K
          refine norm_ (a' := ?_) ?_ ?_
          rotate_left
          ·show Act.put _ (some 65) _ = _
           simp only [Act.put, List.setIfInBounds_toArray, List.set_cons_zero, List.set_cons_succ, i64_w, i32_w]
           rfl
          refine pure_ (i := 9) (N := some 66) (v := ?_) (a' := ?_) #[true, true, true, true, true, true, true, true, true, true, false] rfl rfl (any_of HT_.out (by kernel_rfl)) (fun _ _ _ h => h) (Or.inl ⟨by rfl, ?_⟩) ?_ ?_
          rotate_left
          ·intro w'
           go_simp
           with_reducible rfl
          rotate_left
          ·simp only [Act.put, List.setIfInBounds_toArray, List.set_cons_zero, List.set_cons_succ, i64_w, i32_w]
           rfl
          refine last_ (i := 10) (N := none) #[true, true, true, true, true, true, true, true, true, true, true] rfl rfl (one_of HT_.out (by kernel_rfl)) (by decide) (fun K hK => ?_)
          have hs52 : w50.cell? ⟨gb435, 1, none⟩ = some (u436001) := (blk_cell BK435.out 1).trans rfl
          have hfs52 := blk_frozen BK435.out 1
          have hns52_0 := NB428_435.out
          have hns52_1 := NB429_435.out
          have hms52_0 := NB435_428.out
          have hms52_1 := NB435_429.out
          refine skip_ (w1 := ?_) (by rfl) rfl ?_ ?_
          rotate_left
          ·go_simp
           rfl
          refine hK.out _ _ ?_
          clear hK K
          refine done_ (done_of HT_.out (by kernel_rfl)) ?_
          try go_wp2
          go_roundg k2
          case measure => have := HJ2.out; have := HK2.out; omega
          case rel => exact ⟨(x8_2), (wrap64 (x9_2 + 1)), (y445), (.slice Ao51 y445.length co51), rfx, H', ⟨by have := HJ2.out; have := HK2.out; omega⟩, ⟨by (with_reducible repeat (first | apply Kd.R_alloc | apply Kd.R_drewN | apply Kd.R_drew)); exact Kd.R_mono (Kd.R_far (p := ⟨gb435, 1, none⟩) (Kd.R_types HO_8.out BK435.out (by decide)) (fun _ hk => hk.2) (.slice Ao51 y445.length co51)) (fun _ hk => trivial)⟩, ⟨by (with_reducible repeat (first | apply Kd.R_alloc | apply Kd.R_drewN | apply Kd.R_drew)); exact Kd.R_mono (Kd.R_far (p := ⟨gb435, 1, none⟩) (Kd.R_types HO447.out BK435.out (by decide)) (fun _ hk => hk.2) (.slice Ao51 y445.length co51)) (fun _ hk => trivial)⟩, ⟨by (with_reducible repeat (first | refine blk_drewN ?_ _ | refine blk_drew ?_ | refine blk_alloc ?_ _)); refine blk_far ?_ NB428_435.out _; exact pkK BK428.out⟩, ⟨by (with_reducible repeat (first | refine blk_drewN ?_ _ | refine blk_drew ?_ | refine blk_alloc ?_ _)); refine blk_far ?_ NB429_435.out _; exact pkK BK429.out⟩, ⟨by (with_reducible repeat (first | refine blk_drewN ?_ _ | refine blk_drew ?_ | refine blk_alloc ?_ _)); refine blk_put (cs := #[.int .i64 (wrap64 (a0_0 + a1)), u436001]) ?_ 1 _ rfl; exact pkK BK435.out⟩, ⟨pkW HB.out⟩⟩
         ·rw [if_neg c44] at H
          exact absurd H (by simp)
       ·rw [if_neg c35] at H
        exact absurd H (by simp)
      ·rw [if_neg c34] at H
       have c34b0 : decide (x9_2 < (l0_1.length : Int)) = false := decide_eq_false c34
       clear c34
       simp only [Option.some.injEq, Prod.mk.injEq] at H
       obtain ⟨rfl, rfl, rfl, rfl⟩ := H
       have hnb53 := NB428_429.out
       have hnc53 := NB429_428.out
       have hnb54 := NB428_435.out
       have hnc54 := NB435_428.out
       obtain ⟨hcz55_0, hcz55_1, hfz55_0, hfz55_1⟩ := bk2 BK428.out
       have hnb56 := NB435_429.out
       have hnc56 := NB429_435.out
       obtain ⟨hcz57_0, hcz57_1, hfz57_0, hfz57_1⟩ := bk2 BK435.out
       obtain ⟨hcz58_0, hcz58_1, hfz58_0, hfz58_1⟩ := bk2 BK429.out
       obtain ⟨Ao59, co59, eo59⟩ := Kd.R_slice HO_436001.out
       subst eo59
       go_wp2
       refine bodyPost_ret (results_ctt rfl _ _ gb429 29 #[.int .i64 (wrap64 (a0_0 + a1)), .slice Ao59 x436001_2.length co59] (0, 0) _ rfl (by (with_reducible repeat (first | refine blk_drewN ?_ _ | refine blk_drew ?_ | refine blk_alloc ?_ _)); refine blk_put (cs := #[.int .i64 (wrap64 (a0_0 + a1)), .slice none 0 0]) ?_ 1 _ rfl; (with_reducible repeat (first | refine blk_drewN ?_ _ | refine blk_drew ?_ | refine blk_alloc ?_ _)); refine blk_put (cs := #[.int .i64 0, .slice none 0 0]) ?_ 0 _ rfl; exact pkK BK429.out) Try.underlying29 rfl (by kernel_rfl)) rfl ?_
       exact ⟨_, _, rfe, by (with_reducible repeat (first | apply Kd.R_alloc | apply Kd.R_drewN | apply Kd.R_drew)); exact Kd.R_mono (Kd.R_far (p := ⟨gb429, 1, none⟩) (Kd.R_far (p := ⟨gb429, 0, none⟩) (Kd.R_types HO_436001.out BK429.out (by decide)) (fun _ hk => hk.2) (.int .i64 (wrap64 (a0_0 + a1)))) (fun _ hk => hk.2) (.slice Ao59 x436001_2.length co59)) (fun _ hk => trivial), by (with_reducible repeat (first | apply Kd.R_alloc | apply Kd.R_drewN | apply Kd.R_drew)); exact Kd.R_mono (Kd.R_far (p := ⟨gb429, 1, none⟩) (Kd.R_far (p := ⟨gb429, 0, none⟩) (Kd.R_types HO_8.out BK429.out (by decide)) (fun _ hk => hk.2) (.int .i64 (wrap64 (a0_0 + a1)))) (fun _ hk => hk.2) (.slice Ao59 x436001_2.length co59)) (fun _ hk => trivial), pkW HB.out⟩
end Go.Proofs.Ytfgjfheiekhmlaa.Z
