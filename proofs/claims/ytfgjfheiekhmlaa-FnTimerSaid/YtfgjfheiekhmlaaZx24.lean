/- The Go functions spec_l15Clock as Lean functions, each with a proof that its code comes to just these answers; conditions: those of each theorem. -/
import Derived.Test.YtfgjfheiekhmlaaZx0
import Derived.Test.YtfgjfheiekhmlaaZx1
namespace Go.Proofs.Ytfgjfheiekhmlaa.Z
open Go.RowKit Go.Proofs.YtfgjfheiekhmlaaW.PrintWords Go.Proofs.YtfgjfheiekhmlaaW.PrintLast Go.Proofs.YtfgjfheiekhmlaaW.PrintMore
attribute [local go_sem] max2_int min2_int max_two min_two max_three min_three max_four min_four   -- for this text's walks alone
set_option linter.unusedVariables false
set_option linter.unusedSimpArgs false
attribute [local go_sem high] eqA46
mutual
def spec_l15Clock.j0 : Nat → Bool → Int → List (S46) → Int → List (S46) → Option (Bool)
 | 0, _, _, _, _, _ => none
 | k + 1, x19, x451000, x451001, x452000, x452001 => if x19 = true then (some false) else (spec_l15Clock.l0 k 0 x451000 x451001 x452000 x452001)
def spec_l15Clock.l0 : Nat → Int → Int → List (S46) → Int → List (S46) → Option (Bool)
 | 0, _, _, _, _, _ => none
 | k + 1, x5, x451000, x451001, x452000, x452001 => if x5 < (x451001.length : Int) then (if 0 ≤ x5 then (if x5 < (x452001.length : Int) then (if (!(((rd_T46 x451001 x5).f0) == ((rd_T46 x452001 x5).f0)) || (!(((rd_T46 x451001 x5).f1) == ((rd_T46 x452001 x5).f1)))) = true then (some false) else (spec_l15Clock.l0 k (wrap64 (x5 + 1)) x451000 x451001 x452000 x452001)) else (none)) else (none)) else (some true)
end
def spec_l15Clock.f (k : Nat) (a0_0 : Int) (l0_1 : List (S46)) (a1_0 : Int) (l1_1 : List (S46)) : Option (Bool) := if a0_0 = a1_0 then (spec_l15Clock.j0 k ((l0_1.length : Int) != (l1_1.length : Int)) a0_0 l0_1 a1_0 l1_1) else (spec_l15Clock.j0 k true a0_0 l0_1 a1_0 l1_1)
theorem spec_l15Clock.mono_l : ∀ k, (∀ y0 y1 y2 y3 y4, LeO (spec_l15Clock.j0 k y0 y1 y2 y3 y4) (spec_l15Clock.j0 (k + 1) y0 y1 y2 y3 y4)) ∧ (∀ y0 y1 y2 y3 y4, LeO (spec_l15Clock.l0 k y0 y1 y2 y3 y4) (spec_l15Clock.l0 (k + 1) y0 y1 y2 y3 y4))
 | 0 => ⟨fun _ _ _ _ _ r h => by simp [spec_l15Clock.j0] at h, fun _ _ _ _ _ r h => by simp [spec_l15Clock.l0] at h⟩
 | k + 1 => by
  obtain ⟨ih0, ih1⟩ := spec_l15Clock.mono_l k
  refine ⟨?_, ?_⟩
  ·intro y0 y1 y2 y3 y4
   unfold spec_l15Clock.j0
   repeat' first
   | (with_reducible exact ih0 _ _ _ _ _)
   | (with_reducible exact ih1 _ _ _ _ _)
   | (with_reducible exact LeO.refl _)
   | (with_reducible exact LeO.none _)
   | (with_reducible refine LeO.ite ?_ ?_)
   | (with_reducible refine LeO.bind ?_ (fun _ => ?_))
  ·intro y0 y1 y2 y3 y4
   unfold spec_l15Clock.l0
   repeat' first
   | (with_reducible exact ih0 _ _ _ _ _)
   | (with_reducible exact ih1 _ _ _ _ _)
   | (with_reducible exact LeO.refl _)
   | (with_reducible exact LeO.none _)
   | (with_reducible refine LeO.ite ?_ ?_)
   | (with_reducible refine LeO.bind ?_ (fun _ => ?_))
theorem spec_l15Clock.mono : ∀ a0 a1 a2 a3 k, LeO (spec_l15Clock.f k a0 a1 a2 a3) (spec_l15Clock.f (k + 1) a0 a1 a2 a3) := by
 intro a0 a1 a2 a3 k
 obtain ⟨ih0, ih1⟩ := spec_l15Clock.mono_l k
 unfold spec_l15Clock.f
 repeat' first
   | (with_reducible exact ih0 _ _ _ _ _)
   | (with_reducible exact ih1 _ _ _ _ _)
   | (with_reducible exact LeO.refl _)
   | (with_reducible exact LeO.none _)
   | (with_reducible refine LeO.ite ?_ ?_)
   | (with_reducible refine LeO.bind ?_ (fun _ => ?_))
set_option maxHeartbeats 8000000 in
set_option maxRecDepth 100000 in
theorem spec_l15Clock.calls (k : Nat) (a0_0 : Int) (A0_1 : Option Addr) (c0_1 : Nat) (l0_1 : List (S46)) (a1_0 : Int) (A1_1 : Option Addr) (c1_1 : Nat) (l1_1 : List (S46)) (r : Bool) (w : World) (hr0_1 : Kd.C k46 w A0_1 l0_1.length l0_1) (hc0_1 : l0_1.length ≤ c0_1) (hr1_1 : Kd.C k46 w A1_1 l1_1.length l1_1) (hc1_1 : l1_1.length ≤ c1_1) (h : spec_l15Clock.f k a0_0 l0_1 a1_0 l1_1 = some r) :
  Calls Try.prog 46 #[.agg #[.int .i64 a0_0, .slice A0_1 l0_1.length c0_1], .agg #[.int .i64 a1_0, .slice A1_1 l1_1.length c1_1]] w fun e w' => e = .returned (.bool r) ∧ Below w.heap.size w w' := by
 have hu29 := Try.underlying29
 have hu46 := Try.underlying46
 have HR0_1 := am hr0_1
 have HC0_1 := am hc0_1
 clear hr0_1 hc0_1
 have HR1_1 := am hr1_1
 have HC1_1 := am hc1_1
 clear hr1_1 hc1_1
 have HB := am (Below.refl w.heap.size w)
 have H : (if a0_0 = a1_0 then (spec_l15Clock.j0 k ((l0_1.length : Int) != (l1_1.length : Int)) a0_0 l0_1 a1_0 l1_1) else (spec_l15Clock.j0 k true a0_0 l0_1 a1_0 l1_1)) = some r := h
 clear h
 have HC3 := am H
 clear H
 go_enter Try.func46, Try.ntmps46
 go_upto_region 1 with (first | ((with_reducible refine gate_dst (N := 2) rfl ?_); (try (refine gate_guard (by rfl) ?_; dsimp only)); refine box_event ?hg (N := 2) ?hd (cs := #[.int .i64 a0_0, .slice A0_1 l0_1.length c0_1]) (t := 29) ?hr ?_; (case hd => rfl); (case hg => rfl); (case hr => first | (go_simp; done) | (go_simp; rfl)); intro gb450 hg w4 hbox hb; have BK450 := am (hbox); have GW450 := am ((by rw [hg]; exact (below_size (pkB HB.out)) : w.heap.size ≤ gb450)); have GE450 := am ((by rw [hg]; exact (below_size (pkB HB.out)) : w.heap.size ≤ gb450)); replace HB := am (below_step (pkB HB.out) hb); clear hb hbox hg) | ((with_reducible refine gate_dst (N := 3) rfl ?_); (try (refine gate_guard (by rfl) ?_; dsimp only)); refine box_event ?hg (N := 3) ?hd (cs := #[.int .i64 a1_0, .slice A1_1 l1_1.length c1_1]) (t := 29) ?hr ?_; (case hd => rfl); (case hg => rfl); (case hr => first | (go_simp; done) | (go_simp; rfl)); intro gb451 hg w5 hbox hb; have BK451 := am (hbox); have GW451 := am ((by rw [hg]; exact (below_size (pkW HB.out)) : w.heap.size ≤ gb451)); have GE451 := am ((by rw [hg]; exact (below_size (pkW HB.out)) : w.heap.size ≤ gb451)); replace HB := am (below_step (pkW HB.out) hb); have NB450_451 := am ((by rw [hg]; exact Nat.ne_of_lt (blk_lt (g := gb450) (o := .cells #[.int .i64 a0_0, .slice A0_1 l0_1.length c0_1] 29 (0, 0)) (pkK BK450.out)) : gb450 ≠ gb451)); have NB451_450 := am ((by rw [hg]; exact Nat.ne_of_gt (blk_lt (g := gb450) (o := .cells #[.int .i64 a0_0, .slice A0_1 l0_1.length c0_1] 29 (0, 0)) (pkK BK450.out)) : gb451 ≠ gb450)); replace BK450 := am (blk_below (pkK BK450.out) hb); clear hb hbox hg))
 repeat (go_quiet (first | ((with_reducible refine gate_dst (N := 2) rfl ?_); (try (refine gate_guard (by rfl) ?_; dsimp only)); refine box_event ?hg (N := 2) ?hd (cs := #[.int .i64 a0_0, .slice A0_1 l0_1.length c0_1]) (t := 29) ?hr ?_; (case hd => rfl); (case hg => rfl); (case hr => first | (go_simp; done) | (go_simp; rfl)); intro gb450 hg w4 hbox hb; have BK450 := am (hbox); have GW450 := am ((by rw [hg]; exact (below_size (pkB HB.out)) : w.heap.size ≤ gb450)); have GE450 := am ((by rw [hg]; exact (below_size (pkB HB.out)) : w.heap.size ≤ gb450)); replace HB := am (below_step (pkB HB.out) hb); clear hb hbox hg) | ((with_reducible refine gate_dst (N := 3) rfl ?_); (try (refine gate_guard (by rfl) ?_; dsimp only)); refine box_event ?hg (N := 3) ?hd (cs := #[.int .i64 a1_0, .slice A1_1 l1_1.length c1_1]) (t := 29) ?hr ?_; (case hd => rfl); (case hg => rfl); (case hr => first | (go_simp; done) | (go_simp; rfl)); intro gb451 hg w5 hbox hb; have BK451 := am (hbox); have GW451 := am ((by rw [hg]; exact (below_size (pkW HB.out)) : w.heap.size ≤ gb451)); have GE451 := am ((by rw [hg]; exact (below_size (pkW HB.out)) : w.heap.size ≤ gb451)); replace HB := am (below_step (pkW HB.out) hb); have NB450_451 := am ((by rw [hg]; exact Nat.ne_of_lt (blk_lt (g := gb450) (o := .cells #[.int .i64 a0_0, .slice A0_1 l0_1.length c0_1] 29 (0, 0)) (pkK BK450.out)) : gb450 ≠ gb451)); have NB451_450 := am ((by rw [hg]; exact Nat.ne_of_gt (blk_lt (g := gb450) (o := .cells #[.int .i64 a0_0, .slice A0_1 l0_1.length c0_1] 29 (0, 0)) (pkK BK450.out)) : gb451 ≠ gb450)); replace BK450 := am (blk_below (pkK BK450.out) hb); clear hb hbox hg)); go_upto_region 1 with (first | ((with_reducible refine gate_dst (N := 2) rfl ?_); (try (refine gate_guard (by rfl) ?_; dsimp only)); refine box_event ?hg (N := 2) ?hd (cs := #[.int .i64 a0_0, .slice A0_1 l0_1.length c0_1]) (t := 29) ?hr ?_; (case hd => rfl); (case hg => rfl); (case hr => first | (go_simp; done) | (go_simp; rfl)); intro gb450 hg w4 hbox hb; have BK450 := am (hbox); have GW450 := am ((by rw [hg]; exact (below_size (pkB HB.out)) : w.heap.size ≤ gb450)); have GE450 := am ((by rw [hg]; exact (below_size (pkB HB.out)) : w.heap.size ≤ gb450)); replace HB := am (below_step (pkB HB.out) hb); clear hb hbox hg) | ((with_reducible refine gate_dst (N := 3) rfl ?_); (try (refine gate_guard (by rfl) ?_; dsimp only)); refine box_event ?hg (N := 3) ?hd (cs := #[.int .i64 a1_0, .slice A1_1 l1_1.length c1_1]) (t := 29) ?hr ?_; (case hd => rfl); (case hg => rfl); (case hr => first | (go_simp; done) | (go_simp; rfl)); intro gb451 hg w5 hbox hb; have BK451 := am (hbox); have GW451 := am ((by rw [hg]; exact (below_size (pkW HB.out)) : w.heap.size ≤ gb451)); have GE451 := am ((by rw [hg]; exact (below_size (pkW HB.out)) : w.heap.size ≤ gb451)); replace HB := am (below_step (pkW HB.out) hb); have NB450_451 := am ((by rw [hg]; exact Nat.ne_of_lt (blk_lt (g := gb450) (o := .cells #[.int .i64 a0_0, .slice A0_1 l0_1.length c0_1] 29 (0, 0)) (pkK BK450.out)) : gb450 ≠ gb451)); have NB451_450 := am ((by rw [hg]; exact Nat.ne_of_gt (blk_lt (g := gb450) (o := .cells #[.int .i64 a0_0, .slice A0_1 l0_1.length c0_1] 29 (0, 0)) (pkK BK450.out)) : gb451 ≠ gb450)); replace BK450 := am (blk_below (pkK BK450.out) hb); clear hb hbox hg)))
 (try simp only [Act.put, List.setIfInBounds_toArray, List.set_cons_zero, List.set_cons_succ])
 go_cut [19] (fun v19 wc => ∃ (kq : Nat) (x19_2 : Bool), v19 = .bool x19_2 ∧ Aside0 (spec_l15Clock.j0 kq x19_2 a0_0 l0_1 a1_0 l1_1 = some r) ∧ Aside0 (kq ≤ k) ∧ Aside0 (wc.heap[gb450]? = some (.cells #[.int .i64 a0_0, (.slice A0_1 l0_1.length c0_1)] 29 (0, 0))) ∧ Aside0 (wc.heap[gb451]? = some (.cells #[.int .i64 a1_0, (.slice A1_1 l1_1.length c1_1)] 29 (0, 0))) ∧ Aside0 (Below w.heap.size w wc))
 case first =>
  have H := HC3.out
  clear HC3
  by_cases c6 : a0_0 = a1_0
  ·rw [if_pos c6] at H
   have c6b0 : (a0_0 == a1_0) = true := beq_iff_eq.mpr c6
   have c6b1 : (a0_0 != a1_0) = false := bne_eq_false_iff_eq.mpr c6
   clear c6
   (first | rw [c6b0] | (simp only [i64_w, i32_w]; rw [c6b0]) | skip)
   have H' := am H
   clear H
   have hnb7 := NB450_451.out
   have hnc7 := NB451_450.out
   obtain ⟨hcz8_0, hcz8_1, hfz8_0, hfz8_1⟩ := bk2 BK450.out
   obtain ⟨hcz9_0, hcz9_1, hfz9_0, hfz9_1⟩ := bk2 BK451.out
   go_wp2
   repeat (go_quiet (fail); try go_wp2)
   go_meet
   case rel => exact ⟨_, (((l0_1.length : Int) != (l1_1.length : Int))), rfx, H', ⟨by first | omega | exact Nat.le_refl _⟩, ⟨pkK BK450.out⟩, ⟨pkK BK451.out⟩, ⟨pkW HB.out⟩⟩
  ·rw [if_neg c6] at H
   have c6b0 : (a0_0 == a1_0) = false := beq_eq_false_iff_ne.mpr c6
   have c6b1 : (a0_0 != a1_0) = true := bne_iff_ne.mpr c6
   (first | rw [c6b0] | (simp only [i64_w, i32_w]; rw [c6b0]) | skip)
   have H' := am H
   clear H
   have hnb10 := NB450_451.out
   have hnc10 := NB451_450.out
   obtain ⟨hcz11_0, hcz11_1, hfz11_0, hfz11_1⟩ := bk2 BK450.out
   obtain ⟨hcz12_0, hcz12_1, hfz12_0, hfz12_1⟩ := bk2 BK451.out
   go_wp2
   repeat (go_quiet (fail); try go_wp2)
   go_meet
   case rel => exact ⟨_, (true), rfx, H', ⟨by first | omega | exact Nat.le_refl _⟩, ⟨pkK BK450.out⟩, ⟨pkK BK451.out⟩, ⟨pkW HB.out⟩⟩
 case rest =>
  clear HC3
  try clear c1
  try clear p2
  try clear c4
  try clear c6
  try clear c6b0
  try clear c6b1
  try clear c7
  try clear c10
  try clear hcz11_0
  try clear hcz11_1
  try clear hcz12_0
  try clear hcz12_1
  try clear hcz8_0
  try clear hcz8_1
  try clear hcz9_0
  try clear hcz9_1
  try clear hfz11_0
  try clear hfz11_1
  try clear hfz12_0
  try clear hfz12_1
  try clear hfz8_0
  try clear hfz8_1
  try clear hfz9_0
  try clear hfz9_1
  obtain ⟨kq, x19_2, rfl, HA, HJ2, BK450, BK451, HB⟩ := hcut
  cases kq with
  | zero => exact absurd HA.out (by simp [spec_l15Clock.j0])
  | succ kj2 =>
   have H := HA.out
   clear HA
   simp only [spec_l15Clock.j0] at H
   by_cases c13 : x19_2 = true
   ·subst c13
    replace H : (some false) = some r := by rw [if_pos rfl] at H; exact H
    obtain rfl := Option.some.inj H
    go_wp2
    repeat (go_quiet (fail); try go_wp2)
    go_ret
    exact ⟨rfe, pkW HB.out⟩
   ·replace c13 := Bool.eq_false_iff.mpr c13
    subst c13
    replace H : (spec_l15Clock.l0 kj2 0 a0_0 l0_1 a1_0 l1_1) = some r := by rw [if_neg (show ¬ (false = true) by decide)] at H; exact H
    have H' := am H
    clear H
    go_wp2
    repeat (go_quiet (fail); try go_wp2)
    go_loopg [5] kj2 (fun kq v5 w' => ∃ (x5_2 : Int), v5 = .int .i64 x5_2 ∧ Aside0 (spec_l15Clock.l0 kq x5_2 a0_0 l0_1 a1_0 l1_1 = some r) ∧ Aside0 (kq ≤ kj2) ∧ Aside0 (w'.heap[gb450]? = some (.cells #[.int .i64 a0_0, (.slice A0_1 l0_1.length c0_1)] 29 (0, 0))) ∧ Aside0 (w'.heap[gb451]? = some (.cells #[.int .i64 a1_0, (.slice A1_1 l1_1.length c1_1)] 29 (0, 0))) ∧ Aside0 (Below w.heap.size w w'))
    case atStart => exact ⟨(0), rfx, H', ⟨Nat.le_refl _⟩, ⟨pkK BK450.out⟩, ⟨pkK BK451.out⟩, ⟨pkW HB.out⟩⟩
    case round =>
     clear H'
     try clear c1
     try clear p2
     try clear c4
     try clear c6
     try clear c6b0
     try clear c6b1
     try clear c7
     try clear c10
     try clear c13
     try clear hcz11_0
     try clear hcz11_1
     try clear hcz12_0
     try clear hcz12_1
     try clear hcz8_0
     try clear hcz8_1
     try clear hcz9_0
     try clear hcz9_1
     try clear hfz11_0
     try clear hfz11_1
     try clear hfz12_0
     try clear hfz12_1
     try clear hfz8_0
     try clear hfz8_1
     try clear hfz9_0
     try clear hfz9_1
     try clear p2
     obtain ⟨x5_2, rfl, HA, HK2, BK450, BK451, HB⟩ := hrel
     cases gk with
     | zero => exact absurd HA.out (by simp [spec_l15Clock.l0])
     | succ k2 =>
      have H := HA.out
      clear HA
      simp only [spec_l15Clock.l0] at H
      by_cases c14 : x5_2 < (l0_1.length : Int)
      ·rw [if_pos c14] at H
       have c14b0 : decide (x5_2 < (l0_1.length : Int)) = true := decide_eq_true c14
       clear c14
       by_cases c15 : 0 ≤ x5_2
       ·rw [if_pos c15] at H
        have c15b0 : decide (0 ≤ x5_2) = true := decide_eq_true c15
        clear c15
        by_cases c16 : x5_2 < (l1_1.length : Int)
        ·rw [if_pos c16] at H
         have c16b0 : decide (x5_2 < (l1_1.length : Int)) = true := decide_eq_true c16
         clear c16
         by_cases c17 : (!(((rd_T46 l0_1 x5_2).f0) == ((rd_T46 l1_1 x5_2).f0)) || (!(((rd_T46 l0_1 x5_2).f1) == ((rd_T46 l1_1 x5_2).f1)))) = true
         ·rw [if_pos c17] at H
          have c17b0 : (!(((rd_T46 l0_1 x5_2).f0) == ((rd_T46 l1_1 x5_2).f0)) || (!(((rd_T46 l0_1 x5_2).f1) == ((rd_T46 l1_1 x5_2).f1)))) = true := c17
          clear c17
          obtain rfl := Option.some.inj H
          have hnb18 := NB450_451.out
          have hnc18 := NB451_450.out
          obtain ⟨hcz19_0, hcz19_1, hfz19_0, hfz19_1⟩ := bk2 BK450.out
          have p452 : 0 ≤ (x5_2 : Int) := ofd
          have q452 : x5_2 < (l0_1.length : Int) := ofd
          obtain ⟨ad452, e452, hx452_0, hx452_1⟩ := at_T46 HR0_1.out x5_2 p452 q452
          cases e452
          replace hx452_0 := (HB.out.cell (World.block_lt_of_cell? w _ hx452_0)).trans hx452_0
          replace hx452_1 := (HB.out.cell (World.block_lt_of_cell? w _ hx452_1)).trans hx452_1
          replace p452 := eq_true p452
          replace q452 := eq_true q452
          obtain ⟨hcz20_0, hcz20_1, hfz20_0, hfz20_1⟩ := bk2 BK451.out
          have p453 : 0 ≤ (x5_2 : Int) := ofd
          have q453 : x5_2 < (l1_1.length : Int) := ofd
          obtain ⟨ad453, e453, hx453_0, hx453_1⟩ := at_T46 HR1_1.out x5_2 p453 q453
          cases e453
          replace hx453_0 := (HB.out.cell (World.block_lt_of_cell? w _ hx453_0)).trans hx453_0
          replace hx453_1 := (HB.out.cell (World.block_lt_of_cell? w _ hx453_1)).trans hx453_1
          replace p453 := eq_true p453
          replace q453 := eq_true q453
          go_wp2
          repeat (go_quiet (fail); try go_wp2)
          go_ret
          exact ⟨rfe, pkW HB.out⟩
         ·rw [if_neg c17] at H
          have c17b0 : (!(((rd_T46 l0_1 x5_2).f0) == ((rd_T46 l1_1 x5_2).f0)) || (!(((rd_T46 l0_1 x5_2).f1) == ((rd_T46 l1_1 x5_2).f1)))) = false := by simpa using c17
          clear c17
          have H' := am H
          clear H
          have hnb21 := NB450_451.out
          have hnc21 := NB451_450.out
          obtain ⟨hcz22_0, hcz22_1, hfz22_0, hfz22_1⟩ := bk2 BK450.out
          have p452 : 0 ≤ (x5_2 : Int) := ofd
          have q452 : x5_2 < (l0_1.length : Int) := ofd
          obtain ⟨ad452, e452, hx452_0, hx452_1⟩ := at_T46 HR0_1.out x5_2 p452 q452
          cases e452
          replace hx452_0 := (HB.out.cell (World.block_lt_of_cell? w _ hx452_0)).trans hx452_0
          replace hx452_1 := (HB.out.cell (World.block_lt_of_cell? w _ hx452_1)).trans hx452_1
          replace p452 := eq_true p452
          replace q452 := eq_true q452
          obtain ⟨hcz23_0, hcz23_1, hfz23_0, hfz23_1⟩ := bk2 BK451.out
          have p453 : 0 ≤ (x5_2 : Int) := ofd
          have q453 : x5_2 < (l1_1.length : Int) := ofd
          obtain ⟨ad453, e453, hx453_0, hx453_1⟩ := at_T46 HR1_1.out x5_2 p453 q453
          cases e453
          replace hx453_0 := (HB.out.cell (World.block_lt_of_cell? w _ hx453_0)).trans hx453_0
          replace hx453_1 := (HB.out.cell (World.block_lt_of_cell? w _ hx453_1)).trans hx453_1
          replace p453 := eq_true p453
          replace q453 := eq_true q453
          go_wp2
          repeat (go_quiet (fail); try go_wp2)
          go_roundg k2
          case measure => have := HJ2.out; have := HK2.out; omega
          case rel => exact ⟨(wrap64 (x5_2 + 1)), rfx, H', ⟨by have := HJ2.out; have := HK2.out; omega⟩, ⟨pkK BK450.out⟩, ⟨pkK BK451.out⟩, ⟨pkW HB.out⟩⟩
        ·rw [if_neg c16] at H
         exact absurd H (by simp)
       ·rw [if_neg c15] at H
        exact absurd H (by simp)
      ·rw [if_neg c14] at H
       have c14b0 : decide (x5_2 < (l0_1.length : Int)) = false := decide_eq_false c14
       clear c14
       obtain rfl := Option.some.inj H
       have hnb24 := NB450_451.out
       have hnc24 := NB451_450.out
       obtain ⟨hcz25_0, hcz25_1, hfz25_0, hfz25_1⟩ := bk2 BK450.out
       go_wp2
       repeat (go_quiet (fail); try go_wp2)
       go_ret
       exact ⟨rfe, pkW HB.out⟩
end Go.Proofs.Ytfgjfheiekhmlaa.Z
