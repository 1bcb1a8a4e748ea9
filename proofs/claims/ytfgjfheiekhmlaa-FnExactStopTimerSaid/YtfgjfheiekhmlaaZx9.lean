/- The Go functions spec_StopTimer as Lean functions, each with a proof that its code comes to just these answers; conditions: those of each theorem. -/
import Derived.Test.YtfgjfheiekhmlaaZx0
import Derived.Test.YtfgjfheiekhmlaaZx3
import Derived.Test.YtfgjfheiekhmlaaZx8
namespace Go.Proofs.Ytfgjfheiekhmlaa.Z
open Go.RowKit Go.Proofs.YtfgjfheiekhmlaaW.PrintWords Go.Proofs.YtfgjfheiekhmlaaW.PrintLast Go.Proofs.YtfgjfheiekhmlaaW.PrintMore
attribute [local go_sem] max2_int min2_int max_two min_two max_three min_three max_four min_four   -- for this text's walks alone
set_option linter.unusedVariables false
set_option linter.unusedSimpArgs false
def spec_StopTimer.l0 : Nat → Int → Int → Int → List (S46) → Int → List (S46) → Option (Int × (List (S46)) × Int)
 | 0, _, _, _, _, _, _ => none
 | k + 1, x1, x7, x166000, x166001, x173000, x173001 => if x7 < (x166001.length : Int) then (if 0 ≤ x7 then (if ((rd_T46 x166001 x7).f1) = x1 then (spec_StopTimer.l0 k x1 (wrap64 (x7 + 1)) x166000 x166001 x173000 x173001) else (if x173001.length < 8796093022208 then (spec_StopTimer.l0 k x1 (wrap64 (x7 + 1)) x166000 x166001 x173000 (x173001 ++ [(⟨(rd_T46 x166001 x7).f0, (rd_T46 x166001 x7).f1⟩ : S46)])) else (none))) else (none)) else (some (x173000, x173001, wrap64 ((x166001.length : Int) - (x173001.length : Int))))
def spec_StopTimer.f (k : Nat) (a0_0 : Int) (l0_1 : List (S46)) (a1 : Int) : Option (Int × (List (S46)) × Int) := (spec_ClockOk.f k a0_0 l0_1).bind fun t167 => (if t167 = true then (spec_StopTimer.l0 k a1 0 a0_0 l0_1 a0_0 ([] : List (S46))) else ((spec_l4Copy.f a0_0 l0_1).bind fun bt168 => (some (bt168.1, bt168.2, 0))))
theorem spec_StopTimer.mono_l : ∀ k, (∀ y0 y1 y2 y3 y4 y5, LeO (spec_StopTimer.l0 k y0 y1 y2 y3 y4 y5) (spec_StopTimer.l0 (k + 1) y0 y1 y2 y3 y4 y5))
 | 0 => fun _ _ _ _ _ _ r h => by simp [spec_StopTimer.l0] at h
 | k + 1 => by
  have ih0 := spec_StopTimer.mono_l k
  ·intro y0 y1 y2 y3 y4 y5
   unfold spec_StopTimer.l0
   repeat' first
   | (with_reducible exact ih0 _ _ _ _ _ _)
   | (with_reducible exact spec_ClockOk.mono _ _ _)
   | (with_reducible exact LeO.refl _)
   | (with_reducible exact LeO.none _)
   | (with_reducible refine LeO.ite ?_ ?_)
   | (with_reducible refine LeO.bind ?_ (fun _ => ?_))
theorem spec_StopTimer.mono : ∀ a0 a1 a2 k, LeO (spec_StopTimer.f k a0 a1 a2) (spec_StopTimer.f (k + 1) a0 a1 a2) := by
 intro a0 a1 a2 k
 have ih0 := spec_StopTimer.mono_l k
 unfold spec_StopTimer.f
 repeat' first
   | (with_reducible exact ih0 _ _ _ _ _ _)
   | (with_reducible exact spec_ClockOk.mono _ _ _)
   | (with_reducible exact LeO.refl _)
   | (with_reducible exact LeO.none _)
   | (with_reducible refine LeO.ite ?_ ?_)
   | (with_reducible refine LeO.bind ?_ (fun _ => ?_))
def spec_StopTimer.T8 : Bool × List (List Nat × List Nat) := (true, [([], []), ([0], [0]), ([], []), ([2], [2]), ([], []), ([3, 4], [3, 4]), ([5], [5]), ([6], [6]), ([1, 7], [1, 7]), ([0, 1, 2, 3, 4, 5, 6, 7, 8], []), ([9, 8, 8, 0, 1, 2, 3, 4, 5, 6, 7, 8], [8, 9])])
def spec_StopTimer.B8 : List Nat := [0, 1, 0, 4, 0, 28, 60, 124, 255, 511, 1023]
theorem spec_StopTimer.tab8 : rtab .any (opsOf Try.f14 8) = spec_StopTimer.T8 := by kernel_rfl
theorem spec_StopTimer.bits8 : waitsOk spec_StopTimer.T8.2 spec_StopTimer.B8 = true := by kernel_rfl
def spec_StopTimer.T9 : Bool × List (List Nat × List Nat) := (true, [([], []), ([], []), ([1], [1]), ([2], [2]), ([], []), ([4], [4]), ([5], [5]), ([3, 6], [3, 6]), ([0, 0], [0]), ([7, 8, 0, 1, 2, 3, 4, 5, 6, 7, 8], [7])])
def spec_StopTimer.B9 : List Nat := [0, 0, 2, 6, 0, 16, 48, 126, 1, 511]
theorem spec_StopTimer.tab9 : rtab .any (opsOf Try.f14 9) = spec_StopTimer.T9 := by kernel_rfl
theorem spec_StopTimer.bits9 : waitsOk spec_StopTimer.T9.2 spec_StopTimer.B9 = true := by kernel_rfl
set_option maxHeartbeats 8000000 in
set_option maxRecDepth 100000 in
theorem spec_StopTimer.calls (k : Nat) (a0_0 : Int) (A0_1 : Option Addr) (c0_1 : Nat) (l0_1 : List (S46)) (a1 : Int) (r1 : Int) (r2 : List (S46)) (r3 : Int) (w : World) (hr0_1 : Kd.C k46 w A0_1 l0_1.length l0_1) (hc0_1 : l0_1.length ≤ c0_1) (h : spec_StopTimer.f k a0_0 l0_1 a1 = some (r1, r2, r3)) :
  Calls Try.prog 14 #[.agg #[.int .i64 a0_0, .slice A0_1 l0_1.length c0_1], .int .i64 a1] w fun e w' => ∃ v1_ : Value, e = .returned (.tuple #[.agg #[.int .i64 r1, v1_], .int .i64 r3]) ∧ Kd.R k46 46 w' w.heap.size (fun _ => True) v1_ r2 ∧ Below w.heap.size w w' := by
 have hu29 := Try.underlying29
 have hu46 := Try.underlying46
 have HR0_1 := am hr0_1
 have HC0_1 := am hc0_1
 clear hr0_1 hc0_1
 have HB := am (Below.refl w.heap.size w)
 have H : ((spec_ClockOk.f k a0_0 l0_1).bind fun t167 => (if t167 = true then (spec_StopTimer.l0 k a1 0 a0_0 l0_1 a0_0 ([] : List (S46))) else ((spec_l4Copy.f a0_0 l0_1).bind fun bt168 => (some (bt168.1, bt168.2, 0))))) = some (r1, r2, r3) := h
 clear h
 replace H := Option.bind_eq_some_iff.mp H
 obtain ⟨t167, A30, H⟩ := H
 replace H : (if t167 = true then (spec_StopTimer.l0 k a1 0 a0_0 l0_1 a0_0 ([] : List (S46))) else ((spec_l4Copy.f a0_0 l0_1).bind fun bt168 => (some (bt168.1, bt168.2, 0)))) = some (r1, r2, r3) := H
 have A3 := am A30
 clear A30
 by_cases c4 : t167 = true
 ·subst c4
  replace H : (spec_StopTimer.l0 k a1 0 a0_0 l0_1 a0_0 ([] : List (S46))) = some (r1, r2, r3) := by rw [if_pos rfl] at H; exact H
  have H' := am H
  clear H
  go_enter Try.func14, Try.ntmps14
  go_wp2_with (first | ((with_reducible refine gate_dst (N := 2) rfl ?_); refine box_event ?hg (N := 2) ?hd (cs := #[.int .i64 a0_0, .slice A0_1 l0_1.length c0_1]) (t := 29) ?hr ?_; (case hd => rfl); (case hg => rfl); (case hr => first | (go_simp; done) | (go_simp; rfl)); intro gb165 hg w5 hbox hb; have BK165 := am (hbox); have GW165 := am ((by rw [hg]; exact (below_size (pkB HB.out)) : w.heap.size ≤ gb165)); have GE165 := am ((by rw [hg]; exact (below_size (pkB HB.out)) : w.heap.size ≤ gb165)); replace HB := am (below_step (pkB HB.out) hb); clear hb hbox hg) | ((with_reducible refine gate_dst (N := 4) rfl ?_); refine box_event ?hg (N := 4) ?hd (cs := #[.int .i64 0, .slice none 0 0]) (t := 29) ?hr ?_; (case hd => rfl); (case hg => rfl); (case hr => first | (go_simp; done) | (go_simp; rfl)); intro gb166 hg w6 hbox hb; have BK166 := am (hbox); have GW166 := am ((by rw [hg]; exact (below_size (pkW HB.out)) : w.heap.size ≤ gb166)); have GE166 := am ((by rw [hg]; exact (below_size (pkW HB.out)) : w.heap.size ≤ gb166)); replace HB := am (below_step (pkW HB.out) hb); have NB165_166 := am ((by rw [hg]; exact Nat.ne_of_lt (blk_lt (g := gb165) (o := .cells #[.int .i64 a0_0, .slice A0_1 l0_1.length c0_1] 29 (0, 0)) (pkK BK165.out)) : gb165 ≠ gb166)); have NB166_165 := am ((by rw [hg]; exact Nat.ne_of_gt (blk_lt (g := gb165) (o := .cells #[.int .i64 a0_0, .slice A0_1 l0_1.length c0_1] 29 (0, 0)) (pkK BK165.out)) : gb166 ≠ gb165)); replace BK165 := am (blk_below (pkK BK165.out) hb); clear hb hbox hg; have hnb7 := NB165_166.out; have hnc7 := NB166_165.out; obtain ⟨hcz8_0, hcz8_1, hfz8_0, hfz8_1⟩ := bk2 BK165.out) | ((with_reducible refine gate_callee (f := 10) rfl ?_); refine goesL_ (some 9) rfl rfl Try.func10 (by kernel_rfl) rfl #[.agg #[.int .i64 a0_0, .slice A0_1 l0_1.length c0_1]] rfl mpx ?_; (with_reducible refine (spec_ClockOk.calls k a0_0 _ _ l0_1 true _ ?side1 ?side2 A3.out).mono ?_); (case side1 => exact pkC (Kd.C_below HR0_1.out HB.out)); (case side2 => exact HC0_1.out); rintro e w9 ⟨rfl, hb⟩; refine ⟨_, rfl, ?_⟩; replace BK165 := am (blk_below (pkK BK165.out) hb); replace BK166 := am (blk_below (pkK BK166.out) hb); replace HB := am (below_step (pkW HB.out) hb); (try clear hb); obtain ⟨hcz10_0, hcz10_1, hfz10_0, hfz10_1⟩ := bk2 BK165.out) | ((with_reducible refine gate_dst (N := 6) rfl ?_); refine box_event ?hg (N := 6) ?hd (cs := #[.int .i64 0, .slice none 0 0]) (t := 29) ?hr ?_; (case hd => rfl); (case hg => rfl); (case hr => first | (go_simp; done) | (go_simp; rfl)); intro gb172 hg w11 hbox hb; have BK172 := am (hbox); have GW172 := am ((by rw [hg]; exact (below_size (pkW HB.out)) : w.heap.size ≤ gb172)); have GE172 := am ((by rw [hg]; exact (below_size (pkW HB.out)) : w.heap.size ≤ gb172)); replace HB := am (below_step (pkW HB.out) hb); have NB165_172 := am ((by rw [hg]; exact Nat.ne_of_lt (blk_lt (g := gb165) (o := .cells #[.int .i64 a0_0, .slice A0_1 l0_1.length c0_1] 29 (0, 0)) (pkK BK165.out)) : gb165 ≠ gb172)); have NB172_165 := am ((by rw [hg]; exact Nat.ne_of_gt (blk_lt (g := gb165) (o := .cells #[.int .i64 a0_0, .slice A0_1 l0_1.length c0_1] 29 (0, 0)) (pkK BK165.out)) : gb172 ≠ gb165)); replace BK165 := am (blk_below (pkK BK165.out) hb); have NB166_172 := am ((by rw [hg]; exact Nat.ne_of_lt (blk_lt (g := gb166) (o := .cells #[.int .i64 0, .slice none 0 0] 29 (0, 0)) (pkK BK166.out)) : gb166 ≠ gb172)); have NB172_166 := am ((by rw [hg]; exact Nat.ne_of_gt (blk_lt (g := gb166) (o := .cells #[.int .i64 0, .slice none 0 0] 29 (0, 0)) (pkK BK166.out)) : gb172 ≠ gb166)); replace BK166 := am (blk_below (pkK BK166.out) hb); clear hb hbox hg; have hnb12 := NB172_165.out; have hnc12 := NB165_172.out; have hnb13 := NB172_166.out; have hnc13 := NB166_172.out; obtain ⟨hcz14_0, hcz14_1, hfz14_0, hfz14_1⟩ := bk2 BK172.out))
  go_loopg [7] k (fun kq v7 w' => ∃ (x7_1 : Int) (x173001_1 : List (S46)) (u173001 : Value), v7 = .int .i64 x7_1 ∧ Aside0 (spec_StopTimer.l0 kq a1 x7_1 a0_0 l0_1 a0_0 x173001_1 = some (r1, r2, r3)) ∧ Aside0 (kq ≤ k) ∧ Aside0 (Kd.R k46 46 w' w.heap.size (fun _ => True) u173001 x173001_1) ∧ Aside0 (w'.heap[gb165]? = some (.cells #[.int .i64 a0_0, (.slice A0_1 l0_1.length c0_1)] 29 (0, 0))) ∧ Aside0 (w'.heap[gb166]? = some (.cells #[.int .i64 0, (.slice none 0 0)] 29 (0, 0))) ∧ Aside0 (w'.heap[gb172]? = some (.cells #[.int .i64 a0_0, u173001] 29 (0, 0))) ∧ Aside0 (Below w.heap.size w w'))
  case atStart => exact ⟨(0), (([] : List (S46))), (.slice none 0 0), rfx, H', ⟨Nat.le_refl _⟩, ⟨by first | exact Kd.R_nil _ _ _ _ _ | exact Kd.N_nil _ _ _ _ _ | exact Kd.V_nil _ _ _ _ _ | exact Kd.Q_nil _ _ _ _ _ | exact Kd.S_nil _ _ _ _ _⟩, ⟨by (with_reducible repeat (first | refine blk_drewN ?_ _ | refine blk_drew ?_ | refine blk_alloc ?_ _)); refine blk_far ?_ NB165_172.out _; (with_reducible repeat (first | refine blk_drewN ?_ _ | refine blk_drew ?_ | refine blk_alloc ?_ _)); refine blk_far ?_ NB165_172.out _; exact pkK BK165.out⟩, ⟨by (with_reducible repeat (first | refine blk_drewN ?_ _ | refine blk_drew ?_ | refine blk_alloc ?_ _)); refine blk_far ?_ NB166_172.out _; (with_reducible repeat (first | refine blk_drewN ?_ _ | refine blk_drew ?_ | refine blk_alloc ?_ _)); refine blk_far ?_ NB166_172.out _; exact pkK BK166.out⟩, ⟨by (with_reducible repeat (first | refine blk_drewN ?_ _ | refine blk_drew ?_ | refine blk_alloc ?_ _)); refine blk_put (cs := #[.int .i64 a0_0, .slice none 0 0]) ?_ 1 _ rfl; (with_reducible repeat (first | refine blk_drewN ?_ _ | refine blk_drew ?_ | refine blk_alloc ?_ _)); refine blk_put (cs := #[.int .i64 0, .slice none 0 0]) ?_ 0 _ rfl; exact pkK BK172.out⟩, ⟨pkW HB.out⟩⟩
  case round =>
   clear H'
   try clear c1
   try clear p2
   try clear c4
   try clear c7
   try clear c10
   try clear c12
   try clear c13
   try clear c14
   try clear hcz10_0
   try clear hcz10_1
   try clear hcz14_0
   try clear hcz14_1
   try clear hcz8_0
   try clear hcz8_1
   try clear hfz10_0
   try clear hfz10_1
   try clear hfz14_0
   try clear hfz14_1
   try clear hfz8_0
   try clear hfz8_1
   obtain ⟨x7_1, x173001_1, u173001, rfl, HA, HK1, HO_173001, BK165, BK166, BK172, HB⟩ := hrel
   cases gk with
   | zero => exact absurd HA.out (by simp [spec_StopTimer.l0])
   | succ k1 =>
    have H := HA.out
    clear HA
    simp only [spec_StopTimer.l0] at H
    by_cases c15 : x7_1 < (l0_1.length : Int)
    ·rw [if_pos c15] at H
     have c15b0 : decide (x7_1 < (l0_1.length : Int)) = true := decide_eq_true c15
     clear c15
     by_cases c16 : 0 ≤ x7_1
     ·rw [if_pos c16] at H
      have c16b0 : decide (0 ≤ x7_1) = true := decide_eq_true c16
      clear c16
      by_cases c17 : ((rd_T46 l0_1 x7_1).f1) = a1
      ·rw [if_pos c17] at H
       have c17b0 : (((rd_T46 l0_1 x7_1).f1) == a1) = true := beq_iff_eq.mpr c17
       have c17b1 : (((rd_T46 l0_1 x7_1).f1) != a1) = false := bne_eq_false_iff_eq.mpr c17
       clear c17
       have H' := am H
       clear H
       have hnb18 := NB165_166.out
       have hnc18 := NB166_165.out
       have hnb19 := NB165_172.out
       have hnc19 := NB172_165.out
       obtain ⟨hcz20_0, hcz20_1, hfz20_0, hfz20_1⟩ := bk2 BK165.out
       have p173 : 0 ≤ (x7_1 : Int) := ofd
       have q173 : x7_1 < (l0_1.length : Int) := ofd
       obtain ⟨ad173, e173, hx173_0, hx173_1⟩ := at_T46 HR0_1.out x7_1 p173 q173
       cases e173
       replace hx173_0 := (HB.out.cell (World.block_lt_of_cell? w _ hx173_0)).trans hx173_0
       replace hx173_1 := (HB.out.cell (World.block_lt_of_cell? w _ hx173_1)).trans hx173_1
       replace p173 := eq_true p173
       replace q173 := eq_true q173
       go_wp2
       go_roundg k1
       case measure => have := HK1.out; omega
       case rel => exact ⟨(wrap64 (x7_1 + 1)), (x173001_1), (u173001), rfx, H', ⟨by have := HK1.out; omega⟩, ⟨pkR HO_173001.out⟩, ⟨pkK BK165.out⟩, ⟨pkK BK166.out⟩, ⟨pkK BK172.out⟩, ⟨pkW HB.out⟩⟩
      ·rw [if_neg c17] at H
       have c17b0 : (((rd_T46 l0_1 x7_1).f1) == a1) = false := beq_eq_false_iff_ne.mpr c17
       have c17b1 : (((rd_T46 l0_1 x7_1).f1) != a1) = true := bne_iff_ne.mpr c17
       by_cases c21 : x173001_1.length < 8796093022208
       ·rw [if_pos c21] at H
        have LMc21 := am c21
        clear c21
        obtain ⟨y175, hy175⟩ : ∃ y_ : List (S46), y_ = (x173001_1 ++ [(⟨(rd_T46 l0_1 x7_1).f0, (rd_T46 l0_1 x7_1).f1⟩ : S46)]) := ⟨_, rfl⟩
        replace H : (spec_StopTimer.l0 k1 a1 (wrap64 (x7_1 + 1)) a0_0 l0_1 a0_0 y175) = some (r1, r2, r3) := by first | (rw [hy175]; with_reducible exact H) | (have H2_ := (Option.bind_some _ _).symm.trans H; rw [hy175]; with_reducible exact H2_) | (have H2_ := (Option.bind_some _ _).symm.trans H; with_reducible exact H2_) | with_reducible exact H | (rw [hy175]; exact H) | exact H
        have Ny175 := am hy175
        clear hy175
        have H' := am H
        clear H
        have hnb22 := NB165_166.out
        have hnc22 := NB166_165.out
        have hnb23 := NB165_172.out
        have hnc23 := NB172_165.out
        obtain ⟨hcz24_0, hcz24_1, hfz24_0, hfz24_1⟩ := bk2 BK165.out
        have p173 : 0 ≤ (x7_1 : Int) := ofd
        have q173 : x7_1 < (l0_1.length : Int) := ofd
        obtain ⟨ad173, e173, hx173_0, hx173_1⟩ := at_T46 HR0_1.out x7_1 p173 q173
        cases e173
        replace hx173_0 := (HB.out.cell (World.block_lt_of_cell? w _ hx173_0)).trans hx173_0
        replace hx173_1 := (HB.out.cell (World.block_lt_of_cell? w _ hx173_1)).trans hx173_1
        replace p173 := eq_true p173
        replace q173 := eq_true q173
        try go_wp2
        replace HO_173001 := am (Kd.R_drew HO_173001.out)
        replace BK165 := am (blk_drew BK165.out)
        replace BK166 := am (blk_drew BK166.out)
        replace BK172 := am (blk_drew BK172.out)
        replace HB := am (below_drew1 HB.out)
        have p174 : 0 ≤ (x7_1 : Int) := ofd
        have q174 : x7_1 < (l0_1.length : Int) := ofd
        obtain ⟨ad174, e174, hx174_0, hx174_1⟩ := at_T46 HR0_1.out x7_1 p174 q174
        have hw174_1 := hx174_1
        have hw174_0 := hx174_0
        obtain rfl : ad173 = ad174 := (by injection e174)
        replace hx174_0 := (HB.out.cell (World.block_lt_of_cell? w _ hx174_0)).trans hx174_0
        replace hx174_1 := (HB.out.cell (World.block_lt_of_cell? w _ hx174_1)).trans hx174_1
        replace p174 := eq_true p174
        replace q174 := eq_true q174
        refine start_ (n := 11) (S := fun w' => w'.cell? ⟨gb172, 0, none⟩ = some (.int .i64 a0_0) ∧ w'.cell? ⟨gb172, 1, none⟩ = some (u173001) ∧ w'.cell? ⟨gb165, 0, none⟩ = some (.int .i64 a0_0) ∧ w'.cell? ⟨gb165, 1, none⟩ = some (.slice (some ad173) l0_1.length c0_1) ∧ w'.cell? (ad173.add ((x7_1).toNat * 2)) = some (.int .i64 ((rd_T46 l0_1 x7_1).f0)) ∧ w'.cell? ⟨(ad173.add ((x7_1).toNat * 2)).block, (ad173.add ((x7_1).toNat * 2)).off + 1, none⟩ = some (.int .i64 ((rd_T46 l0_1 x7_1).f1))) (ds := [10]) #[false, false, false, false, false, false, false, false, false, false, false] (by kernel_rfl) rfl rfl ⟨(blk_cell BK172.out 0).trans rfl, (blk_cell BK172.out 1).trans rfl, (blk_cell BK165.out 0).trans rfl, (blk_cell BK165.out 1).trans rfl, ((HB.out.cell (World.block_lt_of_cell? w _ hw174_0)).trans hw174_0), ((HB.out.cell (World.block_lt_of_cell? w _ hw174_1)).trans hw174_1)⟩ (fun hHeld => ?_); refine with_tabW spec_StopTimer.tab8 spec_StopTimer.bits8 (fun HT_ HW_ => ?_)
        generalize wr.drew = w25 at HO_173001 BK165 BK166 BK172 HB hx174_0 hx174_1 hHeld ⊢
        refine pure_ (i := 0) (N := some 31) (v := ?_) (a' := ?_) #[true, false, false, false, false, false, false, false, false, false, false] rfl rfl (any_of HT_.out (by kernel_rfl)) (fun _ _ _ h => h) (Or.inl ⟨by rfl, ?_⟩) ?_ ?_
        rotate_left
        ·intro w'
         go_simp
         with_reducible rfl
        rotate_left
        ·simp only [Act.put, List.setIfInBounds_toArray, List.set_cons_zero, List.set_cons_succ, i64_w, i32_w]
         rfl
        refine pure_ (i := 2) (N := some 33) (v := ?_) (a' := ?_) #[true, false, true, false, false, false, false, false, false, false, false] rfl rfl (any_of HT_.out (by kernel_rfl)) (fun _ _ _ h => h) (Or.inl ⟨by rfl, ?_⟩) ?_ ?_
        rotate_left
        ·intro w'
         go_simp
         with_reducible rfl
        rotate_left
        ·simp only [Act.put, List.setIfInBounds_toArray, List.set_cons_zero, List.set_cons_succ, i64_w, i32_w]
         rfl
        refine pure_ (i := 4) (N := some 35) (v := ?_) (a' := ?_) #[true, false, true, false, true, false, false, false, false, false, false] rfl rfl (any_of HT_.out (by kernel_rfl)) (fun _ _ _ h => h) (Or.inl ⟨by rfl, ?_⟩) ?_ ?_
        rotate_left
        ·intro w'
         go_simp
         with_reducible rfl
        rotate_left
        ·simp only [Act.put, List.setIfInBounds_toArray, List.set_cons_zero, List.set_cons_succ, i64_w, i32_w]
         rfl
        refine take_ (i := 1) (N := some 32) (v := ?_) (a' := ?_) #[true, true, true, false, true, false, false, false, false, false, false] rfl rfl (take_ofW HT_.out HW_.out (by kernel_rfl)) (fun _ _ _ h => h) (Or.inl ⟨by rfl, ?_⟩) hHeld ?_ ?_
        rotate_left
        ·rintro w' ⟨s0, s1, s2, s3, s4, s5⟩
         go_simp
         with_reducible rfl
        rotate_left
        ·simp only [Act.put, List.setIfInBounds_toArray, List.set_cons_zero, List.set_cons_succ, i64_w, i32_w]
         rfl
        refine take_ (i := 3) (N := some 34) (v := ?_) (a' := ?_) #[true, true, true, true, true, false, false, false, false, false, false] rfl rfl (take_ofW HT_.out HW_.out (by kernel_rfl)) (fun _ _ _ h => h) (Or.inl ⟨by rfl, ?_⟩) hHeld ?_ ?_
        rotate_left
        ·rintro w' ⟨s0, s1, s2, s3, s4, s5⟩
         go_simp
         with_reducible rfl
        rotate_left
        ·simp only [Act.put, List.setIfInBounds_toArray, List.set_cons_zero, List.set_cons_succ, i64_w, i32_w]
         rfl
        refine pure_ (i := 5) (N := some 36) (v := ?_) (a' := ?_) #[true, true, true, true, true, true, false, false, false, false, false] rfl rfl (any_of HT_.out (by kernel_rfl)) (fun _ _ _ h => h) (Or.inl ⟨by rfl, ?_⟩) ?_ ?_
        rotate_left
        ·intro w'
         go_simp
         with_reducible rfl
        rotate_left
        ·simp only [Act.put, List.setIfInBounds_toArray, List.set_cons_zero, List.set_cons_succ, i64_w, i32_w]
         rfl
        refine take_ (i := 6) (N := some 37) (v := ?_) (a' := ?_) #[true, true, true, true, true, true, true, false, false, false, false] rfl rfl (take_ofW HT_.out HW_.out (by kernel_rfl)) (fun _ _ _ h => h) (Or.inl ⟨by rfl, ?_⟩) hHeld ?_ ?_
        rotate_left
        ·rintro w' ⟨s0, s1, s2, s3, s4, s5⟩
         go_simp
         with_reducible rfl
        rotate_left
        ·simp only [Act.put, List.setIfInBounds_toArray, List.set_cons_zero, List.set_cons_succ, i64_w, i32_w]
         rfl
        refine one_ (i := 7) (N := some 38) #[true, true, true, true, true, true, true, true, false, false, false] rfl rfl (one_of HT_.out (by kernel_rfl)) (by decide) (fun K hK => ?_)
        refine value_ (w1 := ?_) (v := ?_) (by rfl) rfl ?_ ?_
        rotate_left 2
        ·go_simp
         constructor
         ·rfl
         ·rfl
        refine hK.out _ _ ⟨(blk_cell (blk_alloc BK172.out _) 0).trans rfl, (blk_cell (blk_alloc BK172.out _) 1).trans rfl, (blk_cell (blk_alloc BK165.out _) 0).trans rfl, (blk_cell (blk_alloc BK165.out _) 1).trans rfl, (World.cell?_alloc_lt _ _ _ (World.block_lt_of_cell? _ _ (((HB.out.cell (World.block_lt_of_cell? w _ hw174_0)).trans hw174_0)))).trans (((HB.out.cell (World.block_lt_of_cell? w _ hw174_0)).trans hw174_0)), (World.cell?_alloc_lt _ _ _ (World.block_lt_of_cell? _ _ (((HB.out.cell (World.block_lt_of_cell? w _ hw174_1)).trans hw174_1)))).trans (((HB.out.cell (World.block_lt_of_cell? w _ hw174_1)).trans hw174_1))⟩ (fun hHeld => ?_)
        clear hK K
        refine norm_ (a' := ?_) ?_ ?_
        rotate_left
        ·show Act.put _ (some 38) _ = _
         simp only [Act.put, List.setIfInBounds_toArray, List.set_cons_zero, List.set_cons_succ, i64_w, i32_w]
         rfl
        refine one_ (i := 8) (N := some 39) #[true, true, true, true, true, true, true, true, true, false, false] rfl rfl (one_of HT_.out (by kernel_rfl)) (by decide) (fun K hK => ?_)
        refine Kd.R_append_step k46 (w0 := w) w.heap.size (by rfl) (.tmp 32) (.tmp 38) 27 46 (.agg #[(.int .i64 0), (.int .i64 0)]) 16 rfl Try.underlying27 info46 rfl (by decide) (by omega) u173001 x173001_1 (⟨(rd_T46 l0_1 x7_1).f0, (rd_T46 l0_1 x7_1).f1⟩ : S46) [.int .i64 ((rd_T46 l0_1 x7_1).f0), .int .i64 ((rd_T46 l0_1 x7_1).f1)] (fun _ => True) (fun _ => False) rfl rfl ?aP (fun _ hk => hk.elim) ?aF ?aO ?aB ?aS ?aL ?_
        (case aP => exact k46_mkM _ _ _ (⟨(rd_T46 l0_1 x7_1).f0, (rd_T46 l0_1 x7_1).f1⟩ : S46))
        (case aB => exact (pkW HB.out))
        (case aF => exact (fun _ _ => trivial))
        (case aO => exact (pkR HO_173001.out))
        (case aS => exact (below_size (pkW HB.out)))
        (case aL => have := LMc21.out; omega)
        intro v176 w26 ho hb hg hat
        rw [← Ny175.out] at ho
        replace BK165 := am (blk_grown (g := gb165) (o := .cells #[.int .i64 a0_0, .slice (some ad173) l0_1.length c0_1] 29 (0, 0)) (pkK BK165.out) hg (Kd.R_ne HO_173001.out BK165.out (by decide)))
        replace BK166 := am (blk_grown (g := gb166) (o := .cells #[.int .i64 0, .slice none 0 0] 29 (0, 0)) (pkK BK166.out) hg (Kd.R_ne HO_173001.out BK166.out (by decide)))
        replace BK172 := am (blk_grown (g := gb172) (o := .cells #[.int .i64 a0_0, u173001] 29 (0, 0)) (pkK BK172.out) hg (Kd.R_ne HO_173001.out BK172.out (by decide)))
        replace HB := am (hb)
        have HO177 := am (ho)
        clear HO_173001 ho hb hg hat
        obtain ⟨Ao27, co27, eo27⟩ := Kd.R_slice HO177.out
        (first | subst eo27 | (injection eo27 with f1_ f2_ f3_; have f4_ := f1_.symm; have f5_ := f3_.symm; clear f1_ f2_ f3_; subst f4_; subst f5_))
        refine hK.out _ _ ⟨(blk_cell BK172.out 0).trans rfl, (blk_cell BK172.out 1).trans rfl, (blk_cell BK165.out 0).trans rfl, (blk_cell BK165.out 1).trans rfl, ((HB.out.cell (World.block_lt_of_cell? w _ hw174_0)).trans hw174_0), ((HB.out.cell (World.block_lt_of_cell? w _ hw174_1)).trans hw174_1)⟩ (fun hHeld => ?_)
        clear hK K
        refine norm_ (a' := ?_) ?_ ?_
        rotate_left
        ·show Act.put _ (some 39) _ = _
         simp only [Act.put, List.setIfInBounds_toArray, List.set_cons_zero, List.set_cons_succ, i64_w, i32_w]
         rfl
        refine pure_ (i := 9) (N := some 40) (v := ?_) (a' := ?_) #[true, true, true, true, true, true, true, true, true, true, false] rfl rfl (any_of HT_.out (by kernel_rfl)) (fun _ _ _ h => h) (Or.inl ⟨by rfl, ?_⟩) ?_ ?_
        rotate_left
        ·intro w'
         go_simp
         with_reducible rfl
        rotate_left
        ·simp only [Act.put, List.setIfInBounds_toArray, List.set_cons_zero, List.set_cons_succ, i64_w, i32_w]
         rfl
        refine last_ (i := 10) (N := none) #[true, true, true, true, true, true, true, true, true, true, true] rfl rfl (one_of HT_.out (by kernel_rfl)) (by decide) (fun K hK => ?_)
        have hs28 : w26.cell? ⟨gb172, 1, none⟩ = some (u173001) := (blk_cell BK172.out 1).trans rfl
        have hfs28 := blk_frozen BK172.out 1
        have hns28_0 := NB165_172.out
        have hns28_1 := NB166_172.out
        have hms28_0 := NB172_165.out
        have hms28_1 := NB172_166.out
        refine skip_ (w1 := ?_) (by rfl) rfl ?_ ?_
        rotate_left
        ·go_simp
         rfl
        refine hK.out _ _ ?_
        clear hK K
        refine done_ (done_of HT_.out (by kernel_rfl)) ?_
        try go_wp2
        go_roundg k1
        case measure => have := HK1.out; omega
        case rel => exact ⟨(wrap64 (x7_1 + 1)), (y175), (.slice Ao27 y175.length co27), rfx, H', ⟨by have := HK1.out; omega⟩, ⟨by (with_reducible repeat (first | apply Kd.R_alloc | apply Kd.R_drewN | apply Kd.R_drew)); exact Kd.R_mono (Kd.R_far (p := ⟨gb172, 1, none⟩) (Kd.R_types HO177.out BK172.out (by decide)) (fun _ hk => hk.2) (.slice Ao27 y175.length co27)) (fun _ hk => trivial)⟩, ⟨by (with_reducible repeat (first | refine blk_drewN ?_ _ | refine blk_drew ?_ | refine blk_alloc ?_ _)); refine blk_far ?_ NB165_172.out _; exact pkK BK165.out⟩, ⟨by (with_reducible repeat (first | refine blk_drewN ?_ _ | refine blk_drew ?_ | refine blk_alloc ?_ _)); refine blk_far ?_ NB166_172.out _; exact pkK BK166.out⟩, ⟨by (with_reducible repeat (first | refine blk_drewN ?_ _ | refine blk_drew ?_ | refine blk_alloc ?_ _)); refine blk_put (cs := #[.int .i64 a0_0, u173001]) ?_ 1 _ rfl; exact pkK BK172.out⟩, ⟨pkW HB.out⟩⟩
       ·rw [if_neg c21] at H
        exact absurd H (by simp)
     ·rw [if_neg c16] at H
      exact absurd H (by simp)
    ·rw [if_neg c15] at H
     have c15b0 : decide (x7_1 < (l0_1.length : Int)) = false := decide_eq_false c15
     clear c15
     simp only [Option.some.injEq, Prod.mk.injEq] at H
     obtain ⟨rfl, rfl, rfl⟩ := H
     have hnb29 := NB165_166.out
     have hnc29 := NB166_165.out
     have hnb30 := NB165_172.out
     have hnc30 := NB172_165.out
     obtain ⟨hcz31_0, hcz31_1, hfz31_0, hfz31_1⟩ := bk2 BK165.out
     try go_wp2
     replace HO_173001 := am (Kd.R_drew HO_173001.out)
     replace BK165 := am (blk_drew BK165.out)
     replace BK166 := am (blk_drew BK166.out)
     replace BK172 := am (blk_drew BK172.out)
     replace HB := am (below_drew1 HB.out)
     obtain ⟨Ao33, co33, eo33⟩ := Kd.R_slice HO_173001.out
     (first | subst eo33 | (injection eo33 with f1_ f2_ f3_; have f4_ := f1_.symm; have f5_ := f3_.symm; clear f1_ f2_ f3_; subst f4_; subst f5_))
     refine start_ (n := 10) (S := fun w' => w'.cell? ⟨gb172, 0, none⟩ = some (.int .i64 a0_0) ∧ w'.cell? ⟨gb172, 1, none⟩ = some (.slice Ao33 x173001_1.length co33) ∧ w'.cell? ⟨gb165, 0, none⟩ = some (.int .i64 a0_0) ∧ w'.cell? ⟨gb165, 1, none⟩ = some (.slice A0_1 l0_1.length c0_1)) (ds := []) #[false, false, false, false, false, false, false, false, false, false] (by kernel_rfl) rfl rfl ⟨(blk_cell BK172.out 0).trans rfl, (blk_cell BK172.out 1).trans rfl, (blk_cell BK165.out 0).trans rfl, (blk_cell BK165.out 1).trans rfl⟩ (fun hHeld => ?_); refine with_tabW spec_StopTimer.tab9 spec_StopTimer.bits9 (fun HT_ HW_ => ?_)
     generalize wr.drew = w32 at HO_173001 BK165 BK166 BK172 HB hHeld ⊢
     refine pure_ (i := 1) (N := some 42) (v := ?_) (a' := ?_) #[false, true, false, false, false, false, false, false, false, false] rfl rfl (any_of HT_.out (by kernel_rfl)) (fun _ _ _ h => h) (Or.inl ⟨by rfl, ?_⟩) ?_ ?_
     rotate_left
     ·intro w'
      go_simp
      with_reducible rfl
     rotate_left
     ·simp only [Act.put, List.setIfInBounds_toArray, List.set_cons_zero, List.set_cons_succ, i64_w, i32_w]
      rfl
     refine pure_ (i := 4) (N := some 45) (v := ?_) (a' := ?_) #[false, true, false, false, true, false, false, false, false, false] rfl rfl (any_of HT_.out (by kernel_rfl)) (fun _ _ _ h => h) (Or.inl ⟨by rfl, ?_⟩) ?_ ?_
     rotate_left
     ·intro w'
      go_simp
      with_reducible rfl
     rotate_left
     ·simp only [Act.put, List.setIfInBounds_toArray, List.set_cons_zero, List.set_cons_succ, i64_w, i32_w]
      rfl
     refine take_ (i := 0) (N := some 41) (v := ?_) (a' := ?_) #[true, true, false, false, true, false, false, false, false, false] rfl rfl (take_ofW HT_.out HW_.out (by kernel_rfl)) (fun _ _ _ h => h) (Or.inl ⟨by rfl, ?_⟩) hHeld ?_ ?_
     rotate_left
     ·rintro w' ⟨s0, s1, s2, s3⟩
      go_simp
      with_reducible rfl
     rotate_left
     ·simp only [Act.put, List.setIfInBounds_toArray, List.set_cons_zero, List.set_cons_succ, i64_w, i32_w]
      rfl
     refine take_ (i := 2) (N := some 43) (v := ?_) (a' := ?_) #[true, true, true, false, true, false, false, false, false, false] rfl rfl (take_ofW HT_.out HW_.out (by kernel_rfl)) (fun _ _ _ h => h) (Or.inl ⟨by rfl, ?_⟩) hHeld ?_ ?_
     rotate_left
     ·rintro w' ⟨s0, s1, s2, s3⟩
      go_simp
      with_reducible rfl
     rotate_left
     ·simp only [Act.put, List.setIfInBounds_toArray, List.set_cons_zero, List.set_cons_succ, i64_w, i32_w]
      rfl
     refine pure_ (i := 3) (N := some 44) (v := ?_) (a' := ?_) #[true, true, true, true, true, false, false, false, false, false] rfl rfl (any_of HT_.out (by kernel_rfl)) (fun _ _ _ h => h) (Or.inl ⟨by rfl, ?_⟩) ?_ ?_
     rotate_left
     ·intro w'
      go_simp
      with_reducible rfl
     rotate_left
     ·simp only [Act.put, List.setIfInBounds_toArray, List.set_cons_zero, List.set_cons_succ, i64_w, i32_w]
      rfl
     refine take_ (i := 5) (N := some 46) (v := ?_) (a' := ?_) #[true, true, true, true, true, true, false, false, false, false] rfl rfl (take_ofW HT_.out HW_.out (by kernel_rfl)) (fun _ _ _ h => h) (Or.inl ⟨by rfl, ?_⟩) hHeld ?_ ?_
     rotate_left
     ·rintro w' ⟨s0, s1, s2, s3⟩
      go_simp
      with_reducible rfl
     rotate_left
     ·simp only [Act.put, List.setIfInBounds_toArray, List.set_cons_zero, List.set_cons_succ, i64_w, i32_w]
      rfl
     refine pure_ (i := 6) (N := some 47) (v := ?_) (a' := ?_) #[true, true, true, true, true, true, true, false, false, false] rfl rfl (any_of HT_.out (by kernel_rfl)) (fun _ _ _ h => h) (Or.inl ⟨by rfl, ?_⟩) ?_ ?_
     rotate_left
     ·intro w'
      go_simp
      with_reducible rfl
     rotate_left
     ·simp only [Act.put, List.setIfInBounds_toArray, List.set_cons_zero, List.set_cons_succ, i64_w, i32_w]
      rfl
     refine pure_ (i := 7) (N := some 48) (v := ?_) (a' := ?_) #[true, true, true, true, true, true, true, true, false, false] rfl rfl (any_of HT_.out (by kernel_rfl)) (fun _ _ _ h => h) (Or.inl ⟨by rfl, ?_⟩) ?_ ?_
     rotate_left
     ·intro w'
      go_simp
      with_reducible rfl
     rotate_left
     ·simp only [Act.put, List.setIfInBounds_toArray, List.set_cons_zero, List.set_cons_succ, i64_w, i32_w]
      rfl
     refine one_ (i := 8) (N := none) #[true, true, true, true, true, true, true, true, true, false] rfl rfl (one_of HT_.out (by kernel_rfl)) (by decide) (fun K hK => ?_)
     have hs34 : w32.cell? ⟨gb166, 0, none⟩ = some (.int .i64 0) := (blk_cell BK166.out 0).trans rfl
     have hfs34 := blk_frozen BK166.out 0
     have hns34_0 := NB165_166.out
     have hns34_2 := NB172_166.out
     have hms34_0 := NB166_165.out
     have hms34_2 := NB166_172.out
     have hs35 : w32.cell? ⟨gb166, 1, none⟩ = some (.slice none 0 0) := (blk_cell BK166.out 1).trans rfl
     have hfs35 := blk_frozen BK166.out 1
     have hns35_0 := NB165_166.out
     have hns35_2 := NB172_166.out
     have hms35_0 := NB166_165.out
     have hms35_2 := NB166_172.out
     refine skip_ (w1 := ?_) (by rfl) rfl ?_ ?_
     rotate_left
     ·go_simp
      rfl
     refine hK.out _ _ ⟨((cell_far (p := ⟨gb166, _, none⟩) NB172_166.out _).trans (((cell_far (p := ⟨gb166, _, none⟩) NB172_166.out _).trans (hHeld.1)))), ((cell_far (p := ⟨gb166, _, none⟩) NB172_166.out _).trans (((cell_far (p := ⟨gb166, _, none⟩) NB172_166.out _).trans (hHeld.2.1)))), ((cell_far (p := ⟨gb166, _, none⟩) NB165_166.out _).trans (((cell_far (p := ⟨gb166, _, none⟩) NB165_166.out _).trans (hHeld.2.2.1)))), ((cell_far (p := ⟨gb166, _, none⟩) NB165_166.out _).trans (((cell_far (p := ⟨gb166, _, none⟩) NB165_166.out _).trans (hHeld.2.2.2))))⟩ (fun hHeld => ?_)
     clear hK K
     refine pure_ (i := 9) (N := some 5) (v := ?_) (a' := ?_) #[true, true, true, true, true, true, true, true, true, true] rfl rfl (any_of HT_.out (by kernel_rfl)) (fun _ _ _ h => h) (Or.inl ⟨by rfl, ?_⟩) ?_ ?_
     rotate_left
     ·intro w'
      go_simp
      with_reducible rfl
     rotate_left
     ·simp only [Act.put, List.setIfInBounds_toArray, List.set_cons_zero, List.set_cons_succ, i64_w, i32_w]
      rfl
     refine done_ (done_of HT_.out (by kernel_rfl)) ?_
     try go_wp2
     refine bodyPost_ret (results_ct rfl _ _ gb166 29 #[.int .i64 a0_0, .slice Ao33 x173001_1.length co33] (0, 0) _ rfl (by (with_reducible repeat (first | refine blk_drewN ?_ _ | refine blk_drew ?_ | refine blk_alloc ?_ _)); refine blk_put (cs := #[.int .i64 a0_0, .slice none 0 0]) ?_ 1 _ rfl; (with_reducible repeat (first | refine blk_drewN ?_ _ | refine blk_drew ?_ | refine blk_alloc ?_ _)); refine blk_put (cs := #[.int .i64 0, .slice none 0 0]) ?_ 0 _ rfl; exact pkK BK166.out) Try.underlying29 rfl (by kernel_rfl)) rfl ?_
     exact ⟨_, rfe, by (with_reducible repeat (first | apply Kd.R_alloc | apply Kd.R_drewN | apply Kd.R_drew)); exact Kd.R_mono (Kd.R_far (p := ⟨gb166, 1, none⟩) (Kd.R_far (p := ⟨gb166, 0, none⟩) (Kd.R_types HO_173001.out BK166.out (by decide)) (fun _ hk => hk.2) (.int .i64 a0_0)) (fun _ hk => hk.2) (.slice Ao33 x173001_1.length co33)) (fun _ hk => trivial), pkW HB.out⟩
 ·replace c4 := Bool.eq_false_iff.mpr c4
  subst c4
  replace H : ((spec_l4Copy.f a0_0 l0_1).bind fun bt168 => (some (bt168.1, bt168.2, 0))) = some (r1, r2, r3) := by rw [if_neg (show ¬ (false = true) by decide)] at H; exact H
  replace H := Option.bind_eq_some_iff.mp H
  obtain ⟨⟨t168, t169⟩, A360, H⟩ := H
  replace H : (some (t168, t169, 0)) = some (r1, r2, r3) := H
  have A36 := am A360
  clear A360
  simp only [Option.some.injEq, Prod.mk.injEq] at H
  obtain ⟨rfl, rfl, rfl⟩ := H
  go_enter Try.func14, Try.ntmps14
  go_wp2_with (first | ((with_reducible refine gate_dst (N := 2) rfl ?_); refine box_event ?hg (N := 2) ?hd (cs := #[.int .i64 a0_0, .slice A0_1 l0_1.length c0_1]) (t := 29) ?hr ?_; (case hd => rfl); (case hg => rfl); (case hr => first | (go_simp; done) | (go_simp; rfl)); intro gb165 hg w37 hbox hb; have BK165 := am (hbox); have GW165 := am ((by rw [hg]; exact (below_size (pkB HB.out)) : w.heap.size ≤ gb165)); have GE165 := am ((by rw [hg]; exact (below_size (pkB HB.out)) : w.heap.size ≤ gb165)); replace HB := am (below_step (pkB HB.out) hb); clear hb hbox hg) | ((with_reducible refine gate_dst (N := 4) rfl ?_); refine box_event ?hg (N := 4) ?hd (cs := #[.int .i64 0, .slice none 0 0]) (t := 29) ?hr ?_; (case hd => rfl); (case hg => rfl); (case hr => first | (go_simp; done) | (go_simp; rfl)); intro gb166 hg w38 hbox hb; have BK166 := am (hbox); have GW166 := am ((by rw [hg]; exact (below_size (pkW HB.out)) : w.heap.size ≤ gb166)); have GE166 := am ((by rw [hg]; exact (below_size (pkW HB.out)) : w.heap.size ≤ gb166)); replace HB := am (below_step (pkW HB.out) hb); have NB165_166 := am ((by rw [hg]; exact Nat.ne_of_lt (blk_lt (g := gb165) (o := .cells #[.int .i64 a0_0, .slice A0_1 l0_1.length c0_1] 29 (0, 0)) (pkK BK165.out)) : gb165 ≠ gb166)); have NB166_165 := am ((by rw [hg]; exact Nat.ne_of_gt (blk_lt (g := gb165) (o := .cells #[.int .i64 a0_0, .slice A0_1 l0_1.length c0_1] 29 (0, 0)) (pkK BK165.out)) : gb166 ≠ gb165)); replace BK165 := am (blk_below (pkK BK165.out) hb); clear hb hbox hg; have hnb39 := NB165_166.out; have hnc39 := NB166_165.out; obtain ⟨hcz40_0, hcz40_1, hfz40_0, hfz40_1⟩ := bk2 BK165.out) | ((with_reducible refine gate_callee (f := 10) rfl ?_); refine goesL_ (some 9) rfl rfl Try.func10 (by kernel_rfl) rfl #[.agg #[.int .i64 a0_0, .slice A0_1 l0_1.length c0_1]] rfl mpx ?_; (with_reducible refine (spec_ClockOk.calls k a0_0 _ _ l0_1 false _ ?side1 ?side2 A3.out).mono ?_); (case side1 => exact pkC (Kd.C_below HR0_1.out HB.out)); (case side2 => exact HC0_1.out); rintro e w41 ⟨rfl, hb⟩; refine ⟨_, rfl, ?_⟩; replace BK165 := am (blk_below (pkK BK165.out) hb); replace BK166 := am (blk_below (pkK BK166.out) hb); replace HB := am (below_step (pkW HB.out) hb); (try clear hb); obtain ⟨hcz42_0, hcz42_1, hfz42_0, hfz42_1⟩ := bk2 BK165.out) | ((with_reducible refine gate_callee (f := 37) rfl ?_); refine goesL_ (some 12) rfl rfl Try.func37 (by kernel_rfl) rfl #[.agg #[.int .i64 a0_0, .slice A0_1 l0_1.length c0_1]] rfl mpx ?_; (with_reducible refine (spec_l4Copy.calls a0_0 _ _ l0_1 t168 t169 _ ?side1 ?side2 A36.out).mono ?_); (case side1 => exact pkC (Kd.C_below HR0_1.out HB.out)); (case side2 => exact HC0_1.out); rintro e w43 ⟨v170, rfl, ho0, hb⟩; refine ⟨_, rfl, ?_⟩; have HO171 := am (Kd.R_lower ho0 (below_size (pkW HB.out))); replace BK165 := am (blk_below (pkK BK165.out) hb); replace BK166 := am (blk_below (pkK BK166.out) hb); replace HB := am (below_step (pkW HB.out) hb); (try clear hb ho0); obtain ⟨hcz44_0, hcz44_1, hfz44_0, hfz44_1⟩ := bk2 BK166.out; obtain ⟨Ao45, co45, eo45⟩ := Kd.R_slice HO171.out; subst eo45))
  refine bodyPost_ret (results_ct rfl _ _ gb166 29 #[.int .i64 t168, .slice Ao45 t169.length co45] (0, 0) _ rfl (by (with_reducible repeat (first | refine blk_drewN ?_ _ | refine blk_drew ?_ | refine blk_alloc ?_ _)); refine blk_put (cs := #[.int .i64 t168, .slice none 0 0]) ?_ 1 _ rfl; (with_reducible repeat (first | refine blk_drewN ?_ _ | refine blk_drew ?_ | refine blk_alloc ?_ _)); refine blk_put (cs := #[.int .i64 0, .slice none 0 0]) ?_ 0 _ rfl; exact pkK BK166.out) Try.underlying29 rfl (by kernel_rfl)) rfl ?_
  exact ⟨_, rfe, by (with_reducible repeat (first | apply Kd.R_alloc | apply Kd.R_drewN | apply Kd.R_drew)); exact Kd.R_mono (Kd.R_far (p := ⟨gb166, 1, none⟩) (Kd.R_far (p := ⟨gb166, 0, none⟩) (Kd.R_types HO171.out BK166.out (by decide)) (fun _ hk => hk.2) (.int .i64 t168)) (fun _ hk => hk.2) (.slice Ao45 t169.length co45)) (fun _ hk => trivial), pkW HB.out⟩
end Go.Proofs.Ytfgjfheiekhmlaa.Z
