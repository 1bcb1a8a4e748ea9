/- The Go functions spec_l5Drop as Lean functions, each with a proof that its code comes to just these answers; conditions: those of each theorem. -/
import Derived.Test.YtdagpmnadapbjaaZx0
namespace Go.Proofs.Ytdagpmnadapbjaa.Z
open Go.RowKit Go.Proofs.YtdagpmnadapbjaaW.PrintWords Go.Proofs.YtdagpmnadapbjaaW.PrintLast Go.Proofs.YtdagpmnadapbjaaW.PrintMore
attribute [local go_sem] max2_int min2_int max_two min_two max_three min_three max_four min_four   -- for this text's walks alone
set_option linter.unusedVariables false
set_option linter.unusedSimpArgs false
def spec_l5Drop.l0 : Nat → Int → List (S67) → Int → Bool → List Int → List (S67) → Int → Int → Int → Option (Bool × List Int × (List (S67)) × Int × Int × Int)
 | 0, _, _, _, _, _, _, _, _, _ => none
 | k + 1, x1, x5, x6, x1578000, x1578001, x1578002, x1578003, x1578004, x1578005 => if x6 < (x1578002.length : Int) then (if x6 = x1 then (spec_l5Drop.l0 k x1 x5 (wrap64 (x6 + 1)) x1578000 x1578001 x1578002 x1578003 x1578004 x1578005) else (if 0 ≤ x6 then (if x5.length < 8796093022208 then (spec_l5Drop.l0 k x1 (x5 ++ [(⟨(rd_T67 x1578002 x6).f0, (rd_T67 x1578002 x6).f1⟩ : S67)]) (wrap64 (x6 + 1)) x1578000 x1578001 x1578002 x1578003 x1578004 x1578005) else (none)) else (none))) else (some (x1578000, x1578001, x5, x1578003, x1578004, x1578005))
def spec_l5Drop.f (k : Nat) (a0_0 : Bool) (l0_1 : List Int) (l0_2 : List (S67)) (a0_3 : Int) (a0_4 : Int) (a0_5 : Int) (a1 : Int) : Option (Bool × List Int × (List (S67)) × Int × Int × Int) := spec_l5Drop.l0 k a1 (([] : List (S67))) 0 a0_0 l0_1 l0_2 a0_3 a0_4 a0_5
theorem spec_l5Drop.mono_l : ∀ k, (∀ y0 y1 y2 y3 y4 y5 y6 y7 y8, LeO (spec_l5Drop.l0 k y0 y1 y2 y3 y4 y5 y6 y7 y8) (spec_l5Drop.l0 (k + 1) y0 y1 y2 y3 y4 y5 y6 y7 y8))
 | 0 => fun _ _ _ _ _ _ _ _ _ r h => by simp [spec_l5Drop.l0] at h
 | k + 1 => by
  have ih0 := spec_l5Drop.mono_l k
  ·intro y0 y1 y2 y3 y4 y5 y6 y7 y8
   unfold spec_l5Drop.l0
   repeat' first
   | (with_reducible exact ih0 _ _ _ _ _ _ _ _ _)
   | (with_reducible exact LeO.refl _)
   | (with_reducible exact LeO.none _)
   | (with_reducible refine LeO.ite ?_ ?_)
   | (with_reducible refine LeO.bind ?_ (fun _ => ?_))
theorem spec_l5Drop.mono : ∀ a0 a1 a2 a3 a4 a5 a6 k, LeO (spec_l5Drop.f k a0 a1 a2 a3 a4 a5 a6) (spec_l5Drop.f (k + 1) a0 a1 a2 a3 a4 a5 a6) := by
 intro a0 a1 a2 a3 a4 a5 a6 k
 have ih0 := spec_l5Drop.mono_l k
 unfold spec_l5Drop.f
 repeat' first
   | (with_reducible exact ih0 _ _ _ _ _ _ _ _ _)
   | (with_reducible exact LeO.refl _)
   | (with_reducible exact LeO.none _)
   | (with_reducible refine LeO.ite ?_ ?_)
   | (with_reducible refine LeO.bind ?_ (fun _ => ?_))
set_option maxHeartbeats 8000000 in
set_option maxRecDepth 100000 in
theorem spec_l5Drop.calls (k : Nat) (a0_0 : Bool) (P0_1_ : Nat → Prop) (u9000_ : Value) (l0_1 : List Int) (A0_2 : Option Addr) (c0_2 : Nat) (l0_2 : List (S67)) (a0_3 : Int) (a0_4 : Int) (a0_5 : Int) (a1 : Int) (r1 : Bool) (r2 : List Int) (r3 : List (S67)) (r4 : Int) (r5 : Int) (r6 : Int) (w0 w : World) (hB : Below w0.heap.size w0 w) (ho0_1 : Kd.R (Kd.int .i64) 3 w w0.heap.size P0_1_ u9000_ l0_1) (hr0_2 : ∀ W_, Kept w W_ (fun k_ => P0_1_ k_) → Kd.C k67 W_ A0_2 l0_2.length l0_2) (hc0_2 : l0_2.length ≤ c0_2) (h : spec_l5Drop.f k a0_0 l0_1 l0_2 a0_3 a0_4 a0_5 a1 = some (r1, r2, r3, r4, r5, r6)) :
  Calls Try.prog 79 #[.agg #[.bool a0_0, u9000_, .slice A0_2 l0_2.length c0_2, .int .i64 a0_3, .int .i64 a0_4, .int .i64 a0_5], .int .i64 a1] w fun e w' => ∃ v1_ v2_ : Value, e = .returned (.agg #[.bool r1, v1_, v2_, .int .i64 r4, .int .i64 r5, .int .i64 r6]) ∧ Kd.R (Kd.int .i64) 3 w' w0.heap.size (fun k_ => (P0_1_ k_ ∨ w.heap.size ≤ k_)) v1_ r2 ∧ Kd.R k67 67 w' w0.heap.size (fun k_ => (P0_1_ k_ ∨ w.heap.size ≤ k_)) v2_ r3 ∧ Below w0.heap.size w0 w' ∧ Kept w w' (fun k_ => P0_1_ k_) := by
 have hu38 := Try.underlying38
 have hu67 := Try.underlying67
 have HO0_1 := am (show Kd.R (Kd.int .i64) 3 w w0.heap.size (fun k_ => (P0_1_ k_ ∨ w.heap.size ≤ k_)) u9000_ l0_1 from Kd.R_mono ho0_1 (fun k_ hk => (.inl hk)))
 have HR0_2 := am hr0_2
 have HC0_2 := am hc0_2
 clear hr0_2 hc0_2
 have HK := am (Kept.refl w (fun k_ => P0_1_ k_))
 have HW0 := am hB.size
 have HB := am hB
 clear hB
 have H : (spec_l5Drop.l0 k a1 (([] : List (S67))) 0 a0_0 l0_1 l0_2 a0_3 a0_4 a0_5) = some (r1, r2, r3, r4, r5, r6) := h
 clear h
 obtain ⟨y1579, hy1579⟩ : ∃ y_ : List (S67), y_ = (([] : List (S67))) := ⟨_, rfl⟩
 replace H : (spec_l5Drop.l0 k a1 y1579 0 a0_0 l0_1 l0_2 a0_3 a0_4 a0_5) = some (r1, r2, r3, r4, r5, r6) := by first | (rw [hy1579]; with_reducible exact H) | (have H2_ := (Option.bind_some _ _).symm.trans H; rw [hy1579]; with_reducible exact H2_) | (have H2_ := (Option.bind_some _ _).symm.trans H; with_reducible exact H2_) | with_reducible exact H | (rw [hy1579]; exact H) | exact H
 have Ny1579 := am hy1579
 clear hy1579
 have H' := am H
 clear H
 obtain ⟨Ao3, co3, eo3⟩ := Kd.R_slice HO0_1.out
 subst eo3
 go_enter Try.func79, Try.ntmps79
 go_wp2_with (first | ((with_reducible refine gate_dst (N := 2) rfl ?_); refine box_event ?hg (N := 2) ?hd (cs := #[.bool a0_0, .slice Ao3 l0_1.length co3, .slice A0_2 l0_2.length c0_2, .int .i64 a0_3, .int .i64 a0_4, .int .i64 a0_5]) (t := 38) ?hr ?_; (case hd => rfl); (case hg => rfl); (case hr => first | (go_simp; done) | (go_simp; rfl)); intro gb1577 hg w4 hbox hb; replace HO0_1 := am (Kd.R_below (pkR HO0_1.out) hb); have BK1577 := am (hbox); have GW1577 := am ((by rw [hg]; exact (by first | exact HK.out.1 | exact (show Kept w _ (fun k_ => P0_1_ k_) from by repeat (first | (with_reducible first | exact HK.out | apply Kept.alloc | apply Kept.drewN | apply Kept.drew) | exact HK.out)).1) : w.heap.size ≤ gb1577)); replace HK := am (Kept.below (S := (fun k_ => P0_1_ k_)) (by repeat (first | (with_reducible first | exact HK.out | apply Kept.alloc | apply Kept.drewN | apply Kept.drew) | exact HK.out)) hb); have GE1577 := am ((by rw [hg]; exact (below_size (pkB HB.out)) : w0.heap.size ≤ gb1577)); replace HB := am (below_step (pkB HB.out) hb); clear hb hbox hg) | ((with_reducible refine gate_dst (N := 4) rfl ?_); refine box_event ?hg (N := 4) ?hd (cs := #[.bool false, .slice none 0 0, .slice none 0 0, .int .i64 0, .int .i64 0, .int .i64 0]) (t := 38) ?hr ?_; (case hd => rfl); (case hg => rfl); (case hr => first | (go_simp; done) | (go_simp; rfl)); intro gb1578 hg w5 hbox hb; replace HO0_1 := am (Kd.R_below (pkR HO0_1.out) hb); have BK1578 := am (hbox); have GW1578 := am ((by rw [hg]; exact (by first | exact HK.out.1 | exact (show Kept w _ (fun k_ => P0_1_ k_) from by repeat (first | (with_reducible first | exact HK.out | apply Kept.alloc | apply Kept.drewN | apply Kept.drew | refine Kept.setCell ?_ (.inr GW1577.out) _) | exact HK.out)).1) : w.heap.size ≤ gb1578)); replace HK := am (Kept.below (S := (fun k_ => P0_1_ k_)) (by repeat (first | (with_reducible first | exact HK.out | apply Kept.alloc | apply Kept.drewN | apply Kept.drew | refine Kept.setCell ?_ (.inr GW1577.out) _) | exact HK.out)) hb); have GE1578 := am ((by rw [hg]; exact (below_size (pkW HB.out)) : w0.heap.size ≤ gb1578)); replace HB := am (below_step (pkW HB.out) hb); have NB1577_1578 := am ((by rw [hg]; exact Nat.ne_of_lt (blk_lt (g := gb1577) (o := .cells #[.bool a0_0, .slice Ao3 l0_1.length co3, .slice A0_2 l0_2.length c0_2, .int .i64 a0_3, .int .i64 a0_4, .int .i64 a0_5] 38 (0, 0)) (pkK BK1577.out)) : gb1577 ≠ gb1578)); have NB1578_1577 := am ((by rw [hg]; exact Nat.ne_of_gt (blk_lt (g := gb1577) (o := .cells #[.bool a0_0, .slice Ao3 l0_1.length co3, .slice A0_2 l0_2.length c0_2, .int .i64 a0_3, .int .i64 a0_4, .int .i64 a0_5] 38 (0, 0)) (pkK BK1577.out)) : gb1578 ≠ gb1577)); replace BK1577 := am (blk_below (pkK BK1577.out) hb); clear hb hbox hg) | ((with_reducible refine gate_dst (N := 7) rfl ?_); refine Kd.R_lit k67 _ 67 ?hg (N := 7) ?hd (xs := ([] : List (S67))) (inner := []) (ok := fun _ => True) (okp := fun _ => True) ?hr ?hp (fun _ hk => hk) trivial (Below.refl _ _) (Nat.le_refl _) (by simp) ?_; (case hd => rfl); (case hg => rfl); (case hr => first | (go_simp; done) | (go_simp; rfl)); (case hp => exact (Reps.none _ _)); intro v1580 w6 ho7 hb hg_ hnew_; clear hg_ hnew_; (first | rw [← Ny1579.out] at ho7 | (simp only [Int.reduceToNat] at ho7; rw [← Ny1579.out] at ho7)); replace HO0_1 := am (Kd.R_below (pkR HO0_1.out) hb); have HO1581 := am (Kd.R_lower (Kd.R_newM (M := fun k_ => (P0_1_ k_ ∨ w.heap.size ≤ k_)) ho7 (by first | exact HK.out.1 | exact (show Kept w _ (fun k_ => P0_1_ k_) from by repeat (first | (with_reducible first | exact HK.out | apply Kept.alloc | apply Kept.drewN | apply Kept.drew | refine Kept.setCell ?_ (.inr GW1577.out) _ | refine Kept.setCell ?_ (.inr GW1578.out) _) | exact HK.out)).1) (fun k_ h_ => .inr h_)) (below_size (pkW HB.out))); replace BK1577 := am (blk_below (pkK BK1577.out) hb); replace BK1578 := am (blk_below (pkK BK1578.out) hb); replace HK := am (Kept.below (S := (fun k_ => P0_1_ k_)) (by repeat (first | (with_reducible first | exact HK.out | apply Kept.alloc | apply Kept.drewN | apply Kept.drew | refine Kept.setCell ?_ (.inr GW1577.out) _ | refine Kept.setCell ?_ (.inr GW1578.out) _) | exact HK.out)) hb); replace HB := am (below_step (pkW HB.out) hb); clear hb ho7))
 go_loopg [5, 6] k (fun kq v5 v6 w' => ∃ (x5_1 : List (S67)) (x6_1 : Int), v6 = .int .i64 x6_1 ∧ Aside0 (spec_l5Drop.l0 kq a1 x5_1 x6_1 a0_0 l0_1 l0_2 a0_3 a0_4 a0_5 = some (r1, r2, r3, r4, r5, r6)) ∧ Aside0 (kq ≤ k) ∧ Aside0 (Kd.R k67 67 w' w0.heap.size (fun k_ => (P0_1_ k_ ∨ w.heap.size ≤ k_)) v5 x5_1) ∧ Aside0 (Kd.R (Kd.int .i64) 3 w' w0.heap.size (fun k_ => (P0_1_ k_ ∨ w.heap.size ≤ k_)) (.slice Ao3 l0_1.length co3) l0_1) ∧ Aside0 (w'.heap[gb1577]? = some (.cells #[.bool a0_0, (.slice Ao3 l0_1.length co3), (.slice A0_2 l0_2.length c0_2), .int .i64 a0_3, .int .i64 a0_4, .int .i64 a0_5] 38 (0, 0))) ∧ Aside0 (w'.heap[gb1578]? = some (.cells #[.bool false, (.slice none 0 0), (.slice none 0 0), .int .i64 0, .int .i64 0, .int .i64 0] 38 (0, 0))) ∧ Aside0 (Kept w w' (fun k_ => P0_1_ k_)) ∧ Aside0 (Below w0.heap.size w0 w'))
 case atStart => exact ⟨(y1579), (0), rfx, H', ⟨Nat.le_refl _⟩, ⟨by (with_reducible repeat (first | apply Kd.R_alloc | apply Kd.R_drewN | apply Kd.R_drew)); exact Kd.R_mono HO1581.out (fun _ hk => hk.1)⟩, ⟨pkR HO0_1.out⟩, ⟨pkK BK1577.out⟩, ⟨pkK BK1578.out⟩, ⟨by repeat (first | (with_reducible first | exact HK.out | apply Kept.alloc | apply Kept.drewN | apply Kept.drew | refine Kept.setCell ?_ (.inr GW1577.out) _ | refine Kept.setCell ?_ (.inr GW1578.out) _) | exact HK.out)⟩, ⟨pkW HB.out⟩⟩
 case round =>
  clear H'
  try clear p2
  try clear c7
  obtain ⟨x5_1, x6_1, rfl, HA, HK1, HO_5, HO_1578001, BK1577, BK1578, HK, HB⟩ := hrel
  cases gk with
  | zero => exact absurd HA.out (by simp [spec_l5Drop.l0])
  | succ k1 =>
   have H := HA.out
   clear HA
   simp only [spec_l5Drop.l0] at H
   by_cases c8 : x6_1 < (l0_2.length : Int)
   ·rw [if_pos c8] at H
    have c8b0 : decide (x6_1 < (l0_2.length : Int)) = true := decide_eq_true c8
    clear c8
    by_cases c9 : x6_1 = a1
    ·rw [if_pos c9] at H
     have c9b0 : (x6_1 == a1) = true := beq_iff_eq.mpr c9
     have c9b1 : (x6_1 != a1) = false := bne_eq_false_iff_eq.mpr c9
     clear c9
     have H' := am H
     clear H
     have hnb10 := NB1577_1578.out
     have hnc10 := NB1578_1577.out
     obtain ⟨hcz11_0, hcz11_1, hcz11_2, hcz11_3, hcz11_4, hcz11_5, hfz11_0, hfz11_1, hfz11_2, hfz11_3, hfz11_4, hfz11_5⟩ := bk6 BK1577.out
     go_wp2
     go_roundg k1
     case measure => have := HK1.out; omega
     case rel => exact ⟨(x5_1), (wrap64 (x6_1 + 1)), rfx, H', ⟨by have := HK1.out; omega⟩, ⟨pkR HO_5.out⟩, ⟨pkR HO_1578001.out⟩, ⟨pkK BK1577.out⟩, ⟨pkK BK1578.out⟩, ⟨by repeat (first | (with_reducible first | exact HK.out | apply Kept.alloc | apply Kept.drewN | apply Kept.drew | refine Kept.setCell ?_ (.inr GW1577.out) _ | refine Kept.setCell ?_ (.inr GW1578.out) _) | exact HK.out)⟩, ⟨pkW HB.out⟩⟩
    ·rw [if_neg c9] at H
     have c9b0 : (x6_1 == a1) = false := beq_eq_false_iff_ne.mpr c9
     have c9b1 : (x6_1 != a1) = true := bne_iff_ne.mpr c9
     by_cases c12 : 0 ≤ x6_1
     ·rw [if_pos c12] at H
      have c12b0 : decide (0 ≤ x6_1) = true := decide_eq_true c12
      clear c12
      by_cases c13 : x5_1.length < 8796093022208
      ·rw [if_pos c13] at H
       have LMc13 := am c13
       clear c13
       obtain ⟨y1583, hy1583⟩ : ∃ y_ : List (S67), y_ = (x5_1 ++ [(⟨(rd_T67 l0_2 x6_1).f0, (rd_T67 l0_2 x6_1).f1⟩ : S67)]) := ⟨_, rfl⟩
       replace H : (spec_l5Drop.l0 k1 a1 y1583 (wrap64 (x6_1 + 1)) a0_0 l0_1 l0_2 a0_3 a0_4 a0_5) = some (r1, r2, r3, r4, r5, r6) := by first | (rw [hy1583]; with_reducible exact H) | (have H2_ := (Option.bind_some _ _).symm.trans H; rw [hy1583]; with_reducible exact H2_) | (have H2_ := (Option.bind_some _ _).symm.trans H; with_reducible exact H2_) | with_reducible exact H | (rw [hy1583]; exact H) | exact H
       have Ny1583 := am hy1583
       clear hy1583
       have H' := am H
       clear H
       have hnb14 := NB1577_1578.out
       have hnc14 := NB1578_1577.out
       obtain ⟨hcz15_0, hcz15_1, hcz15_2, hcz15_3, hcz15_4, hcz15_5, hfz15_0, hfz15_1, hfz15_2, hfz15_3, hfz15_4, hfz15_5⟩ := bk6 BK1577.out
       have p1582 : 0 ≤ (x6_1 : Int) := ofd
       have q1582 : x6_1 < (l0_2.length : Int) := ofd
       obtain ⟨ad1582, e1582, hx1582_0, hx1582_1⟩ := at_T67 (Kd.C_kept_now HR0_2.out HK.out) x6_1 p1582 q1582
       cases e1582
       replace p1582 := eq_true p1582
       replace q1582 := eq_true q1582
       go_wp2_with (first | ((with_reducible refine gate_builtin (b := .append) (xs := #[.tmp 18, .tmp 24]) rfl ?_); at_builtin; refine Kd.R_append k67 (w0 := w0) w0.heap.size rfl (.tmp 18) (.tmp 24) 36 67 (.agg #[(.int .i64 0), (.bool false)]) 16 rfl Try.underlying36 info67 rfl (by decide) (by omega) u5 x5_1 (⟨(rd_T67 l0_2 x6_1).f0, (rd_T67 l0_2 x6_1).f1⟩ : S67) [.int .i64 ((rd_T67 l0_2 x6_1).f0), .bool ((rd_T67 l0_2 x6_1).f1)] (fun k_ => (P0_1_ k_ ∨ w.heap.size ≤ k_)) (fun _ => False) rfl rfl ?aP (fun _ hk => hk.elim) ?aF ?aO ?aB ?aS ?aL ?_; (case aP => exact k67_mkM _ _ _ (⟨(rd_T67 l0_2 x6_1).f0, (rd_T67 l0_2 x6_1).f1⟩ : S67)); (case aB => exact (pkW HB.out)); (case aF => exact (fun k_ hk => (.inr (Nat.le_trans (by first | exact HK.out.1 | exact (show Kept w _ (fun k_ => P0_1_ k_) from by repeat (first | (with_reducible first | exact HK.out | apply Kept.alloc | apply Kept.drewN | apply Kept.drew | refine Kept.setCell ?_ (.inr GW1577.out) _ | refine Kept.setCell ?_ (.inr GW1578.out) _) | exact HK.out)).1) hk)))); (case aO => exact (pkR HO_5.out)); (case aS => exact (below_size (pkW HB.out))); (case aL => have := LMc13.out; omega); intro v1584 w16 ho hb hg hat; rw [← Ny1583.out] at ho; replace HO_1578001 := am (Kd.R_over' (pkR HO_1578001.out) (Kd.R_typed (pkR HO_5.out)) (by decide) hg); replace BK1577 := am (blk_grown (g := gb1577) (o := .cells #[.bool a0_0, .slice Ao3 l0_1.length co3, .slice (some ad1582) l0_2.length c0_2, .int .i64 a0_3, .int .i64 a0_4, .int .i64 a0_5] 38 (0, 0)) (pkK BK1577.out) hg (Kd.R_ne HO_5.out BK1577.out (by decide))); replace BK1578 := am (blk_grown (g := gb1578) (o := .cells #[.bool false, .slice none 0 0, .slice none 0 0, .int .i64 0, .int .i64 0, .int .i64 0] 38 (0, 0)) (pkK BK1578.out) hg (Kd.R_ne HO_5.out BK1578.out (by decide))); replace HB := am (hb); replace HK := am (Kept.of_grown (S := (fun k_ => P0_1_ k_)) hg (by repeat (first | (with_reducible first | exact HK.out | apply Kept.alloc | apply Kept.drewN | apply Kept.drew | refine Kept.setCell ?_ (.inr GW1577.out) _ | refine Kept.setCell ?_ (.inr GW1578.out) _) | exact HK.out)) (fun k_ e_ => (HO_5.out.1 k_ e_))); have HO1585 := am (ho); clear HO_5; clear ho hb hg hat))
       go_roundg k1
       case measure => have := HK1.out; omega
       case rel => exact ⟨(y1583), (wrap64 (x6_1 + 1)), rfx, H', ⟨by have := HK1.out; omega⟩, ⟨pkR HO1585.out⟩, ⟨pkR HO_1578001.out⟩, ⟨pkK BK1577.out⟩, ⟨pkK BK1578.out⟩, ⟨by repeat (first | (with_reducible first | exact HK.out | apply Kept.alloc | apply Kept.drewN | apply Kept.drew | refine Kept.setCell ?_ (.inr GW1577.out) _ | refine Kept.setCell ?_ (.inr GW1578.out) _) | exact HK.out)⟩, ⟨pkW HB.out⟩⟩
      ·rw [if_neg c13] at H
       exact absurd H (by simp)
     ·rw [if_neg c12] at H
      exact absurd H (by simp)
   ·rw [if_neg c8] at H
    have c8b0 : decide (x6_1 < (l0_2.length : Int)) = false := decide_eq_false c8
    clear c8
    simp only [Option.some.injEq, Prod.mk.injEq] at H
    obtain ⟨rfl, rfl, rfl, rfl, rfl, rfl⟩ := H
    have hnb17 := NB1577_1578.out
    have hnc17 := NB1578_1577.out
    obtain ⟨hcz18_0, hcz18_1, hcz18_2, hcz18_3, hcz18_4, hcz18_5, hfz18_0, hfz18_1, hfz18_2, hfz18_3, hfz18_4, hfz18_5⟩ := bk6 BK1577.out
    obtain ⟨Ao19, co19, eo19⟩ := Kd.R_slice HO_5.out
    subst eo19
    obtain ⟨hcz20_0, hcz20_1, hcz20_2, hcz20_3, hcz20_4, hcz20_5, hfz20_0, hfz20_1, hfz20_2, hfz20_3, hfz20_4, hfz20_5⟩ := bk6 BK1578.out
    go_wp2
    refine bodyPost_ret (results_cell_row rfl _ _ gb1578 38 #[.bool a0_0, .slice Ao3 l0_1.length co3, .slice Ao19 x5_1.length co19, .int .i64 a0_3, .int .i64 a0_4, .int .i64 a0_5] (0, 0) _ rfl (by (with_reducible repeat (first | refine blk_drewN ?_ _ | refine blk_drew ?_ | refine blk_alloc ?_ _)); refine blk_put (cs := #[.bool a0_0, .slice Ao3 l0_1.length co3, .slice Ao19 x5_1.length co19, .int .i64 a0_3, .int .i64 a0_4, .int .i64 0]) ?_ 5 _ rfl; (with_reducible repeat (first | refine blk_drewN ?_ _ | refine blk_drew ?_ | refine blk_alloc ?_ _)); refine blk_put (cs := #[.bool a0_0, .slice Ao3 l0_1.length co3, .slice Ao19 x5_1.length co19, .int .i64 a0_3, .int .i64 0, .int .i64 0]) ?_ 4 _ rfl; (with_reducible repeat (first | refine blk_drewN ?_ _ | refine blk_drew ?_ | refine blk_alloc ?_ _)); refine blk_put (cs := #[.bool a0_0, .slice Ao3 l0_1.length co3, .slice Ao19 x5_1.length co19, .int .i64 0, .int .i64 0, .int .i64 0]) ?_ 3 _ rfl; (with_reducible repeat (first | refine blk_drewN ?_ _ | refine blk_drew ?_ | refine blk_alloc ?_ _)); refine blk_put (cs := #[.bool a0_0, .slice Ao3 l0_1.length co3, .slice none 0 0, .int .i64 0, .int .i64 0, .int .i64 0]) ?_ 2 _ rfl; (with_reducible repeat (first | refine blk_drewN ?_ _ | refine blk_drew ?_ | refine blk_alloc ?_ _)); refine blk_put (cs := #[.bool a0_0, .slice none 0 0, .slice none 0 0, .int .i64 0, .int .i64 0, .int .i64 0]) ?_ 1 _ rfl; (with_reducible repeat (first | refine blk_drewN ?_ _ | refine blk_drew ?_ | refine blk_alloc ?_ _)); refine blk_put (cs := #[.bool false, .slice none 0 0, .slice none 0 0, .int .i64 0, .int .i64 0, .int .i64 0]) ?_ 0 _ rfl; (with_reducible repeat (first | refine blk_drewN ?_ _ | refine blk_drew ?_ | refine blk_alloc ?_ _)); refine blk_far ?_ NB1578_1577.out _; exact pkK BK1578.out) Try.underlying38 rfl (by kernel_rfl)) rfl ?_
    exact ⟨_, _, rfe, by (with_reducible repeat (first | apply Kd.R_alloc | apply Kd.R_drewN | apply Kd.R_drew)); exact Kd.R_mono (Kd.R_far (p := ⟨gb1578, 5, none⟩) (Kd.R_far (p := ⟨gb1578, 4, none⟩) (Kd.R_far (p := ⟨gb1578, 3, none⟩) (Kd.R_far (p := ⟨gb1578, 2, none⟩) (Kd.R_far (p := ⟨gb1578, 1, none⟩) (Kd.R_far (p := ⟨gb1578, 0, none⟩) (Kd.R_far (p := ⟨gb1577, 2, none⟩) (Kd.R_types (Kd.R_types HO_1578001.out BK1577.out (by decide)) BK1578.out (by decide)) (fun _ hk => hk.1.2) (.slice Ao19 x5_1.length co19)) (fun _ hk => hk.2) (.bool a0_0)) (fun _ hk => hk.2) (.slice Ao3 l0_1.length co3)) (fun _ hk => hk.2) (.slice Ao19 x5_1.length co19)) (fun _ hk => hk.2) (.int .i64 a0_3)) (fun _ hk => hk.2) (.int .i64 a0_4)) (fun _ hk => hk.2) (.int .i64 a0_5)) (fun _ hk => hk.1.1), by (with_reducible repeat (first | apply Kd.R_alloc | apply Kd.R_drewN | apply Kd.R_drew)); exact Kd.R_mono (Kd.R_far (p := ⟨gb1578, 5, none⟩) (Kd.R_far (p := ⟨gb1578, 4, none⟩) (Kd.R_far (p := ⟨gb1578, 3, none⟩) (Kd.R_far (p := ⟨gb1578, 2, none⟩) (Kd.R_far (p := ⟨gb1578, 1, none⟩) (Kd.R_far (p := ⟨gb1578, 0, none⟩) (Kd.R_far (p := ⟨gb1577, 2, none⟩) (Kd.R_types (Kd.R_types HO_5.out BK1577.out (by decide)) BK1578.out (by decide)) (fun _ hk => hk.1.2) (.slice Ao19 x5_1.length co19)) (fun _ hk => hk.2) (.bool a0_0)) (fun _ hk => hk.2) (.slice Ao3 l0_1.length co3)) (fun _ hk => hk.2) (.slice Ao19 x5_1.length co19)) (fun _ hk => hk.2) (.int .i64 a0_3)) (fun _ hk => hk.2) (.int .i64 a0_4)) (fun _ hk => hk.2) (.int .i64 a0_5)) (fun _ hk => hk.1.1), pkW HB.out, by repeat (first | (with_reducible first | exact HK.out | apply Kept.alloc | apply Kept.drewN | apply Kept.drew | refine Kept.setCell ?_ (.inr GW1577.out) _ | refine Kept.setCell ?_ (.inr GW1578.out) _) | exact HK.out)⟩
end Go.Proofs.Ytdagpmnadapbjaa.Z
