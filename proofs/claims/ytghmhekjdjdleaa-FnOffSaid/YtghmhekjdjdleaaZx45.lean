/- The Go functions spec_l15Tokens as Lean functions, each with a proof that its code comes to just these answers; conditions: those of each theorem. -/
import Derived.Test.YtghmhekjdjdleaaZx0
import Derived.Test.YtghmhekjdjdleaaZx44
namespace Go.Proofs.Ytghmhekjdjdleaa.Z
open Go.RowKit Go.Proofs.YtghmhekjdjdleaaW.PrintWords Go.Proofs.YtghmhekjdjdleaaW.PrintLast Go.Proofs.YtghmhekjdjdleaaW.PrintMore
attribute [local go_sem] max2_int min2_int max_two min_two max_three min_three max_four min_four   -- for this text's walks alone
set_option linter.unusedVariables false
set_option linter.unusedSimpArgs false
mutual
def spec_l15Tokens.j0 : Nat → Bool → List Int → List Bool → List Int → List Bool → Option (Bool)
  | 0, _, _, _, _, _ => none
  | k + 1, x20, x1058000, x1058001, x1059000, x1059001 => if x20 = true then (some false) else (spec_l15Tokens.l0 k 0 x1058000 x1058001 x1059000 x1059001)
def spec_l15Tokens.l0 : Nat → Int → List Int → List Bool → List Int → List Bool → Option (Bool)
  | 0, _, _, _, _, _ => none
  | k + 1, x5, x1058000, x1058001, x1059000, x1059001 => if x5 < (x1058001.length : Int) then (if 0 ≤ x5 then (if x5 < (x1059001.length : Int) then (if ((rdOf false x1058001 x5) != (rdOf false x1059001 x5)) = true then (some false) else (spec_l15Tokens.l0 k (wrap64 (x5 + 1)) x1058000 x1058001 x1059000 x1059001)) else (none)) else (none)) else (some true)
end
def spec_l15Tokens.f (k : Nat) (l0_0 : List Int) (l0_1 : List Bool) (l1_0 : List Int) (l1_1 : List Bool) : Option (Bool) := (spec_l15Ints.f k l0_0 l1_0).bind fun t1059 => (if t1059 = true then (spec_l15Tokens.j0 k ((l0_1.length : Int) != (l1_1.length : Int)) l0_0 l0_1 l1_0 l1_1) else (spec_l15Tokens.j0 k true l0_0 l0_1 l1_0 l1_1))
theorem spec_l15Tokens.mono_l : ∀ k, (∀ y0 y1 y2 y3 y4, LeO (spec_l15Tokens.j0 k y0 y1 y2 y3 y4) (spec_l15Tokens.j0 (k + 1) y0 y1 y2 y3 y4)) ∧ (∀ y0 y1 y2 y3 y4, LeO (spec_l15Tokens.l0 k y0 y1 y2 y3 y4) (spec_l15Tokens.l0 (k + 1) y0 y1 y2 y3 y4))
  | 0 => ⟨fun _ _ _ _ _ r h => by simp [spec_l15Tokens.j0] at h, fun _ _ _ _ _ r h => by simp [spec_l15Tokens.l0] at h⟩
  | k + 1 => by
    obtain ⟨ih0, ih1⟩ := spec_l15Tokens.mono_l k
    refine ⟨?_, ?_⟩
    · intro y0 y1 y2 y3 y4
      unfold spec_l15Tokens.j0
      repeat' first
      | (with_reducible exact ih0 _ _ _ _ _)
      | (with_reducible exact ih1 _ _ _ _ _)
      | (with_reducible exact spec_l15Ints.mono _ _ _)
      | (with_reducible exact LeO.refl _)
      | (with_reducible exact LeO.none _)
      | (with_reducible refine LeO.ite ?_ ?_)
      | (with_reducible refine LeO.bind ?_ (fun _ => ?_))
    · intro y0 y1 y2 y3 y4
      unfold spec_l15Tokens.l0
      repeat' first
      | (with_reducible exact ih0 _ _ _ _ _)
      | (with_reducible exact ih1 _ _ _ _ _)
      | (with_reducible exact spec_l15Ints.mono _ _ _)
      | (with_reducible exact LeO.refl _)
      | (with_reducible exact LeO.none _)
      | (with_reducible refine LeO.ite ?_ ?_)
      | (with_reducible refine LeO.bind ?_ (fun _ => ?_))
theorem spec_l15Tokens.mono : ∀ a0 a1 a2 a3 k, LeO (spec_l15Tokens.f k a0 a1 a2 a3) (spec_l15Tokens.f (k + 1) a0 a1 a2 a3) := by
  intro a0 a1 a2 a3 k
  obtain ⟨ih0, ih1⟩ := spec_l15Tokens.mono_l k
  unfold spec_l15Tokens.f
  repeat' first
      | (with_reducible exact ih0 _ _ _ _ _)
      | (with_reducible exact ih1 _ _ _ _ _)
      | (with_reducible exact spec_l15Ints.mono _ _ _)
      | (with_reducible exact LeO.refl _)
      | (with_reducible exact LeO.none _)
      | (with_reducible refine LeO.ite ?_ ?_)
      | (with_reducible refine LeO.bind ?_ (fun _ => ?_))
set_option maxHeartbeats 8000000 in
set_option maxRecDepth 100000 in
theorem spec_l15Tokens.calls (k : Nat) (A0_0 : Option Addr) (c0_0 : Nat) (l0_0 : List Int) (A0_1 : Option Addr) (c0_1 : Nat) (l0_1 : List Bool) (A1_0 : Option Addr) (c1_0 : Nat) (l1_0 : List Int) (A1_1 : Option Addr) (c1_1 : Nat) (l1_1 : List Bool) (r : Bool) (w : World) (hr0_0 : Kd.C (Kd.int .i64) w A0_0 l0_0.length l0_0) (hc0_0 : l0_0.length ≤ c0_0) (hr0_1 : Kd.C Kd.bool w A0_1 l0_1.length l0_1) (hc0_1 : l0_1.length ≤ c0_1) (hr1_0 : Kd.C (Kd.int .i64) w A1_0 l1_0.length l1_0) (hc1_0 : l1_0.length ≤ c1_0) (hr1_1 : Kd.C Kd.bool w A1_1 l1_1.length l1_1) (hc1_1 : l1_1.length ≤ c1_1) (h : spec_l15Tokens.f k l0_0 l0_1 l1_0 l1_1 = some r) :
    Calls Try.prog 78 #[.agg #[.slice A0_0 l0_0.length c0_0, .slice A0_1 l0_1.length c0_1], .agg #[.slice A1_0 l1_0.length c1_0, .slice A1_1 l1_1.length c1_1]] w fun e w' => e = .returned (.bool r) ∧ Below w.heap.size w w' := by
  have hu33 := Try.underlying33
  have HR0_0 := am hr0_0
  have HC0_0 := am hc0_0
  clear hr0_0 hc0_0
  have HR0_1 := am hr0_1
  have HC0_1 := am hc0_1
  clear hr0_1 hc0_1
  have HR1_0 := am hr1_0
  have HC1_0 := am hc1_0
  clear hr1_0 hc1_0
  have HR1_1 := am hr1_1
  have HC1_1 := am hc1_1
  clear hr1_1 hc1_1
  have HB := am (Below.refl w.heap.size w)
  have H : ((spec_l15Ints.f k l0_0 l1_0).bind fun t1059 => (if t1059 = true then (spec_l15Tokens.j0 k ((l0_1.length : Int) != (l1_1.length : Int)) l0_0 l0_1 l1_0 l1_1) else (spec_l15Tokens.j0 k true l0_0 l0_1 l1_0 l1_1))) = some r := h
  clear h
  have HC3 := am H
  clear H
  go_enter Try.func78, Try.ntmps78
  go_upto_region 1 with (first | ((with_reducible refine gate_dst (N := 2) rfl ?_); (try (refine gate_guard (by rfl) ?_; dsimp only)); refine box_event ?hg (N := 2) ?hd (cs := #[.slice A0_0 l0_0.length c0_0, .slice A0_1 l0_1.length c0_1]) (t := 33) ?hr ?_; (case hd => rfl); (case hg => rfl); (case hr => first | (go_simp; done) | (go_simp; rfl)); intro gb1057 hg w4 hbox hb; have n0_ := am (below_step (pkB HB.out) hb); have n1_ := am (hbox); have n2_ := am ((by rw [hg]; exact (below_size (pkB HB.out)) : w.heap.size ≤ gb1057)); have n3_ := am ((by rw [hg]; exact (below_size (pkB HB.out)) : w.heap.size ≤ gb1057)); clear HB; have HB := n0_; have BK1057 := n1_; have GW1057 := n2_; have GE1057 := n3_; clear n0_ n1_ n2_ n3_; clear hb hbox hg) | ((with_reducible refine gate_dst (N := 3) rfl ?_); (try (refine gate_guard (by rfl) ?_; dsimp only)); refine box_event ?hg (N := 3) ?hd (cs := #[.slice A1_0 l1_0.length c1_0, .slice A1_1 l1_1.length c1_1]) (t := 33) ?hr ?_; (case hd => rfl); (case hg => rfl); (case hr => first | (go_simp; done) | (go_simp; rfl)); intro gb1058 hg w5 hbox hb; have n0_ := am (blk_below (pkK BK1057.out) hb); have n1_ := am (below_step (pkW HB.out) hb); have n2_ := am (hbox); have n3_ := am ((by rw [hg]; exact (below_size (pkW HB.out)) : w.heap.size ≤ gb1058)); have n4_ := am ((by rw [hg]; exact (below_size (pkW HB.out)) : w.heap.size ≤ gb1058)); have n5_ := am ((by rw [hg]; exact Nat.ne_of_lt (blk_lt (g := gb1057) (o := .cells #[.slice A0_0 l0_0.length c0_0, .slice A0_1 l0_1.length c0_1] 33 (0, 0)) (pkK BK1057.out)) : gb1057 ≠ gb1058)); have n6_ := am ((by rw [hg]; exact Nat.ne_of_gt (blk_lt (g := gb1057) (o := .cells #[.slice A0_0 l0_0.length c0_0, .slice A0_1 l0_1.length c0_1] 33 (0, 0)) (pkK BK1057.out)) : gb1058 ≠ gb1057)); clear BK1057 HB; have BK1057 := n0_; have HB := n1_; have BK1058 := n2_; have GW1058 := n3_; have GE1058 := n4_; have NB1057_1058 := n5_; have NB1058_1057 := n6_; clear n0_ n1_ n2_ n3_ n4_ n5_ n6_; clear hb hbox hg))
  repeat (go_quiet (first | ((with_reducible refine gate_dst (N := 2) rfl ?_); (try (refine gate_guard (by rfl) ?_; dsimp only)); refine box_event ?hg (N := 2) ?hd (cs := #[.slice A0_0 l0_0.length c0_0, .slice A0_1 l0_1.length c0_1]) (t := 33) ?hr ?_; (case hd => rfl); (case hg => rfl); (case hr => first | (go_simp; done) | (go_simp; rfl)); intro gb1057 hg w4 hbox hb; have n0_ := am (below_step (pkB HB.out) hb); have n1_ := am (hbox); have n2_ := am ((by rw [hg]; exact (below_size (pkB HB.out)) : w.heap.size ≤ gb1057)); have n3_ := am ((by rw [hg]; exact (below_size (pkB HB.out)) : w.heap.size ≤ gb1057)); clear HB; have HB := n0_; have BK1057 := n1_; have GW1057 := n2_; have GE1057 := n3_; clear n0_ n1_ n2_ n3_; clear hb hbox hg) | ((with_reducible refine gate_dst (N := 3) rfl ?_); (try (refine gate_guard (by rfl) ?_; dsimp only)); refine box_event ?hg (N := 3) ?hd (cs := #[.slice A1_0 l1_0.length c1_0, .slice A1_1 l1_1.length c1_1]) (t := 33) ?hr ?_; (case hd => rfl); (case hg => rfl); (case hr => first | (go_simp; done) | (go_simp; rfl)); intro gb1058 hg w5 hbox hb; have n0_ := am (blk_below (pkK BK1057.out) hb); have n1_ := am (below_step (pkW HB.out) hb); have n2_ := am (hbox); have n3_ := am ((by rw [hg]; exact (below_size (pkW HB.out)) : w.heap.size ≤ gb1058)); have n4_ := am ((by rw [hg]; exact (below_size (pkW HB.out)) : w.heap.size ≤ gb1058)); have n5_ := am ((by rw [hg]; exact Nat.ne_of_lt (blk_lt (g := gb1057) (o := .cells #[.slice A0_0 l0_0.length c0_0, .slice A0_1 l0_1.length c0_1] 33 (0, 0)) (pkK BK1057.out)) : gb1057 ≠ gb1058)); have n6_ := am ((by rw [hg]; exact Nat.ne_of_gt (blk_lt (g := gb1057) (o := .cells #[.slice A0_0 l0_0.length c0_0, .slice A0_1 l0_1.length c0_1] 33 (0, 0)) (pkK BK1057.out)) : gb1058 ≠ gb1057)); clear BK1057 HB; have BK1057 := n0_; have HB := n1_; have BK1058 := n2_; have GW1058 := n3_; have GE1058 := n4_; have NB1057_1058 := n5_; have NB1058_1057 := n6_; clear n0_ n1_ n2_ n3_ n4_ n5_ n6_; clear hb hbox hg)); go_upto_region 1 with (first | ((with_reducible refine gate_dst (N := 2) rfl ?_); (try (refine gate_guard (by rfl) ?_; dsimp only)); refine box_event ?hg (N := 2) ?hd (cs := #[.slice A0_0 l0_0.length c0_0, .slice A0_1 l0_1.length c0_1]) (t := 33) ?hr ?_; (case hd => rfl); (case hg => rfl); (case hr => first | (go_simp; done) | (go_simp; rfl)); intro gb1057 hg w4 hbox hb; have n0_ := am (below_step (pkB HB.out) hb); have n1_ := am (hbox); have n2_ := am ((by rw [hg]; exact (below_size (pkB HB.out)) : w.heap.size ≤ gb1057)); have n3_ := am ((by rw [hg]; exact (below_size (pkB HB.out)) : w.heap.size ≤ gb1057)); clear HB; have HB := n0_; have BK1057 := n1_; have GW1057 := n2_; have GE1057 := n3_; clear n0_ n1_ n2_ n3_; clear hb hbox hg) | ((with_reducible refine gate_dst (N := 3) rfl ?_); (try (refine gate_guard (by rfl) ?_; dsimp only)); refine box_event ?hg (N := 3) ?hd (cs := #[.slice A1_0 l1_0.length c1_0, .slice A1_1 l1_1.length c1_1]) (t := 33) ?hr ?_; (case hd => rfl); (case hg => rfl); (case hr => first | (go_simp; done) | (go_simp; rfl)); intro gb1058 hg w5 hbox hb; have n0_ := am (blk_below (pkK BK1057.out) hb); have n1_ := am (below_step (pkW HB.out) hb); have n2_ := am (hbox); have n3_ := am ((by rw [hg]; exact (below_size (pkW HB.out)) : w.heap.size ≤ gb1058)); have n4_ := am ((by rw [hg]; exact (below_size (pkW HB.out)) : w.heap.size ≤ gb1058)); have n5_ := am ((by rw [hg]; exact Nat.ne_of_lt (blk_lt (g := gb1057) (o := .cells #[.slice A0_0 l0_0.length c0_0, .slice A0_1 l0_1.length c0_1] 33 (0, 0)) (pkK BK1057.out)) : gb1057 ≠ gb1058)); have n6_ := am ((by rw [hg]; exact Nat.ne_of_gt (blk_lt (g := gb1057) (o := .cells #[.slice A0_0 l0_0.length c0_0, .slice A0_1 l0_1.length c0_1] 33 (0, 0)) (pkK BK1057.out)) : gb1058 ≠ gb1057)); clear BK1057 HB; have BK1057 := n0_; have HB := n1_; have BK1058 := n2_; have GW1058 := n3_; have GE1058 := n4_; have NB1057_1058 := n5_; have NB1058_1057 := n6_; clear n0_ n1_ n2_ n3_ n4_ n5_ n6_; clear hb hbox hg)))
  (try simp only [Act.put, List.setIfInBounds_toArray, List.set_cons_zero, List.set_cons_succ])
  go_cut [20] (fun v20 wc => ∃ (kq : Nat) (x20_2 : Bool), v20 = .bool x20_2 ∧ Aside0 (spec_l15Tokens.j0 kq x20_2 l0_0 l0_1 l1_0 l1_1 = some r) ∧ Aside0 (kq ≤ k) ∧ Aside0 (wc.heap[gb1057]? = some (.cells #[(.slice A0_0 l0_0.length c0_0), (.slice A0_1 l0_1.length c0_1)] 33 (0, 0))) ∧ Aside0 (wc.heap[gb1058]? = some (.cells #[(.slice A1_0 l1_0.length c1_0), (.slice A1_1 l1_1.length c1_1)] 33 (0, 0))) ∧ Aside0 (Below w.heap.size w wc))
  case first =>
    have H := HC3.out
    clear HC3
    replace H := Option.bind_eq_some_iff.mp H
    obtain ⟨t1059, A60, H⟩ := H
    replace H : (if t1059 = true then (spec_l15Tokens.j0 k ((l0_1.length : Int) != (l1_1.length : Int)) l0_0 l0_1 l1_0 l1_1) else (spec_l15Tokens.j0 k true l0_0 l0_1 l1_0 l1_1)) = some r := H
    have A6 := am A60
    clear A60
    by_cases c7 : t1059 = true
    · subst c7
      replace H : (spec_l15Tokens.j0 k ((l0_1.length : Int) != (l1_1.length : Int)) l0_0 l0_1 l1_0 l1_1) = some r := by rw [if_pos rfl] at H; exact H
      have H' := am H
      clear H
      have hnb8 := NB1057_1058.out
      have hnc8 := NB1058_1057.out
      have hcz9_0 : w5.cell? ⟨gb1057, 0, none⟩ = some (.slice A0_0 l0_0.length c0_0) := (blk_cell BK1057.out 0).trans rfl
      have hcz9_1 : w5.cell? ⟨gb1057, 1, none⟩ = some (.slice A0_1 l0_1.length c0_1) := (blk_cell BK1057.out 1).trans rfl
      have hfz9_0 := blk_frozen BK1057.out 0
      have hfz9_1 := blk_frozen BK1057.out 1
      have hcz10_0 : w5.cell? ⟨gb1058, 0, none⟩ = some (.slice A1_0 l1_0.length c1_0) := (blk_cell BK1058.out 0).trans rfl
      have hcz10_1 : w5.cell? ⟨gb1058, 1, none⟩ = some (.slice A1_1 l1_1.length c1_1) := (blk_cell BK1058.out 1).trans rfl
      have hfz10_0 := blk_frozen BK1058.out 0
      have hfz10_1 := blk_frozen BK1058.out 1
      go_wp2_with (first | (go_at_call 87; (with_reducible refine (spec_l15Ints.calls k _ _ l0_0 _ _ l1_0 true _ ?side1 ?side2 ?side3 ?side4 A6.out).mono ?_); (case side1 => exact pkC (Kd.C_below HR0_0.out HB.out)); (case side2 => exact HC0_0.out); (case side3 => exact pkC (Kd.C_below HR1_0.out HB.out)); (case side4 => exact HC1_0.out); rintro e w' ⟨rfl, ⟨nd, rfl⟩⟩; (try first | exact ⟨rfl, _, World.drewN_drewN _ _ _⟩ | exact ⟨rfl, _, Eq.trans (World.drewN_drewN _ _ _) (congrArg (World.drewN _) (Nat.add_assoc _ _ _))⟩)))
      repeat (go_quiet (first | (go_at_call 87; (with_reducible refine (spec_l15Ints.calls k _ _ l0_0 _ _ l1_0 true _ ?side1 ?side2 ?side3 ?side4 A6.out).mono ?_); (case side1 => exact pkC (Kd.C_below HR0_0.out HB.out)); (case side2 => exact HC0_0.out); (case side3 => exact pkC (Kd.C_below HR1_0.out HB.out)); (case side4 => exact HC1_0.out); rintro e w' ⟨rfl, ⟨nd, rfl⟩⟩; (try first | exact ⟨rfl, _, World.drewN_drewN _ _ _⟩ | exact ⟨rfl, _, Eq.trans (World.drewN_drewN _ _ _) (congrArg (World.drewN _) (Nat.add_assoc _ _ _))⟩))); try go_wp2_with (first | (go_at_call 87; (with_reducible refine (spec_l15Ints.calls k _ _ l0_0 _ _ l1_0 true _ ?side1 ?side2 ?side3 ?side4 A6.out).mono ?_); (case side1 => exact pkC (Kd.C_below HR0_0.out HB.out)); (case side2 => exact HC0_0.out); (case side3 => exact pkC (Kd.C_below HR1_0.out HB.out)); (case side4 => exact HC1_0.out); rintro e w' ⟨rfl, ⟨nd, rfl⟩⟩; (try first | exact ⟨rfl, _, World.drewN_drewN _ _ _⟩ | exact ⟨rfl, _, Eq.trans (World.drewN_drewN _ _ _) (congrArg (World.drewN _) (Nat.add_assoc _ _ _))⟩))))
      go_meet
      case rel => exact ⟨_, (((l0_1.length : Int) != (l1_1.length : Int))), rfx, H', ⟨by first | omega | exact Nat.le_refl _⟩, ⟨pkK BK1057.out⟩, ⟨pkK BK1058.out⟩, ⟨pkW HB.out⟩⟩
    · replace c7 := Bool.eq_false_iff.mpr c7
      subst c7
      replace H : (spec_l15Tokens.j0 k true l0_0 l0_1 l1_0 l1_1) = some r := by rw [if_neg (show ¬ (false = true) by decide)] at H; exact H
      have H' := am H
      clear H
      have hnb11 := NB1057_1058.out
      have hnc11 := NB1058_1057.out
      have hcz12_0 : w5.cell? ⟨gb1057, 0, none⟩ = some (.slice A0_0 l0_0.length c0_0) := (blk_cell BK1057.out 0).trans rfl
      have hcz12_1 : w5.cell? ⟨gb1057, 1, none⟩ = some (.slice A0_1 l0_1.length c0_1) := (blk_cell BK1057.out 1).trans rfl
      have hfz12_0 := blk_frozen BK1057.out 0
      have hfz12_1 := blk_frozen BK1057.out 1
      have hcz13_0 : w5.cell? ⟨gb1058, 0, none⟩ = some (.slice A1_0 l1_0.length c1_0) := (blk_cell BK1058.out 0).trans rfl
      have hcz13_1 : w5.cell? ⟨gb1058, 1, none⟩ = some (.slice A1_1 l1_1.length c1_1) := (blk_cell BK1058.out 1).trans rfl
      have hfz13_0 := blk_frozen BK1058.out 0
      have hfz13_1 := blk_frozen BK1058.out 1
      go_wp2_with (first | (go_at_call 87; (with_reducible refine (spec_l15Ints.calls k _ _ l0_0 _ _ l1_0 false _ ?side1 ?side2 ?side3 ?side4 A6.out).mono ?_); (case side1 => exact pkC (Kd.C_below HR0_0.out HB.out)); (case side2 => exact HC0_0.out); (case side3 => exact pkC (Kd.C_below HR1_0.out HB.out)); (case side4 => exact HC1_0.out); rintro e w' ⟨rfl, ⟨nd, rfl⟩⟩; (try first | exact ⟨rfl, _, World.drewN_drewN _ _ _⟩ | exact ⟨rfl, _, Eq.trans (World.drewN_drewN _ _ _) (congrArg (World.drewN _) (Nat.add_assoc _ _ _))⟩)))
      repeat (go_quiet (first | (go_at_call 87; (with_reducible refine (spec_l15Ints.calls k _ _ l0_0 _ _ l1_0 false _ ?side1 ?side2 ?side3 ?side4 A6.out).mono ?_); (case side1 => exact pkC (Kd.C_below HR0_0.out HB.out)); (case side2 => exact HC0_0.out); (case side3 => exact pkC (Kd.C_below HR1_0.out HB.out)); (case side4 => exact HC1_0.out); rintro e w' ⟨rfl, ⟨nd, rfl⟩⟩; (try first | exact ⟨rfl, _, World.drewN_drewN _ _ _⟩ | exact ⟨rfl, _, Eq.trans (World.drewN_drewN _ _ _) (congrArg (World.drewN _) (Nat.add_assoc _ _ _))⟩))); try go_wp2_with (first | (go_at_call 87; (with_reducible refine (spec_l15Ints.calls k _ _ l0_0 _ _ l1_0 false _ ?side1 ?side2 ?side3 ?side4 A6.out).mono ?_); (case side1 => exact pkC (Kd.C_below HR0_0.out HB.out)); (case side2 => exact HC0_0.out); (case side3 => exact pkC (Kd.C_below HR1_0.out HB.out)); (case side4 => exact HC1_0.out); rintro e w' ⟨rfl, ⟨nd, rfl⟩⟩; (try first | exact ⟨rfl, _, World.drewN_drewN _ _ _⟩ | exact ⟨rfl, _, Eq.trans (World.drewN_drewN _ _ _) (congrArg (World.drewN _) (Nat.add_assoc _ _ _))⟩))))
      go_meet
      case rel => exact ⟨_, (true), rfx, H', ⟨by first | omega | exact Nat.le_refl _⟩, ⟨pkK BK1057.out⟩, ⟨pkK BK1058.out⟩, ⟨pkW HB.out⟩⟩
  case rest =>
    clear HC3
    try clear c1
    try clear p2
    try clear c7
    try clear c8
    try clear c11
    try clear hcz10_0
    try clear hcz10_1
    try clear hcz12_0
    try clear hcz12_1
    try clear hcz13_0
    try clear hcz13_1
    try clear hcz9_0
    try clear hcz9_1
    try clear hfz10_0
    try clear hfz10_1
    try clear hfz12_0
    try clear hfz12_1
    try clear hfz13_0
    try clear hfz13_1
    try clear hfz9_0
    try clear hfz9_1
    obtain ⟨kq, x20_2, rfl, HA, HJ2, BK1057, BK1058, HB⟩ := hcut
    cases kq with
    | zero => exact absurd HA.out (by simp [spec_l15Tokens.j0])
    | succ kj2 =>
      have H := HA.out
      clear HA
      simp only [spec_l15Tokens.j0] at H
      by_cases c14 : x20_2 = true
      · subst c14
        replace H : (some false) = some r := by rw [if_pos rfl] at H; exact H
        obtain rfl := Option.some.inj H
        go_wp2
        repeat (go_quiet (fail); try go_wp2)
        go_ret
        exact ⟨rfe, pkW HB.out⟩
      · replace c14 := Bool.eq_false_iff.mpr c14
        subst c14
        replace H : (spec_l15Tokens.l0 kj2 0 l0_0 l0_1 l1_0 l1_1) = some r := by rw [if_neg (show ¬ (false = true) by decide)] at H; exact H
        have H' := am H
        clear H
        go_wp2
        repeat (go_quiet (fail); try go_wp2)
        go_loopg [5] kj2 (fun kq v5 w' => ∃ (x5_2 : Int), v5 = .int .i64 x5_2 ∧ Aside0 (spec_l15Tokens.l0 kq x5_2 l0_0 l0_1 l1_0 l1_1 = some r) ∧ Aside0 (kq ≤ kj2) ∧ Aside0 (w'.heap[gb1057]? = some (.cells #[(.slice A0_0 l0_0.length c0_0), (.slice A0_1 l0_1.length c0_1)] 33 (0, 0))) ∧ Aside0 (w'.heap[gb1058]? = some (.cells #[(.slice A1_0 l1_0.length c1_0), (.slice A1_1 l1_1.length c1_1)] 33 (0, 0))) ∧ Aside0 (Below w.heap.size w w'))
        case atStart => exact ⟨(0), rfx, H', ⟨Nat.le_refl _⟩, ⟨pkK BK1057.out⟩, ⟨pkK BK1058.out⟩, ⟨pkW HB.out⟩⟩
        case round =>
          clear H'
          try clear c1
          try clear p2
          try clear c7
          try clear c8
          try clear c11
          try clear c14
          try clear hcz10_0
          try clear hcz10_1
          try clear hcz12_0
          try clear hcz12_1
          try clear hcz13_0
          try clear hcz13_1
          try clear hcz9_0
          try clear hcz9_1
          try clear hfz10_0
          try clear hfz10_1
          try clear hfz12_0
          try clear hfz12_1
          try clear hfz13_0
          try clear hfz13_1
          try clear hfz9_0
          try clear hfz9_1
          try clear p2
          obtain ⟨x5_2, rfl, HA, HK2, BK1057, BK1058, HB⟩ := hrel
          cases gk with
          | zero => exact absurd HA.out (by simp [spec_l15Tokens.l0])
          | succ k2 =>
            have H := HA.out
            clear HA
            simp only [spec_l15Tokens.l0] at H
            by_cases c15 : x5_2 < (l0_1.length : Int)
            · rw [if_pos c15] at H
              have c15b0 : decide (x5_2 < (l0_1.length : Int)) = true := decide_eq_true c15
              clear c15
              by_cases c16 : 0 ≤ x5_2
              · rw [if_pos c16] at H
                have c16b0 : decide (0 ≤ x5_2) = true := decide_eq_true c16
                clear c16
                by_cases c17 : x5_2 < (l1_1.length : Int)
                · rw [if_pos c17] at H
                  have c17b0 : decide (x5_2 < (l1_1.length : Int)) = true := decide_eq_true c17
                  clear c17
                  by_cases c18 : ((rdOf false l0_1 x5_2) != (rdOf false l1_1 x5_2)) = true
                  · rw [if_pos c18] at H
                    have c18b0 : ((rdOf false l0_1 x5_2) != (rdOf false l1_1 x5_2)) = true := c18
                    (try (have c18b1 : decide ((rdOf false l0_1 x5_2) = (rdOf false l1_1 x5_2)) = false := by simpa using c18))
                    (try (have c18b2 : ((rdOf false l0_1 x5_2) == (rdOf false l1_1 x5_2)) = false := by first | exact bq_t c18 | exact bq_f c18 | simpa using c18))
                    (try (have c18b3 : ¬ ((rdOf false l0_1 x5_2) = (rdOf false l1_1 x5_2)) := by simpa using c18))
                    clear c18
                    obtain rfl := Option.some.inj H
                    have hnb19 := NB1057_1058.out
                    have hnc19 := NB1058_1057.out
                    have hcz20_0 : wr.cell? ⟨gb1057, 0, none⟩ = some (.slice A0_0 l0_0.length c0_0) := (blk_cell BK1057.out 0).trans rfl
                    have hcz20_1 : wr.cell? ⟨gb1057, 1, none⟩ = some (.slice A0_1 l0_1.length c0_1) := (blk_cell BK1057.out 1).trans rfl
                    have hfz20_0 := blk_frozen BK1057.out 0
                    have hfz20_1 := blk_frozen BK1057.out 1
                    have p1060 : 0 ≤ (x5_2 : Int) := ofd
                    have q1060 : x5_2 < (l0_1.length : Int) := ofd
                    obtain ⟨ad1060, e1060, hx1060_0⟩ := Kd.at_bool HR0_1.out x5_2 p1060 q1060
                    cases e1060
                    replace hx1060_0 := (HB.out.cell (World.block_lt_of_cell? w _ hx1060_0)).trans hx1060_0
                    replace p1060 := eq_true p1060
                    replace q1060 := eq_true q1060
                    have hcz21_0 : wr.cell? ⟨gb1058, 0, none⟩ = some (.slice A1_0 l1_0.length c1_0) := (blk_cell BK1058.out 0).trans rfl
                    have hcz21_1 : wr.cell? ⟨gb1058, 1, none⟩ = some (.slice A1_1 l1_1.length c1_1) := (blk_cell BK1058.out 1).trans rfl
                    have hfz21_0 := blk_frozen BK1058.out 0
                    have hfz21_1 := blk_frozen BK1058.out 1
                    have p1061 : 0 ≤ (x5_2 : Int) := ofd
                    have q1061 : x5_2 < (l1_1.length : Int) := ofd
                    obtain ⟨ad1061, e1061, hx1061_0⟩ := Kd.at_bool HR1_1.out x5_2 p1061 q1061
                    cases e1061
                    replace hx1061_0 := (HB.out.cell (World.block_lt_of_cell? w _ hx1061_0)).trans hx1061_0
                    replace p1061 := eq_true p1061
                    replace q1061 := eq_true q1061
                    go_wp2
                    repeat (go_quiet (fail); try go_wp2)
                    go_ret
                    exact ⟨rfe, pkW HB.out⟩
                  · rw [if_neg c18] at H
                    have c18b0 : ((rdOf false l0_1 x5_2) != (rdOf false l1_1 x5_2)) = false := by simpa using c18
                    (try (have c18b1 : decide ((rdOf false l0_1 x5_2) = (rdOf false l1_1 x5_2)) = true := by simpa using c18))
                    (try (have c18b2 : ((rdOf false l0_1 x5_2) == (rdOf false l1_1 x5_2)) = true := by first | exact bq_t c18 | exact bq_f c18 | simpa using c18))
                    clear c18
                    have H' := am H
                    clear H
                    have hnb22 := NB1057_1058.out
                    have hnc22 := NB1058_1057.out
                    have hcz23_0 : wr.cell? ⟨gb1057, 0, none⟩ = some (.slice A0_0 l0_0.length c0_0) := (blk_cell BK1057.out 0).trans rfl
                    have hcz23_1 : wr.cell? ⟨gb1057, 1, none⟩ = some (.slice A0_1 l0_1.length c0_1) := (blk_cell BK1057.out 1).trans rfl
                    have hfz23_0 := blk_frozen BK1057.out 0
                    have hfz23_1 := blk_frozen BK1057.out 1
                    have p1060 : 0 ≤ (x5_2 : Int) := ofd
                    have q1060 : x5_2 < (l0_1.length : Int) := ofd
                    obtain ⟨ad1060, e1060, hx1060_0⟩ := Kd.at_bool HR0_1.out x5_2 p1060 q1060
                    cases e1060
                    replace hx1060_0 := (HB.out.cell (World.block_lt_of_cell? w _ hx1060_0)).trans hx1060_0
                    replace p1060 := eq_true p1060
                    replace q1060 := eq_true q1060
                    have hcz24_0 : wr.cell? ⟨gb1058, 0, none⟩ = some (.slice A1_0 l1_0.length c1_0) := (blk_cell BK1058.out 0).trans rfl
                    have hcz24_1 : wr.cell? ⟨gb1058, 1, none⟩ = some (.slice A1_1 l1_1.length c1_1) := (blk_cell BK1058.out 1).trans rfl
                    have hfz24_0 := blk_frozen BK1058.out 0
                    have hfz24_1 := blk_frozen BK1058.out 1
                    have p1061 : 0 ≤ (x5_2 : Int) := ofd
                    have q1061 : x5_2 < (l1_1.length : Int) := ofd
                    obtain ⟨ad1061, e1061, hx1061_0⟩ := Kd.at_bool HR1_1.out x5_2 p1061 q1061
                    cases e1061
                    replace hx1061_0 := (HB.out.cell (World.block_lt_of_cell? w _ hx1061_0)).trans hx1061_0
                    replace p1061 := eq_true p1061
                    replace q1061 := eq_true q1061
                    go_wp2
                    repeat (go_quiet (fail); try go_wp2)
                    go_roundg k2
                    case measure => have := HJ2.out; have := HK2.out; omega
                    case rel => exact ⟨(wrap64 (x5_2 + 1)), rfx, H', ⟨by have := HJ2.out; have := HK2.out; omega⟩, ⟨pkK BK1057.out⟩, ⟨pkK BK1058.out⟩, ⟨pkW HB.out⟩⟩
                · rw [if_neg c17] at H
                  exact absurd H (by simp)
              · rw [if_neg c16] at H
                exact absurd H (by simp)
            · rw [if_neg c15] at H
              have c15b0 : decide (x5_2 < (l0_1.length : Int)) = false := decide_eq_false c15
              clear c15
              obtain rfl := Option.some.inj H
              have hnb25 := NB1057_1058.out
              have hnc25 := NB1058_1057.out
              have hcz26_0 : wr.cell? ⟨gb1057, 0, none⟩ = some (.slice A0_0 l0_0.length c0_0) := (blk_cell BK1057.out 0).trans rfl
              have hcz26_1 : wr.cell? ⟨gb1057, 1, none⟩ = some (.slice A0_1 l0_1.length c0_1) := (blk_cell BK1057.out 1).trans rfl
              have hfz26_0 := blk_frozen BK1057.out 0
              have hfz26_1 := blk_frozen BK1057.out 1
              go_wp2
              repeat (go_quiet (fail); try go_wp2)
              go_ret
              exact ⟨rfe, pkW HB.out⟩
end Go.Proofs.Ytghmhekjdjdleaa.Z
