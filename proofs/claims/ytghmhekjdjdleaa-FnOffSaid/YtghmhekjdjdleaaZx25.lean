/- The Go functions spec_Under as Lean functions, each with a proof that its code comes to just these answers; conditions: those of each theorem. -/
import Derived.Test.YtghmhekjdjdleaaZx0
import Derived.Test.YtghmhekjdjdleaaZx4
import Derived.Test.YtghmhekjdjdleaaZx5
import Derived.Test.YtghmhekjdjdleaaZx9
namespace Go.Proofs.Ytghmhekjdjdleaa.Z
open Go.RowKit Go.Proofs.YtghmhekjdjdleaaW.PrintWords Go.Proofs.YtghmhekjdjdleaaW.PrintLast Go.Proofs.YtghmhekjdjdleaaW.PrintMore
attribute [local go_sem] max2_int min2_int max_two min_two max_three min_three max_four min_four   -- for this text's walks alone
set_option linter.unusedVariables false
set_option linter.unusedSimpArgs false
mutual
def spec_Under.j0 : Nat → Int → List Int → Bool → List Int → List Bool → Option (List Int)
  | 0, _, _, _, _, _ => none
  | k + 1, x1, x5, x19, x467000, x467001 => if x19 = true then (some x5) else (spec_Under.l0 k x1 x5 x1 x467000 x467001)
def spec_Under.l0 : Nat → Int → List Int → Int → List Int → List Bool → Option (List Int)
  | 0, _, _, _, _, _ => none
  | k + 1, x1, x5, x6, x467000, x467001 => if x6 < (x467000.length : Int) then (if x6 = x1 then (if x5.length < 17592186044416 then (spec_Under.l0 k x1 (x5 ++ [x6]) (wrap64 (x6 + 1)) x467000 x467001) else (none)) else (if 0 ≤ x6 then ((spec_l2Has.f k x5 (rd x467000 x6)).bind fun t476 => (if t476 = true then (if x5.length < 17592186044416 then (spec_Under.l0 k x1 (x5 ++ [x6]) (wrap64 (x6 + 1)) x467000 x467001) else (none)) else (spec_Under.l0 k x1 x5 (wrap64 (x6 + 1)) x467000 x467001))) else (none))) else (some x5)
end
def spec_Under.f (k : Nat) (l0_0 : List Int) (l0_1 : List Bool) (a1 : Int) : Option (List Int) := (some (([] : List Int) : List Int)).bind fun y467 => ((spec_TokensOk.f k l0_0 l0_1).bind fun t470 => (if t470 = true then ((spec_l1In.f a1 0 (wrap64 ((l0_0.length : Int) - 1))).bind fun t471 => (spec_Under.j0 k a1 y467 (!t471) l0_0 l0_1)) else (spec_Under.j0 k a1 y467 true l0_0 l0_1)))
theorem spec_Under.mono_l : ∀ k, (∀ y0 y1 y2 y3 y4, LeO (spec_Under.j0 k y0 y1 y2 y3 y4) (spec_Under.j0 (k + 1) y0 y1 y2 y3 y4)) ∧ (∀ y0 y1 y2 y3 y4, LeO (spec_Under.l0 k y0 y1 y2 y3 y4) (spec_Under.l0 (k + 1) y0 y1 y2 y3 y4))
  | 0 => ⟨fun _ _ _ _ _ r h => by simp [spec_Under.j0] at h, fun _ _ _ _ _ r h => by simp [spec_Under.l0] at h⟩
  | k + 1 => by
    obtain ⟨ih0, ih1⟩ := spec_Under.mono_l k
    refine ⟨?_, ?_⟩
    · intro y0 y1 y2 y3 y4
      unfold spec_Under.j0
      repeat' first
      | (with_reducible exact ih0 _ _ _ _ _)
      | (with_reducible exact ih1 _ _ _ _ _)
      | (with_reducible exact spec_TokensOk.mono _ _ _)
      | (with_reducible exact spec_l2Has.mono _ _ _)
      | (with_reducible exact LeO.refl _)
      | (with_reducible exact LeO.none _)
      | (with_reducible refine LeO.ite ?_ ?_)
      | (with_reducible refine LeO.bind ?_ (fun _ => ?_))
    · intro y0 y1 y2 y3 y4
      unfold spec_Under.l0
      repeat' first
      | (with_reducible exact ih0 _ _ _ _ _)
      | (with_reducible exact ih1 _ _ _ _ _)
      | (with_reducible exact spec_TokensOk.mono _ _ _)
      | (with_reducible exact spec_l2Has.mono _ _ _)
      | (with_reducible exact LeO.refl _)
      | (with_reducible exact LeO.none _)
      | (with_reducible refine LeO.ite ?_ ?_)
      | (with_reducible refine LeO.bind ?_ (fun _ => ?_))
theorem spec_Under.mono : ∀ a0 a1 a2 k, LeO (spec_Under.f k a0 a1 a2) (spec_Under.f (k + 1) a0 a1 a2) := by
  intro a0 a1 a2 k
  obtain ⟨ih0, ih1⟩ := spec_Under.mono_l k
  unfold spec_Under.f
  repeat' first
      | (with_reducible exact ih0 _ _ _ _ _)
      | (with_reducible exact ih1 _ _ _ _ _)
      | (with_reducible exact spec_TokensOk.mono _ _ _)
      | (with_reducible exact spec_l2Has.mono _ _ _)
      | (with_reducible exact LeO.refl _)
      | (with_reducible exact LeO.none _)
      | (with_reducible refine LeO.ite ?_ ?_)
      | (with_reducible refine LeO.bind ?_ (fun _ => ?_))
set_option maxHeartbeats 8000000 in
set_option maxRecDepth 100000 in
theorem spec_Under.calls (k : Nat) (A0_0 : Option Addr) (c0_0 : Nat) (l0_0 : List Int) (A0_1 : Option Addr) (c0_1 : Nat) (l0_1 : List Bool) (a1 : Int) (r : List Int) (w : World) (hr0_0 : Kd.C (Kd.int .i64) w A0_0 l0_0.length l0_0) (hc0_0 : l0_0.length ≤ c0_0) (hr0_1 : Kd.C Kd.bool w A0_1 l0_1.length l0_1) (hc0_1 : l0_1.length ≤ c0_1) (h : spec_Under.f k l0_0 l0_1 a1 = some r) :
    Calls Try.prog 36 #[.agg #[.slice A0_0 l0_0.length c0_0, .slice A0_1 l0_1.length c0_1], .int .i64 a1] w fun e w' => ∃ v0_ : Value, e = .returned (v0_) ∧ Kd.R (Kd.int .i64) 3 w' w.heap.size (fun _ => True) v0_ r ∧ Below w.heap.size w w' := by
  have hu33 := Try.underlying33
  have HR0_0 := am hr0_0
  have HC0_0 := am hc0_0
  clear hr0_0 hc0_0
  have HR0_1 := am hr0_1
  have HC0_1 := am hc0_1
  clear hr0_1 hc0_1
  have HB := am (Below.refl w.heap.size w)
  have H : ((some (([] : List Int) : List Int)).bind fun y467 => ((spec_TokensOk.f k l0_0 l0_1).bind fun t470 => (if t470 = true then ((spec_l1In.f a1 0 (wrap64 ((l0_0.length : Int) - 1))).bind fun t471 => (spec_Under.j0 k a1 y467 (!t471) l0_0 l0_1)) else (spec_Under.j0 k a1 y467 true l0_0 l0_1)))) = some r := h
  clear h
  obtain ⟨y467, hy467⟩ : ∃ y_ : List Int, y_ = (([] : List Int)) := ⟨_, rfl⟩
  replace H : ((spec_TokensOk.f k l0_0 l0_1).bind fun t470 => (if t470 = true then ((spec_l1In.f a1 0 (wrap64 ((l0_0.length : Int) - 1))).bind fun t471 => (spec_Under.j0 k a1 y467 (!t471) l0_0 l0_1)) else (spec_Under.j0 k a1 y467 true l0_0 l0_1))) = some r := by first | (rw [hy467]; with_reducible exact H) | (have H2_ := (Option.bind_some _ _).symm.trans H; rw [hy467]; with_reducible exact H2_) | (have H2_ := (Option.bind_some _ _).symm.trans H; with_reducible exact H2_) | with_reducible exact H | (rw [hy467]; exact H) | exact H
  have Ny467 := am hy467
  clear hy467
  have HC3 := am H
  clear H
  go_enter Try.func36, Try.ntmps36
  go_upto_region 2 with (first | ((with_reducible refine gate_dst (N := 2) rfl ?_); (try (refine gate_guard (by rfl) ?_; dsimp only)); refine box_event ?hg (N := 2) ?hd (cs := #[.slice A0_0 l0_0.length c0_0, .slice A0_1 l0_1.length c0_1]) (t := 33) ?hr ?_; (case hd => rfl); (case hg => rfl); (case hr => first | (go_simp; done) | (go_simp; rfl)); intro gb466 hg w4 hbox hb; have n0_ := am (below_step (pkB HB.out) hb); have n1_ := am (hbox); have n2_ := am ((by rw [hg]; exact (below_size (pkB HB.out)) : w.heap.size ≤ gb466)); have n3_ := am ((by rw [hg]; exact (below_size (pkB HB.out)) : w.heap.size ≤ gb466)); clear HB; have HB := n0_; have BK466 := n1_; have GW466 := n2_; have GE466 := n3_; clear n0_ n1_ n2_ n3_; clear hb hbox hg) | ((with_reducible refine gate_dst (N := 7) rfl ?_); (try (refine gate_guard (by rfl) ?_; dsimp only)); refine Kd.R_lit (Kd.int .i64) _ 3 ?hg (N := 7) ?hd (xs := ([] : List Int)) (inner := []) (ok := fun _ => True) (okp := fun _ => True) ?hr ?hp (fun _ hk => hk) trivial (Below.refl _ _) (Nat.le_refl _) (by simp) ?_; (case hd => rfl); (case hg => rfl); (case hr => first | (go_simp; done) | (go_simp; rfl)); (case hp => exact (Reps.none _ _)); intro v468 w5 ho6 hb hg_ hnew_; clear hg_ hnew_; (first | rw [← Ny467.out] at ho6 | (simp only [Int.reduceToNat] at ho6; rw [← Ny467.out] at ho6)); have n0_ := am (Kd.R_lower ho6 (below_size (pkW HB.out))); have n1_ := am (blk_below (pkK BK466.out) hb); have n2_ := am (below_step (pkW HB.out) hb); clear BK466 HB; have HO469 := n0_; have BK466 := n1_; have HB := n2_; clear n0_ n1_ n2_; clear hb ho6))
  (try simp only [Act.put, List.setIfInBounds_toArray, List.set_cons_zero, List.set_cons_succ])
  go_cut [19] (fun v19 wc => ∃ (kq : Nat) (x19_2 : Bool), v19 = .bool x19_2 ∧ Aside0 (spec_Under.j0 kq a1 y467 x19_2 l0_0 l0_1 = some r) ∧ Aside0 (kq ≤ k) ∧ Aside0 (Kd.R (Kd.int .i64) 3 wc w.heap.size (fun _ => True) v468 y467) ∧ Aside0 (wc.heap[gb466]? = some (.cells #[(.slice A0_0 l0_0.length c0_0), (.slice A0_1 l0_1.length c0_1)] 33 (0, 0))) ∧ Aside0 (Below w.heap.size w wc))
  case first =>
    have H := HC3.out
    clear HC3
    replace H := Option.bind_eq_some_iff.mp H
    obtain ⟨t470, A70, H⟩ := H
    replace H : (if t470 = true then ((spec_l1In.f a1 0 (wrap64 ((l0_0.length : Int) - 1))).bind fun t471 => (spec_Under.j0 k a1 y467 (!t471) l0_0 l0_1)) else (spec_Under.j0 k a1 y467 true l0_0 l0_1)) = some r := H
    have A7 := am A70
    clear A70
    by_cases c8 : t470 = true
    · subst c8
      replace H : ((spec_l1In.f a1 0 (wrap64 ((l0_0.length : Int) - 1))).bind fun t471 => (spec_Under.j0 k a1 y467 (!t471) l0_0 l0_1)) = some r := by rw [if_pos rfl] at H; exact H
      replace H := Option.bind_eq_some_iff.mp H
      obtain ⟨t471, A90, H⟩ := H
      replace H : (spec_Under.j0 k a1 y467 (!t471) l0_0 l0_1) = some r := H
      have A9 := am A90
      clear A90
      have H' := am H
      clear H
      have hcz10_0 : w5.cell? ⟨gb466, 0, none⟩ = some (.slice A0_0 l0_0.length c0_0) := (blk_cell BK466.out 0).trans rfl
      have hcz10_1 : w5.cell? ⟨gb466, 1, none⟩ = some (.slice A0_1 l0_1.length c0_1) := (blk_cell BK466.out 1).trans rfl
      have hfz10_0 := blk_frozen BK466.out 0
      have hfz10_1 := blk_frozen BK466.out 1
      go_wp2_with (first | ((with_reducible refine gate_callee (f := 22) rfl ?_); refine goesL_ (some 9) rfl rfl Try.func22 (by kernel_rfl) rfl #[.agg #[.slice A0_0 l0_0.length c0_0, .slice A0_1 l0_1.length c0_1]] rfl mpx ?_; (with_reducible refine (spec_TokensOk.calls k _ _ l0_0 _ _ l0_1 true _ ?side1 ?side2 ?side3 ?side4 A7.out).mono ?_); (case side1 => exact pkC (Kd.C_below HR0_0.out HB.out)); (case side2 => exact HC0_0.out); (case side3 => exact pkC (Kd.C_below HR0_1.out HB.out)); (case side4 => exact HC0_1.out); rintro e w11 ⟨rfl, hb⟩; refine ⟨_, rfl, ?_⟩; have n0_ := am (Kd.R_below (pkR HO469.out) hb); have n1_ := am (blk_below (pkK BK466.out) hb); have n2_ := am (below_step (pkW HB.out) hb); clear HO469 BK466 HB; have HO469 := n0_; have BK466 := n1_; have HB := n2_; clear n0_ n1_ n2_; (try clear hb); (try clear hb2); (try clear hk); (try clear hi); have hcz12_0 : w11.cell? ⟨gb466, 0, none⟩ = some (.slice A0_0 l0_0.length c0_0) := (blk_cell BK466.out 0).trans rfl; have hcz12_1 : w11.cell? ⟨gb466, 1, none⟩ = some (.slice A0_1 l0_1.length c0_1) := (blk_cell BK466.out 1).trans rfl; have hfz12_0 := blk_frozen BK466.out 0; have hfz12_1 := blk_frozen BK466.out 1) | (go_at_call 57; (with_reducible refine (spec_l1In.calls a1 0 (wrap64 ((l0_0.length : Int) - 1)) t471 _ A9.out).mono ?_); rintro e w' ⟨rfl, ⟨nd, rfl⟩⟩))
      go_meet
      case rel => exact ⟨_, (!t471), rfx, H', ⟨by first | omega | exact Nat.le_refl _⟩, ⟨pkR HO469.out⟩, ⟨pkK BK466.out⟩, ⟨pkW HB.out⟩⟩
    · replace c8 := Bool.eq_false_iff.mpr c8
      subst c8
      replace H : (spec_Under.j0 k a1 y467 true l0_0 l0_1) = some r := by rw [if_neg (show ¬ (false = true) by decide)] at H; exact H
      have H' := am H
      clear H
      have hcz13_0 : w5.cell? ⟨gb466, 0, none⟩ = some (.slice A0_0 l0_0.length c0_0) := (blk_cell BK466.out 0).trans rfl
      have hcz13_1 : w5.cell? ⟨gb466, 1, none⟩ = some (.slice A0_1 l0_1.length c0_1) := (blk_cell BK466.out 1).trans rfl
      have hfz13_0 := blk_frozen BK466.out 0
      have hfz13_1 := blk_frozen BK466.out 1
      go_wp2_with (first | ((with_reducible refine gate_callee (f := 22) rfl ?_); refine goesL_ (some 9) rfl rfl Try.func22 (by kernel_rfl) rfl #[.agg #[.slice A0_0 l0_0.length c0_0, .slice A0_1 l0_1.length c0_1]] rfl mpx ?_; (with_reducible refine (spec_TokensOk.calls k _ _ l0_0 _ _ l0_1 false _ ?side1 ?side2 ?side3 ?side4 A7.out).mono ?_); (case side1 => exact pkC (Kd.C_below HR0_0.out HB.out)); (case side2 => exact HC0_0.out); (case side3 => exact pkC (Kd.C_below HR0_1.out HB.out)); (case side4 => exact HC0_1.out); rintro e w14 ⟨rfl, hb⟩; refine ⟨_, rfl, ?_⟩; have n0_ := am (Kd.R_below (pkR HO469.out) hb); have n1_ := am (blk_below (pkK BK466.out) hb); have n2_ := am (below_step (pkW HB.out) hb); clear HO469 BK466 HB; have HO469 := n0_; have BK466 := n1_; have HB := n2_; clear n0_ n1_ n2_; (try clear hb); (try clear hb2); (try clear hk); (try clear hi)))
      go_meet
      case rel => exact ⟨_, (true), rfx, H', ⟨by first | omega | exact Nat.le_refl _⟩, ⟨pkR HO469.out⟩, ⟨pkK BK466.out⟩, ⟨pkW HB.out⟩⟩
  case rest =>
    clear HC3
    try clear c2
    try clear p2
    try clear c3
    try clear p6
    try clear c8
    try clear hcz10_0
    try clear hcz10_1
    try clear hcz12_0
    try clear hcz12_1
    try clear hcz13_0
    try clear hcz13_1
    try clear hfz10_0
    try clear hfz10_1
    try clear hfz12_0
    try clear hfz12_1
    try clear hfz13_0
    try clear hfz13_1
    obtain ⟨kq, x19_2, rfl, HA, HJ2, HO_5, BK466, HB⟩ := hcut
    cases kq with
    | zero => exact absurd HA.out (by simp [spec_Under.j0])
    | succ kj2 =>
      have H := HA.out
      clear HA
      simp only [spec_Under.j0] at H
      by_cases c15 : x19_2 = true
      · subst c15
        replace H : (some y467) = some r := by rw [if_pos rfl] at H; exact H
        obtain rfl := Option.some.inj H
        go_wp2
        go_ret
        exact ⟨_, rfe, pkR HO_5.out, pkW HB.out⟩
      · replace c15 := Bool.eq_false_iff.mpr c15
        subst c15
        replace H : (spec_Under.l0 kj2 a1 y467 a1 l0_0 l0_1) = some r := by rw [if_neg (show ¬ (false = true) by decide)] at H; exact H
        have H' := am H
        clear H
        go_wp2
        go_loopg [5, 6] kj2 (fun kq v5 v6 w' => ∃ (x5_2 : List Int) (x6_2 : Int), v6 = .int .i64 x6_2 ∧ Aside0 (spec_Under.l0 kq a1 x5_2 x6_2 l0_0 l0_1 = some r) ∧ Aside0 (kq ≤ kj2) ∧ Aside0 (Kd.R (Kd.int .i64) 3 w' w.heap.size (fun _ => True) v5 x5_2) ∧ Aside0 (w'.heap[gb466]? = some (.cells #[(.slice A0_0 l0_0.length c0_0), (.slice A0_1 l0_1.length c0_1)] 33 (0, 0))) ∧ Aside0 (Below w.heap.size w w'))
        case atStart => exact ⟨(y467), (a1), rfx, H', ⟨Nat.le_refl _⟩, ⟨pkR HO_5.out⟩, ⟨pkK BK466.out⟩, ⟨pkW HB.out⟩⟩
        case round =>
          clear H'
          try clear c1
          try clear c2
          try clear p2
          try clear c3
          try clear p6
          try clear c8
          try clear c15
          try clear hcz10_0
          try clear hcz10_1
          try clear hcz12_0
          try clear hcz12_1
          try clear hcz13_0
          try clear hcz13_1
          try clear hfz10_0
          try clear hfz10_1
          try clear hfz12_0
          try clear hfz12_1
          try clear hfz13_0
          try clear hfz13_1
          try clear p2
          try clear p6
          obtain ⟨x5_2, x6_2, rfl, HA, HK2, HO_5, BK466, HB⟩ := hrel
          cases gk with
          | zero => exact absurd HA.out (by simp [spec_Under.l0])
          | succ k2 =>
            have H := HA.out
            clear HA
            simp only [spec_Under.l0] at H
            by_cases c16 : x6_2 < (l0_0.length : Int)
            · rw [if_pos c16] at H
              have c16b0 : decide (x6_2 < (l0_0.length : Int)) = true := decide_eq_true c16
              clear c16
              by_cases c17 : x6_2 = a1
              · rw [if_pos c17] at H
                have c17b0 : (x6_2 == a1) = true := beq_iff_eq.mpr c17
                have c17b1 : (x6_2 != a1) = false := bne_eq_false_iff_eq.mpr c17
                clear c17
                by_cases c18 : x5_2.length < 17592186044416
                · rw [if_pos c18] at H
                  have LMc18 := am c18
                  clear c18
                  obtain ⟨y472, hy472⟩ : ∃ y_ : List Int, y_ = (x5_2 ++ [x6_2]) := ⟨_, rfl⟩
                  replace H : (spec_Under.l0 k2 a1 y472 (wrap64 (x6_2 + 1)) l0_0 l0_1) = some r := by first | (rw [hy472]; with_reducible exact H) | (have H2_ := (Option.bind_some _ _).symm.trans H; rw [hy472]; with_reducible exact H2_) | (have H2_ := (Option.bind_some _ _).symm.trans H; with_reducible exact H2_) | with_reducible exact H | (rw [hy472]; exact H) | exact H
                  have Ny472 := am hy472
                  clear hy472
                  have H' := am H
                  clear H
                  have hcz19_0 : wr.cell? ⟨gb466, 0, none⟩ = some (.slice A0_0 l0_0.length c0_0) := (blk_cell BK466.out 0).trans rfl
                  have hcz19_1 : wr.cell? ⟨gb466, 1, none⟩ = some (.slice A0_1 l0_1.length c0_1) := (blk_cell BK466.out 1).trans rfl
                  have hfz19_0 := blk_frozen BK466.out 0
                  have hfz19_1 := blk_frozen BK466.out 1
                  go_wp2_with (first | ((with_reducible refine gate_builtin (b := .append) (xs := #[.tmp 41, .tmp 43]) rfl ?_); (try (refine gate_guard (by rfl) ?_; dsimp only)); at_builtin; refine Kd.R_append (Kd.int .i64) (w0 := w) w.heap.size rfl (.tmp 41) (.tmp 43) 22 3 (.int .i64 0) 8 rfl Try.underlying22 info3 rfl (by decide) (by omega) u5 x5_2 x6_2 [.int .i64 x6_2] (fun _ => True) (fun _ => False) rfl rfl ?aP (fun _ hk => hk.elim) ?aF ?aO ?aB ?aS ?aL ?_; (case aP => exact rfl); (case aB => exact (pkW HB.out)); (case aF => exact (fun _ _ => trivial)); (case aO => exact (pkR HO_5.out)); (case aS => exact (below_size (pkW HB.out))); (case aL => have := LMc18.out; omega); intro v473 w20 ho hb hg hat; rw [← Ny472.out] at ho; have n0_ := am (blk_grown (g := gb466) (o := .cells #[.slice A0_0 l0_0.length c0_0, .slice A0_1 l0_1.length c0_1] 33 (0, 0)) (pkK BK466.out) hg (Kd.R_ne HO_5.out BK466.out (by decide))); have n1_ := am (hb); have n2_ := am (ho); clear BK466 HB HO_5; have BK466 := n0_; have HB := n1_; have HO474 := n2_; clear n0_ n1_ n2_; clear ho hb hg hat))
                  go_roundg k2
                  case measure => have := HJ2.out; have := HK2.out; omega
                  case rel => exact ⟨(y472), (wrap64 (x6_2 + 1)), rfx, H', ⟨by have := HJ2.out; have := HK2.out; omega⟩, ⟨pkR HO474.out⟩, ⟨pkK BK466.out⟩, ⟨pkW HB.out⟩⟩
                · rw [if_neg c18] at H
                  exact absurd H (by simp)
              · rw [if_neg c17] at H
                have c17b0 : (x6_2 == a1) = false := beq_eq_false_iff_ne.mpr c17
                have c17b1 : (x6_2 != a1) = true := bne_iff_ne.mpr c17
                by_cases c21 : 0 ≤ x6_2
                · rw [if_pos c21] at H
                  have c21b0 : decide (0 ≤ x6_2) = true := decide_eq_true c21
                  clear c21
                  replace H := Option.bind_eq_some_iff.mp H
                  obtain ⟨t476, A220, H⟩ := H
                  replace H : (if t476 = true then (if x5_2.length < 17592186044416 then (spec_Under.l0 k2 a1 (x5_2 ++ [x6_2]) (wrap64 (x6_2 + 1)) l0_0 l0_1) else (none)) else (spec_Under.l0 k2 a1 x5_2 (wrap64 (x6_2 + 1)) l0_0 l0_1)) = some r := H
                  have A22 := am A220
                  clear A220
                  by_cases c23 : t476 = true
                  · subst c23
                    replace H : (if x5_2.length < 17592186044416 then (spec_Under.l0 k2 a1 (x5_2 ++ [x6_2]) (wrap64 (x6_2 + 1)) l0_0 l0_1) else (none)) = some r := by rw [if_pos rfl] at H; exact H
                    by_cases c24 : x5_2.length < 17592186044416
                    · rw [if_pos c24] at H
                      have LMc24 := am c24
                      clear c24
                      obtain ⟨y477, hy477⟩ : ∃ y_ : List Int, y_ = (x5_2 ++ [x6_2]) := ⟨_, rfl⟩
                      replace H : (spec_Under.l0 k2 a1 y477 (wrap64 (x6_2 + 1)) l0_0 l0_1) = some r := by first | (rw [hy477]; with_reducible exact H) | (have H2_ := (Option.bind_some _ _).symm.trans H; rw [hy477]; with_reducible exact H2_) | (have H2_ := (Option.bind_some _ _).symm.trans H; with_reducible exact H2_) | with_reducible exact H | (rw [hy477]; exact H) | exact H
                      have Ny477 := am hy477
                      clear hy477
                      have H' := am H
                      clear H
                      have hcz25_0 : wr.cell? ⟨gb466, 0, none⟩ = some (.slice A0_0 l0_0.length c0_0) := (blk_cell BK466.out 0).trans rfl
                      have hcz25_1 : wr.cell? ⟨gb466, 1, none⟩ = some (.slice A0_1 l0_1.length c0_1) := (blk_cell BK466.out 1).trans rfl
                      have hfz25_0 := blk_frozen BK466.out 0
                      have hfz25_1 := blk_frozen BK466.out 1
                      have p475 : 0 ≤ (x6_2 : Int) := ofd
                      have q475 : x6_2 < (l0_0.length : Int) := ofd
                      obtain ⟨ad475, e475, hx475_0⟩ := Kd.at_int HR0_0.out x6_2 p475 q475
                      cases e475
                      replace hx475_0 := (HB.out.cell (World.block_lt_of_cell? w _ hx475_0)).trans hx475_0
                      replace p475 := eq_true p475
                      replace q475 := eq_true q475
                      obtain ⟨Ao26, co26, eo26⟩ := Kd.R_slice HO_5.out
                      subst eo26
                      go_wp2_with (first | (go_at_call 53; (with_reducible refine (spec_l2Has.calls k2 _ _ x5_2 (rd l0_0 x6_2) true _ ?side1 ?side2 A22.out).mono ?_); (case side1 => exact pkC (Kd.R_reads' HO_5.out).2.2); (case side2 => exact (Kd.R_reads' HO_5.out).2.1); rintro e w' ⟨rfl, ⟨nd, rfl⟩⟩) | ((with_reducible refine gate_builtin (b := .append) (xs := #[.tmp 41, .tmp 43]) rfl ?_); (try (refine gate_guard (by rfl) ?_; dsimp only)); at_builtin; refine Kd.R_append (Kd.int .i64) (w0 := w) w.heap.size rfl (.tmp 41) (.tmp 43) 22 3 (.int .i64 0) 8 rfl Try.underlying22 info3 rfl (by decide) (by omega) (.slice Ao26 x5_2.length co26) x5_2 x6_2 [.int .i64 x6_2] (fun _ => True) (fun _ => False) rfl rfl ?aP (fun _ hk => hk.elim) ?aF ?aO ?aB ?aS ?aL ?_; (case aP => exact rfl); (case aB => exact (pkW HB.out)); (case aF => exact (fun _ _ => trivial)); (case aO => exact (pkR HO_5.out)); (case aS => exact (below_size (pkW HB.out))); (case aL => have := LMc24.out; omega); intro v478 w27 ho hb hg hat; rw [← Ny477.out] at ho; have n0_ := am (blk_grown (g := gb466) (o := .cells #[.slice (some ad475) l0_0.length c0_0, .slice A0_1 l0_1.length c0_1] 33 (0, 0)) (pkK BK466.out) hg (Kd.R_ne HO_5.out BK466.out (by decide))); have n1_ := am (hb); have n2_ := am (ho); clear BK466 HB HO_5; have BK466 := n0_; have HB := n1_; have HO479 := n2_; clear n0_ n1_ n2_; clear ho hb hg hat))
                      go_roundg k2
                      case measure => have := HJ2.out; have := HK2.out; omega
                      case rel => exact ⟨(y477), (wrap64 (x6_2 + 1)), rfx, H', ⟨by have := HJ2.out; have := HK2.out; omega⟩, ⟨pkR HO479.out⟩, ⟨pkK BK466.out⟩, ⟨pkW HB.out⟩⟩
                    · rw [if_neg c24] at H
                      exact absurd H (by simp)
                  · replace c23 := Bool.eq_false_iff.mpr c23
                    subst c23
                    replace H : (spec_Under.l0 k2 a1 x5_2 (wrap64 (x6_2 + 1)) l0_0 l0_1) = some r := by rw [if_neg (show ¬ (false = true) by decide)] at H; exact H
                    have H' := am H
                    clear H
                    have hcz28_0 : wr.cell? ⟨gb466, 0, none⟩ = some (.slice A0_0 l0_0.length c0_0) := (blk_cell BK466.out 0).trans rfl
                    have hcz28_1 : wr.cell? ⟨gb466, 1, none⟩ = some (.slice A0_1 l0_1.length c0_1) := (blk_cell BK466.out 1).trans rfl
                    have hfz28_0 := blk_frozen BK466.out 0
                    have hfz28_1 := blk_frozen BK466.out 1
                    have p475 : 0 ≤ (x6_2 : Int) := ofd
                    have q475 : x6_2 < (l0_0.length : Int) := ofd
                    obtain ⟨ad475, e475, hx475_0⟩ := Kd.at_int HR0_0.out x6_2 p475 q475
                    cases e475
                    replace hx475_0 := (HB.out.cell (World.block_lt_of_cell? w _ hx475_0)).trans hx475_0
                    replace p475 := eq_true p475
                    replace q475 := eq_true q475
                    obtain ⟨Ao29, co29, eo29⟩ := Kd.R_slice HO_5.out
                    subst eo29
                    go_wp2_with (first | (go_at_call 53; (with_reducible refine (spec_l2Has.calls k2 _ _ x5_2 (rd l0_0 x6_2) false _ ?side1 ?side2 A22.out).mono ?_); (case side1 => exact pkC (Kd.R_reads' HO_5.out).2.2); (case side2 => exact (Kd.R_reads' HO_5.out).2.1); rintro e w' ⟨rfl, ⟨nd, rfl⟩⟩))
                    go_roundg k2
                    case measure => have := HJ2.out; have := HK2.out; omega
                    case rel => exact ⟨(x5_2), (wrap64 (x6_2 + 1)), rfx, H', ⟨by have := HJ2.out; have := HK2.out; omega⟩, ⟨pkR HO_5.out⟩, ⟨pkK BK466.out⟩, ⟨pkW HB.out⟩⟩
                · rw [if_neg c21] at H
                  exact absurd H (by simp)
            · rw [if_neg c16] at H
              have c16b0 : decide (x6_2 < (l0_0.length : Int)) = false := decide_eq_false c16
              clear c16
              obtain rfl := Option.some.inj H
              have hcz30_0 : wr.cell? ⟨gb466, 0, none⟩ = some (.slice A0_0 l0_0.length c0_0) := (blk_cell BK466.out 0).trans rfl
              have hcz30_1 : wr.cell? ⟨gb466, 1, none⟩ = some (.slice A0_1 l0_1.length c0_1) := (blk_cell BK466.out 1).trans rfl
              have hfz30_0 := blk_frozen BK466.out 0
              have hfz30_1 := blk_frozen BK466.out 1
              go_wp2
              go_ret
              exact ⟨_, rfe, pkR HO_5.out, pkW HB.out⟩
end Go.Proofs.Ytghmhekjdjdleaa.Z
