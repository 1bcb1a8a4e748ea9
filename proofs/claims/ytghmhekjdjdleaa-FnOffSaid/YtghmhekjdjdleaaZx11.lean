/- The Go functions impl_TokensOk as Lean functions, each with a proof that its code comes to just these answers; conditions: those of each theorem. -/
import Derived.Test.YtghmhekjdjdleaaZx0
import Derived.Test.YtghmhekjdjdleaaZx6
namespace Go.Proofs.Ytghmhekjdjdleaa.Z
open Go.RowKit Go.Proofs.YtghmhekjdjdleaaW.PrintWords Go.Proofs.YtghmhekjdjdleaaW.PrintLast Go.Proofs.YtghmhekjdjdleaaW.PrintMore
attribute [local go_sem] max2_int min2_int max_two min_two max_three min_three max_four min_four   -- for this text's walks alone
set_option linter.unusedVariables false
set_option linter.unusedSimpArgs false
mutual
def impl_TokensOk.j0 : Nat → Bool → List Int → List Bool → Option (Bool)
  | 0, _, _, _ => none
  | k + 1, x17, x172000, x172001 => if x17 = true then (some false) else (impl_TokensOk.l0 k x172000 (x172000.length : Int) 0 x172000 x172001)
def impl_TokensOk.l0 : Nat → List Int → Int → Int → List Int → List Bool → Option (Bool)
  | 0, _, _, _, _, _ => none
  | k + 1, x19, x20, x21, x172000, x172001 => if x21 < x20 then (if 0 ≤ x21 then (if x21 < (x19.length : Int) then ((impl_within.f (rd x19 x21) (-1) (wrap64 (x21 - 1))).bind fun t173 => (if t173 = true then (if (rd x19 x21) ≥ 0 then (if 0 ≤ (rd x19 x21) then (if (rd x19 x21) < (x172001.length : Int) then (if rdOf false x172001 (rd x19 x21) = true then (if x21 < (x172001.length : Int) then (if rdOf false x172001 x21 = true then (impl_TokensOk.l0 k x19 x20 (wrap64 (x21 + 1)) x172000 x172001) else (some false)) else (none)) else (impl_TokensOk.l0 k x19 x20 (wrap64 (x21 + 1)) x172000 x172001)) else (none)) else (none)) else (impl_TokensOk.l0 k x19 x20 (wrap64 (x21 + 1)) x172000 x172001)) else (some false))) else (none)) else (none)) else (some true)
end
def impl_TokensOk.f (k : Nat) (l0_0 : List Int) (l0_1 : List Bool) : Option (Bool) := if (l0_0.length : Int) = (l0_1.length : Int) then (impl_TokensOk.j0 k (decide ((l0_0.length : Int) > 24)) l0_0 l0_1) else (impl_TokensOk.j0 k true l0_0 l0_1)
theorem impl_TokensOk.mono_l : ∀ k, (∀ y0 y1 y2, LeO (impl_TokensOk.j0 k y0 y1 y2) (impl_TokensOk.j0 (k + 1) y0 y1 y2)) ∧ (∀ y0 y1 y2 y3 y4, LeO (impl_TokensOk.l0 k y0 y1 y2 y3 y4) (impl_TokensOk.l0 (k + 1) y0 y1 y2 y3 y4))
  | 0 => ⟨fun _ _ _ r h => by simp [impl_TokensOk.j0] at h, fun _ _ _ _ _ r h => by simp [impl_TokensOk.l0] at h⟩
  | k + 1 => by
    obtain ⟨ih0, ih1⟩ := impl_TokensOk.mono_l k
    refine ⟨?_, ?_⟩
    · intro y0 y1 y2
      unfold impl_TokensOk.j0
      repeat' first
      | (with_reducible exact ih0 _ _ _)
      | (with_reducible exact ih1 _ _ _ _ _)
      | (with_reducible exact LeO.refl _)
      | (with_reducible exact LeO.none _)
      | (with_reducible refine LeO.ite ?_ ?_)
      | (with_reducible refine LeO.bind ?_ (fun _ => ?_))
    · intro y0 y1 y2 y3 y4
      unfold impl_TokensOk.l0
      repeat' first
      | (with_reducible exact ih0 _ _ _)
      | (with_reducible exact ih1 _ _ _ _ _)
      | (with_reducible exact LeO.refl _)
      | (with_reducible exact LeO.none _)
      | (with_reducible refine LeO.ite ?_ ?_)
      | (with_reducible refine LeO.bind ?_ (fun _ => ?_))
theorem impl_TokensOk.mono : ∀ a0 a1 k, LeO (impl_TokensOk.f k a0 a1) (impl_TokensOk.f (k + 1) a0 a1) := by
  intro a0 a1 k
  obtain ⟨ih0, ih1⟩ := impl_TokensOk.mono_l k
  unfold impl_TokensOk.f
  repeat' first
      | (with_reducible exact ih0 _ _ _)
      | (with_reducible exact ih1 _ _ _ _ _)
      | (with_reducible exact LeO.refl _)
      | (with_reducible exact LeO.none _)
      | (with_reducible refine LeO.ite ?_ ?_)
      | (with_reducible refine LeO.bind ?_ (fun _ => ?_))
set_option maxHeartbeats 8000000 in
set_option maxRecDepth 100000 in
theorem impl_TokensOk.calls (k : Nat) (A0_0 : Option Addr) (c0_0 : Nat) (l0_0 : List Int) (A0_1 : Option Addr) (c0_1 : Nat) (l0_1 : List Bool) (r : Bool) (w : World) (hr0_0 : Kd.C (Kd.int .i64) w A0_0 l0_0.length l0_0) (hc0_0 : l0_0.length ≤ c0_0) (hr0_1 : Kd.C Kd.bool w A0_1 l0_1.length l0_1) (hc0_1 : l0_1.length ≤ c0_1) (h : impl_TokensOk.f k l0_0 l0_1 = some r) :
    Calls Try.prog 24 #[.agg #[.slice A0_0 l0_0.length c0_0, .slice A0_1 l0_1.length c0_1]] w fun e w' => e = .returned (.bool r) ∧ Below w.heap.size w w' := by
  have hu33 := Try.underlying33
  have HR0_0 := am hr0_0
  have HC0_0 := am hc0_0
  clear hr0_0 hc0_0
  have HR0_1 := am hr0_1
  have HC0_1 := am hc0_1
  clear hr0_1 hc0_1
  have HB := am (Below.refl w.heap.size w)
  have H : (if (l0_0.length : Int) = (l0_1.length : Int) then (impl_TokensOk.j0 k (decide ((l0_0.length : Int) > 24)) l0_0 l0_1) else (impl_TokensOk.j0 k true l0_0 l0_1)) = some r := h
  clear h
  have HC2 := am H
  clear H
  go_enter Try.func24, Try.ntmps24
  go_upto_region 1 with (first | ((with_reducible refine gate_dst (N := 1) rfl ?_); (try (refine gate_guard (by rfl) ?_; dsimp only)); refine box_event ?hg (N := 1) ?hd (cs := #[.slice A0_0 l0_0.length c0_0, .slice A0_1 l0_1.length c0_1]) (t := 33) ?hr ?_; (case hd => rfl); (case hg => rfl); (case hr => first | (go_simp; done) | (go_simp; rfl)); intro gb171 hg w3 hbox hb; have n0_ := am (below_step (pkB HB.out) hb); have n1_ := am (hbox); have n2_ := am ((by rw [hg]; exact (below_size (pkB HB.out)) : w.heap.size ≤ gb171)); have n3_ := am ((by rw [hg]; exact (below_size (pkB HB.out)) : w.heap.size ≤ gb171)); clear HB; have HB := n0_; have BK171 := n1_; have GW171 := n2_; have GE171 := n3_; clear n0_ n1_ n2_ n3_; clear hb hbox hg))
  (try simp only [Act.put, List.setIfInBounds_toArray, List.set_cons_zero, List.set_cons_succ])
  go_cut [17] (fun v17 wc => ∃ (kq : Nat) (x17_1 : Bool), v17 = .bool x17_1 ∧ Aside0 (impl_TokensOk.j0 kq x17_1 l0_0 l0_1 = some r) ∧ Aside0 (kq ≤ k) ∧ Aside0 (wc.heap[gb171]? = some (.cells #[(.slice A0_0 l0_0.length c0_0), (.slice A0_1 l0_1.length c0_1)] 33 (0, 0))) ∧ Aside0 (Below w.heap.size w wc))
  case first =>
    have H := HC2.out
    clear HC2
    by_cases c4 : (l0_0.length : Int) = (l0_1.length : Int)
    · rw [if_pos c4] at H
      have c4b0 : ((l0_0.length : Int) == (l0_1.length : Int)) = true := beq_iff_eq.mpr c4
      have c4b1 : ((l0_0.length : Int) != (l0_1.length : Int)) = false := bne_eq_false_iff_eq.mpr c4
      have c4b2 : (l0_0.length == l0_1.length) = true := by first | simpa using c4 | (simp at c4 ⊢; omega)
      clear c4
      (first | rw [c4b0] | (simp only [i64_w, i32_w]; rw [c4b0]) | skip)
      have H' := am H
      clear H
      have hcz5_0 : w3.cell? ⟨gb171, 0, none⟩ = some (.slice A0_0 l0_0.length c0_0) := (blk_cell BK171.out 0).trans rfl
      have hcz5_1 : w3.cell? ⟨gb171, 1, none⟩ = some (.slice A0_1 l0_1.length c0_1) := (blk_cell BK171.out 1).trans rfl
      have hfz5_0 := blk_frozen BK171.out 0
      have hfz5_1 := blk_frozen BK171.out 1
      go_wp2
      go_meet
      case rel => exact ⟨_, (decide ((l0_0.length : Int) > 24)), rfx, H', ⟨by first | omega | exact Nat.le_refl _⟩, ⟨pkK BK171.out⟩, ⟨pkW HB.out⟩⟩
    · rw [if_neg c4] at H
      have c4b0 : ((l0_0.length : Int) == (l0_1.length : Int)) = false := beq_eq_false_iff_ne.mpr c4
      have c4b1 : ((l0_0.length : Int) != (l0_1.length : Int)) = true := bne_iff_ne.mpr c4
      have c4b2 : (l0_0.length == l0_1.length) = false := by first | simpa using c4 | (simp at c4 ⊢; omega)
      (first | rw [c4b0] | (simp only [i64_w, i32_w]; rw [c4b0]) | skip)
      have H' := am H
      clear H
      have hcz6_0 : w3.cell? ⟨gb171, 0, none⟩ = some (.slice A0_0 l0_0.length c0_0) := (blk_cell BK171.out 0).trans rfl
      have hcz6_1 : w3.cell? ⟨gb171, 1, none⟩ = some (.slice A0_1 l0_1.length c0_1) := (blk_cell BK171.out 1).trans rfl
      have hfz6_0 := blk_frozen BK171.out 0
      have hfz6_1 := blk_frozen BK171.out 1
      go_wp2
      go_meet
      case rel => exact ⟨_, (true), rfx, H', ⟨by first | omega | exact Nat.le_refl _⟩, ⟨pkK BK171.out⟩, ⟨pkW HB.out⟩⟩
  case rest =>
    clear HC2
    try clear c2
    try clear p2
    try clear c4
    try clear c4b0
    try clear c4b1
    try clear c4b2
    try clear hcz5_0
    try clear hcz5_1
    try clear hcz6_0
    try clear hcz6_1
    try clear hfz5_0
    try clear hfz5_1
    try clear hfz6_0
    try clear hfz6_1
    obtain ⟨kq, x17_1, rfl, HA, HJ1, BK171, HB⟩ := hcut
    cases kq with
    | zero => exact absurd HA.out (by simp [impl_TokensOk.j0])
    | succ kj1 =>
      have H := HA.out
      clear HA
      simp only [impl_TokensOk.j0] at H
      by_cases c7 : x17_1 = true
      · subst c7
        replace H : (some false) = some r := by rw [if_pos rfl] at H; exact H
        obtain rfl := Option.some.inj H
        go_wp2
        go_ret
        exact ⟨rfe, pkW HB.out⟩
      · replace c7 := Bool.eq_false_iff.mpr c7
        subst c7
        replace H : (impl_TokensOk.l0 kj1 l0_0 (l0_0.length : Int) 0 l0_0 l0_1) = some r := by rw [if_neg (show ¬ (false = true) by decide)] at H; exact H
        have H' := am H
        clear H
        have hcz8_0 : wc.cell? ⟨gb171, 0, none⟩ = some (.slice A0_0 l0_0.length c0_0) := (blk_cell BK171.out 0).trans rfl
        have hcz8_1 : wc.cell? ⟨gb171, 1, none⟩ = some (.slice A0_1 l0_1.length c0_1) := (blk_cell BK171.out 1).trans rfl
        have hfz8_0 := blk_frozen BK171.out 0
        have hfz8_1 := blk_frozen BK171.out 1
        go_wp2
        go_loopg [21] kj1 (fun kq v21 w' => ∃ (x21_2 : Int), v21 = .int .i64 x21_2 ∧ Aside0 (impl_TokensOk.l0 kq l0_0 (l0_0.length : Int) x21_2 l0_0 l0_1 = some r) ∧ Aside0 (kq ≤ kj1) ∧ Aside0 (w'.heap[gb171]? = some (.cells #[(.slice A0_0 l0_0.length c0_0), (.slice A0_1 l0_1.length c0_1)] 33 (0, 0))) ∧ Aside0 (Below w.heap.size w w'))
        case atStart => exact ⟨(0), rfx, H', ⟨Nat.le_refl _⟩, ⟨pkK BK171.out⟩, ⟨pkW HB.out⟩⟩
        case round =>
          clear H'
          try clear c2
          try clear p2
          try clear c4
          try clear c4b0
          try clear c4b1
          try clear c4b2
          try clear c7
          try clear hcz5_0
          try clear hcz5_1
          try clear hcz6_0
          try clear hcz6_1
          try clear hcz8_0
          try clear hcz8_1
          try clear hfz5_0
          try clear hfz5_1
          try clear hfz6_0
          try clear hfz6_1
          try clear hfz8_0
          try clear hfz8_1
          try clear p2
          obtain ⟨x21_2, rfl, HA, HK2, BK171, HB⟩ := hrel
          cases gk with
          | zero => exact absurd HA.out (by simp [impl_TokensOk.l0])
          | succ k2 =>
            have H := HA.out
            clear HA
            simp only [impl_TokensOk.l0] at H
            by_cases c9 : x21_2 < (l0_0.length : Int)
            · rw [if_pos c9] at H
              have c9b0 : decide (x21_2 < (l0_0.length : Int)) = true := decide_eq_true c9
              clear c9
              by_cases c10 : 0 ≤ x21_2
              · rw [if_pos c10] at H
                have c10b0 : decide (0 ≤ x21_2) = true := decide_eq_true c10
                clear c10
                by_cases c11 : x21_2 < (l0_0.length : Int)
                · rw [if_pos c11] at H
                  have c11b0 : decide (x21_2 < (l0_0.length : Int)) = true := decide_eq_true c11
                  clear c11
                  replace H := Option.bind_eq_some_iff.mp H
                  obtain ⟨t173, A120, H⟩ := H
                  replace H : (if t173 = true then (if (rd l0_0 x21_2) ≥ 0 then (if 0 ≤ (rd l0_0 x21_2) then (if (rd l0_0 x21_2) < (l0_1.length : Int) then (if rdOf false l0_1 (rd l0_0 x21_2) = true then (if x21_2 < (l0_1.length : Int) then (if rdOf false l0_1 x21_2 = true then (impl_TokensOk.l0 k2 l0_0 (l0_0.length : Int) (wrap64 (x21_2 + 1)) l0_0 l0_1) else (some false)) else (none)) else (impl_TokensOk.l0 k2 l0_0 (l0_0.length : Int) (wrap64 (x21_2 + 1)) l0_0 l0_1)) else (none)) else (none)) else (impl_TokensOk.l0 k2 l0_0 (l0_0.length : Int) (wrap64 (x21_2 + 1)) l0_0 l0_1)) else (some false)) = some r := H
                  have A12 := am A120
                  clear A120
                  by_cases c13 : t173 = true
                  · subst c13
                    replace H : (if (rd l0_0 x21_2) ≥ 0 then (if 0 ≤ (rd l0_0 x21_2) then (if (rd l0_0 x21_2) < (l0_1.length : Int) then (if rdOf false l0_1 (rd l0_0 x21_2) = true then (if x21_2 < (l0_1.length : Int) then (if rdOf false l0_1 x21_2 = true then (impl_TokensOk.l0 k2 l0_0 (l0_0.length : Int) (wrap64 (x21_2 + 1)) l0_0 l0_1) else (some false)) else (none)) else (impl_TokensOk.l0 k2 l0_0 (l0_0.length : Int) (wrap64 (x21_2 + 1)) l0_0 l0_1)) else (none)) else (none)) else (impl_TokensOk.l0 k2 l0_0 (l0_0.length : Int) (wrap64 (x21_2 + 1)) l0_0 l0_1)) = some r := by rw [if_pos rfl] at H; exact H
                    by_cases c14 : (rd l0_0 x21_2) ≥ 0
                    · rw [if_pos c14] at H
                      have c14b0 : decide (0 ≤ (rd l0_0 x21_2)) = true := decide_eq_true c14
                      clear c14
                      by_cases c15 : 0 ≤ (rd l0_0 x21_2)
                      · rw [if_pos c15] at H
                        have c15b0 : decide (0 ≤ (rd l0_0 x21_2)) = true := decide_eq_true c15
                        clear c15
                        by_cases c16 : (rd l0_0 x21_2) < (l0_1.length : Int)
                        · rw [if_pos c16] at H
                          have c16b0 : decide ((rd l0_0 x21_2) < (l0_1.length : Int)) = true := decide_eq_true c16
                          clear c16
                          obtain ⟨bq17, hbq17⟩ : ∃ b_ : Bool, b_ = (rdOf false l0_1 (rd l0_0 x21_2)) := ⟨_, rfl⟩
                          replace H : (if bq17 = true then (if x21_2 < (l0_1.length : Int) then (if rdOf false l0_1 x21_2 = true then (impl_TokensOk.l0 k2 l0_0 (l0_0.length : Int) (wrap64 (x21_2 + 1)) l0_0 l0_1) else (some false)) else (none)) else (impl_TokensOk.l0 k2 l0_0 (l0_0.length : Int) (wrap64 (x21_2 + 1)) l0_0 l0_1)) = some r := by rw [← hbq17] at H; exact H
                          have Nbq17 := am hbq17
                          clear hbq17
                          by_cases c18 : bq17 = true
                          · subst c18
                            replace H : (if x21_2 < (l0_1.length : Int) then (if rdOf false l0_1 x21_2 = true then (impl_TokensOk.l0 k2 l0_0 (l0_0.length : Int) (wrap64 (x21_2 + 1)) l0_0 l0_1) else (some false)) else (none)) = some r := by rw [if_pos rfl] at H; exact H
                            by_cases c19 : x21_2 < (l0_1.length : Int)
                            · rw [if_pos c19] at H
                              have c19b0 : decide (x21_2 < (l0_1.length : Int)) = true := decide_eq_true c19
                              clear c19
                              obtain ⟨bq20, hbq20⟩ : ∃ b_ : Bool, b_ = (rdOf false l0_1 x21_2) := ⟨_, rfl⟩
                              replace H : (if bq20 = true then (impl_TokensOk.l0 k2 l0_0 (l0_0.length : Int) (wrap64 (x21_2 + 1)) l0_0 l0_1) else (some false)) = some r := by rw [← hbq20] at H; exact H
                              have Nbq20 := am hbq20
                              clear hbq20
                              by_cases c21 : bq20 = true
                              · subst c21
                                replace H : (impl_TokensOk.l0 k2 l0_0 (l0_0.length : Int) (wrap64 (x21_2 + 1)) l0_0 l0_1) = some r := by rw [if_pos rfl] at H; exact H
                                have H' := am H
                                clear H
                                have p172 : 0 ≤ (x21_2 : Int) := ofd
                                have q172 : x21_2 < (l0_0.length : Int) := ofd
                                obtain ⟨ad172, e172, hx172_0⟩ := Kd.at_int HR0_0.out x21_2 p172 q172
                                cases e172
                                replace hx172_0 := (HB.out.cell (World.block_lt_of_cell? w _ hx172_0)).trans hx172_0
                                replace p172 := eq_true p172
                                replace q172 := eq_true q172
                                go_wp2_with (first | ((with_reducible refine gate_callee (f := 59) rfl ?_); refine goesL_ (some 29) rfl rfl Try.func59 (by kernel_rfl) rfl #[.int .i64 (rd l0_0 x21_2), .int .i64 (-1), .int .i64 (wrap64 (x21_2 - 1))] rfl mpx ?_; (with_reducible refine (impl_within.calls (rd l0_0 x21_2) (-1) (wrap64 (x21_2 - 1)) true _ A12.out).mono ?_); rintro e w' ⟨rfl, ⟨nd, rfl⟩⟩; refine ⟨_, rfl, ?_⟩; have hcz22_0 : wr.cell? ⟨gb171, 0, none⟩ = some (.slice (some ad172) l0_0.length c0_0) := (blk_cell BK171.out 0).trans rfl; have hcz22_1 : wr.cell? ⟨gb171, 1, none⟩ = some (.slice A0_1 l0_1.length c0_1) := (blk_cell BK171.out 1).trans rfl; have hfz22_0 := blk_frozen BK171.out 0; have hfz22_1 := blk_frozen BK171.out 1; have p174 : 0 ≤ ((rd l0_0 x21_2) : Int) := ofd; have q174 : (rd l0_0 x21_2) < (l0_1.length : Int) := ofd; obtain ⟨ad174, e174, hx174_0⟩ := Kd.at_bool HR0_1.out (rd l0_0 x21_2) p174 q174; (try rw [← Nbq17.out] at hx174_0); (try rw [← Nbq20.out] at hx174_0); cases e174; replace hx174_0 := (HB.out.cell (World.block_lt_of_cell? w _ hx174_0)).trans hx174_0; replace p174 := eq_true p174; replace q174 := eq_true q174; have p175 : 0 ≤ (x21_2 : Int) := ofd; have q175 : x21_2 < (l0_1.length : Int) := ofd; obtain ⟨ad175, e175, hx175_0⟩ := Kd.at_bool HR0_1.out x21_2 p175 q175; (try rw [← Nbq17.out] at hx175_0); (try rw [← Nbq20.out] at hx175_0); obtain rfl : ad174 = ad175 := (by injection e175); replace hx175_0 := (HB.out.cell (World.block_lt_of_cell? w _ hx175_0)).trans hx175_0; replace p175 := eq_true p175; replace q175 := eq_true q175))
                                go_roundg k2
                                case measure => have := HJ1.out; have := HK2.out; omega
                                case rel => exact ⟨(wrap64 (x21_2 + 1)), rfx, H', ⟨by have := HJ1.out; have := HK2.out; omega⟩, ⟨pkK BK171.out⟩, ⟨pkW HB.out⟩⟩
                              · replace c21 := Bool.eq_false_iff.mpr c21
                                subst c21
                                replace H : (some false) = some r := by rw [if_neg (show ¬ (false = true) by decide)] at H; exact H
                                obtain rfl := Option.some.inj H
                                have p172 : 0 ≤ (x21_2 : Int) := ofd
                                have q172 : x21_2 < (l0_0.length : Int) := ofd
                                obtain ⟨ad172, e172, hx172_0⟩ := Kd.at_int HR0_0.out x21_2 p172 q172
                                cases e172
                                replace hx172_0 := (HB.out.cell (World.block_lt_of_cell? w _ hx172_0)).trans hx172_0
                                replace p172 := eq_true p172
                                replace q172 := eq_true q172
                                go_wp2_with (first | ((with_reducible refine gate_callee (f := 59) rfl ?_); refine goesL_ (some 29) rfl rfl Try.func59 (by kernel_rfl) rfl #[.int .i64 (rd l0_0 x21_2), .int .i64 (-1), .int .i64 (wrap64 (x21_2 - 1))] rfl mpx ?_; (with_reducible refine (impl_within.calls (rd l0_0 x21_2) (-1) (wrap64 (x21_2 - 1)) true _ A12.out).mono ?_); rintro e w' ⟨rfl, ⟨nd, rfl⟩⟩; refine ⟨_, rfl, ?_⟩; have hcz23_0 : wr.cell? ⟨gb171, 0, none⟩ = some (.slice (some ad172) l0_0.length c0_0) := (blk_cell BK171.out 0).trans rfl; have hcz23_1 : wr.cell? ⟨gb171, 1, none⟩ = some (.slice A0_1 l0_1.length c0_1) := (blk_cell BK171.out 1).trans rfl; have hfz23_0 := blk_frozen BK171.out 0; have hfz23_1 := blk_frozen BK171.out 1; have p174 : 0 ≤ ((rd l0_0 x21_2) : Int) := ofd; have q174 : (rd l0_0 x21_2) < (l0_1.length : Int) := ofd; obtain ⟨ad174, e174, hx174_0⟩ := Kd.at_bool HR0_1.out (rd l0_0 x21_2) p174 q174; (try rw [← Nbq17.out] at hx174_0); (try rw [← Nbq20.out] at hx174_0); cases e174; replace hx174_0 := (HB.out.cell (World.block_lt_of_cell? w _ hx174_0)).trans hx174_0; replace p174 := eq_true p174; replace q174 := eq_true q174; have p175 : 0 ≤ (x21_2 : Int) := ofd; have q175 : x21_2 < (l0_1.length : Int) := ofd; obtain ⟨ad175, e175, hx175_0⟩ := Kd.at_bool HR0_1.out x21_2 p175 q175; (try rw [← Nbq17.out] at hx175_0); (try rw [← Nbq20.out] at hx175_0); obtain rfl : ad174 = ad175 := (by injection e175); replace hx175_0 := (HB.out.cell (World.block_lt_of_cell? w _ hx175_0)).trans hx175_0; replace p175 := eq_true p175; replace q175 := eq_true q175))
                                go_ret
                                exact ⟨rfe, pkW HB.out⟩
                            · rw [if_neg c19] at H
                              exact absurd H (by simp)
                          · replace c18 := Bool.eq_false_iff.mpr c18
                            subst c18
                            replace H : (impl_TokensOk.l0 k2 l0_0 (l0_0.length : Int) (wrap64 (x21_2 + 1)) l0_0 l0_1) = some r := by rw [if_neg (show ¬ (false = true) by decide)] at H; exact H
                            have H' := am H
                            clear H
                            have p172 : 0 ≤ (x21_2 : Int) := ofd
                            have q172 : x21_2 < (l0_0.length : Int) := ofd
                            obtain ⟨ad172, e172, hx172_0⟩ := Kd.at_int HR0_0.out x21_2 p172 q172
                            cases e172
                            replace hx172_0 := (HB.out.cell (World.block_lt_of_cell? w _ hx172_0)).trans hx172_0
                            replace p172 := eq_true p172
                            replace q172 := eq_true q172
                            go_wp2_with (first | ((with_reducible refine gate_callee (f := 59) rfl ?_); refine goesL_ (some 29) rfl rfl Try.func59 (by kernel_rfl) rfl #[.int .i64 (rd l0_0 x21_2), .int .i64 (-1), .int .i64 (wrap64 (x21_2 - 1))] rfl mpx ?_; (with_reducible refine (impl_within.calls (rd l0_0 x21_2) (-1) (wrap64 (x21_2 - 1)) true _ A12.out).mono ?_); rintro e w' ⟨rfl, ⟨nd, rfl⟩⟩; refine ⟨_, rfl, ?_⟩; have hcz24_0 : wr.cell? ⟨gb171, 0, none⟩ = some (.slice (some ad172) l0_0.length c0_0) := (blk_cell BK171.out 0).trans rfl; have hcz24_1 : wr.cell? ⟨gb171, 1, none⟩ = some (.slice A0_1 l0_1.length c0_1) := (blk_cell BK171.out 1).trans rfl; have hfz24_0 := blk_frozen BK171.out 0; have hfz24_1 := blk_frozen BK171.out 1; have p174 : 0 ≤ ((rd l0_0 x21_2) : Int) := ofd; have q174 : (rd l0_0 x21_2) < (l0_1.length : Int) := ofd; obtain ⟨ad174, e174, hx174_0⟩ := Kd.at_bool HR0_1.out (rd l0_0 x21_2) p174 q174; (try rw [← Nbq17.out] at hx174_0); cases e174; replace hx174_0 := (HB.out.cell (World.block_lt_of_cell? w _ hx174_0)).trans hx174_0; replace p174 := eq_true p174; replace q174 := eq_true q174))
                            go_roundg k2
                            case measure => have := HJ1.out; have := HK2.out; omega
                            case rel => exact ⟨(wrap64 (x21_2 + 1)), rfx, H', ⟨by have := HJ1.out; have := HK2.out; omega⟩, ⟨pkK BK171.out⟩, ⟨pkW HB.out⟩⟩
                        · rw [if_neg c16] at H
                          exact absurd H (by simp)
                      · rw [if_neg c15] at H
                        exact absurd H (by simp)
                    · rw [if_neg c14] at H
                      have c14b0 : decide (0 ≤ (rd l0_0 x21_2)) = false := decide_eq_false c14
                      clear c14
                      have H' := am H
                      clear H
                      have p172 : 0 ≤ (x21_2 : Int) := ofd
                      have q172 : x21_2 < (l0_0.length : Int) := ofd
                      obtain ⟨ad172, e172, hx172_0⟩ := Kd.at_int HR0_0.out x21_2 p172 q172
                      cases e172
                      replace hx172_0 := (HB.out.cell (World.block_lt_of_cell? w _ hx172_0)).trans hx172_0
                      replace p172 := eq_true p172
                      replace q172 := eq_true q172
                      go_wp2_with (first | ((with_reducible refine gate_callee (f := 59) rfl ?_); refine goesL_ (some 29) rfl rfl Try.func59 (by kernel_rfl) rfl #[.int .i64 (rd l0_0 x21_2), .int .i64 (-1), .int .i64 (wrap64 (x21_2 - 1))] rfl mpx ?_; (with_reducible refine (impl_within.calls (rd l0_0 x21_2) (-1) (wrap64 (x21_2 - 1)) true _ A12.out).mono ?_); rintro e w' ⟨rfl, ⟨nd, rfl⟩⟩; refine ⟨_, rfl, ?_⟩))
                      go_roundg k2
                      case measure => have := HJ1.out; have := HK2.out; omega
                      case rel => exact ⟨(wrap64 (x21_2 + 1)), rfx, H', ⟨by have := HJ1.out; have := HK2.out; omega⟩, ⟨pkK BK171.out⟩, ⟨pkW HB.out⟩⟩
                  · replace c13 := Bool.eq_false_iff.mpr c13
                    subst c13
                    replace H : (some false) = some r := by rw [if_neg (show ¬ (false = true) by decide)] at H; exact H
                    obtain rfl := Option.some.inj H
                    have p172 : 0 ≤ (x21_2 : Int) := ofd
                    have q172 : x21_2 < (l0_0.length : Int) := ofd
                    obtain ⟨ad172, e172, hx172_0⟩ := Kd.at_int HR0_0.out x21_2 p172 q172
                    cases e172
                    replace hx172_0 := (HB.out.cell (World.block_lt_of_cell? w _ hx172_0)).trans hx172_0
                    replace p172 := eq_true p172
                    replace q172 := eq_true q172
                    go_wp2_with (first | ((with_reducible refine gate_callee (f := 59) rfl ?_); refine goesL_ (some 29) rfl rfl Try.func59 (by kernel_rfl) rfl #[.int .i64 (rd l0_0 x21_2), .int .i64 (-1), .int .i64 (wrap64 (x21_2 - 1))] rfl mpx ?_; (with_reducible refine (impl_within.calls (rd l0_0 x21_2) (-1) (wrap64 (x21_2 - 1)) false _ A12.out).mono ?_); rintro e w' ⟨rfl, ⟨nd, rfl⟩⟩; refine ⟨_, rfl, ?_⟩))
                    go_ret
                    exact ⟨rfe, pkW HB.out⟩
                · rw [if_neg c11] at H
                  exact absurd H (by simp)
              · rw [if_neg c10] at H
                exact absurd H (by simp)
            · rw [if_neg c9] at H
              have c9b0 : decide (x21_2 < (l0_0.length : Int)) = false := decide_eq_false c9
              clear c9
              obtain rfl := Option.some.inj H
              go_wp2
              go_ret
              exact ⟨rfe, pkW HB.out⟩
end Go.Proofs.Ytghmhekjdjdleaa.Z
