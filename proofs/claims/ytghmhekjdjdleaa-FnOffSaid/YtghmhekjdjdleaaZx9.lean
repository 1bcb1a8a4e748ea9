/- The Go functions spec_TokensOk as Lean functions, each with a proof that its code comes to just these answers; conditions: those of each theorem. -/
import Derived.Test.YtghmhekjdjdleaaZx0
import Derived.Test.YtghmhekjdjdleaaZx4
namespace Go.Proofs.Ytghmhekjdjdleaa.Z
open Go.RowKit Go.Proofs.YtghmhekjdjdleaaW.PrintWords Go.Proofs.YtghmhekjdjdleaaW.PrintLast Go.Proofs.YtghmhekjdjdleaaW.PrintMore
attribute [local go_sem] max2_int min2_int max_two min_two max_three min_three max_four min_four   -- for this text's walks alone
set_option linter.unusedVariables false
set_option linter.unusedSimpArgs false
mutual
def spec_TokensOk.j0 : Nat → Bool → List Int → List Bool → Option (Bool)
  | 0, _, _, _ => none
  | k + 1, x17, x153000, x153001 => if x17 = true then (some false) else (spec_TokensOk.l0 k 0 x153000 x153001)
def spec_TokensOk.l0 : Nat → Int → List Int → List Bool → Option (Bool)
  | 0, _, _, _ => none
  | k + 1, x3, x153000, x153001 => if x3 < (x153000.length : Int) then (if 0 ≤ x3 then ((spec_l1In.f (rd x153000 x3) (-1) (wrap64 (x3 - 1))).bind fun t154 => (if t154 = true then (if (rd x153000 x3) ≥ 0 then (if 0 ≤ (rd x153000 x3) then (if (rd x153000 x3) < (x153001.length : Int) then (if rdOf false x153001 (rd x153000 x3) = true then (if x3 < (x153001.length : Int) then (if rdOf false x153001 x3 = true then (spec_TokensOk.l0 k (wrap64 (x3 + 1)) x153000 x153001) else (some false)) else (none)) else (spec_TokensOk.l0 k (wrap64 (x3 + 1)) x153000 x153001)) else (none)) else (none)) else (spec_TokensOk.l0 k (wrap64 (x3 + 1)) x153000 x153001)) else (some false))) else (none)) else (some true)
end
def spec_TokensOk.f (k : Nat) (l0_0 : List Int) (l0_1 : List Bool) : Option (Bool) := if (l0_0.length : Int) = (l0_1.length : Int) then (spec_TokensOk.j0 k (decide ((l0_0.length : Int) > 24)) l0_0 l0_1) else (spec_TokensOk.j0 k true l0_0 l0_1)
theorem spec_TokensOk.mono_l : ∀ k, (∀ y0 y1 y2, LeO (spec_TokensOk.j0 k y0 y1 y2) (spec_TokensOk.j0 (k + 1) y0 y1 y2)) ∧ (∀ y0 y1 y2, LeO (spec_TokensOk.l0 k y0 y1 y2) (spec_TokensOk.l0 (k + 1) y0 y1 y2))
  | 0 => ⟨fun _ _ _ r h => by simp [spec_TokensOk.j0] at h, fun _ _ _ r h => by simp [spec_TokensOk.l0] at h⟩
  | k + 1 => by
    obtain ⟨ih0, ih1⟩ := spec_TokensOk.mono_l k
    refine ⟨?_, ?_⟩
    · intro y0 y1 y2
      unfold spec_TokensOk.j0
      repeat' first
      | (with_reducible exact ih0 _ _ _)
      | (with_reducible exact ih1 _ _ _)
      | (with_reducible exact LeO.refl _)
      | (with_reducible exact LeO.none _)
      | (with_reducible refine LeO.ite ?_ ?_)
      | (with_reducible refine LeO.bind ?_ (fun _ => ?_))
    · intro y0 y1 y2
      unfold spec_TokensOk.l0
      repeat' first
      | (with_reducible exact ih0 _ _ _)
      | (with_reducible exact ih1 _ _ _)
      | (with_reducible exact LeO.refl _)
      | (with_reducible exact LeO.none _)
      | (with_reducible refine LeO.ite ?_ ?_)
      | (with_reducible refine LeO.bind ?_ (fun _ => ?_))
theorem spec_TokensOk.mono : ∀ a0 a1 k, LeO (spec_TokensOk.f k a0 a1) (spec_TokensOk.f (k + 1) a0 a1) := by
  intro a0 a1 k
  obtain ⟨ih0, ih1⟩ := spec_TokensOk.mono_l k
  unfold spec_TokensOk.f
  repeat' first
      | (with_reducible exact ih0 _ _ _)
      | (with_reducible exact ih1 _ _ _)
      | (with_reducible exact LeO.refl _)
      | (with_reducible exact LeO.none _)
      | (with_reducible refine LeO.ite ?_ ?_)
      | (with_reducible refine LeO.bind ?_ (fun _ => ?_))
set_option maxHeartbeats 8000000 in
set_option maxRecDepth 100000 in
theorem spec_TokensOk.calls (k : Nat) (A0_0 : Option Addr) (c0_0 : Nat) (l0_0 : List Int) (A0_1 : Option Addr) (c0_1 : Nat) (l0_1 : List Bool) (r : Bool) (w : World) (hr0_0 : Kd.C (Kd.int .i64) w A0_0 l0_0.length l0_0) (hc0_0 : l0_0.length ≤ c0_0) (hr0_1 : Kd.C Kd.bool w A0_1 l0_1.length l0_1) (hc0_1 : l0_1.length ≤ c0_1) (h : spec_TokensOk.f k l0_0 l0_1 = some r) :
    Calls Try.prog 22 #[.agg #[.slice A0_0 l0_0.length c0_0, .slice A0_1 l0_1.length c0_1]] w fun e w' => e = .returned (.bool r) ∧ Below w.heap.size w w' := by
  have hu33 := Try.underlying33
  have HR0_0 := am hr0_0
  have HC0_0 := am hc0_0
  clear hr0_0 hc0_0
  have HR0_1 := am hr0_1
  have HC0_1 := am hc0_1
  clear hr0_1 hc0_1
  have HB := am (Below.refl w.heap.size w)
  have H : (if (l0_0.length : Int) = (l0_1.length : Int) then (spec_TokensOk.j0 k (decide ((l0_0.length : Int) > 24)) l0_0 l0_1) else (spec_TokensOk.j0 k true l0_0 l0_1)) = some r := h
  clear h
  have HC2 := am H
  clear H
  go_enter Try.func22, Try.ntmps22
  go_upto_region 1 with (first | ((with_reducible refine gate_dst (N := 1) rfl ?_); (try (refine gate_guard (by rfl) ?_; dsimp only)); refine box_event ?hg (N := 1) ?hd (cs := #[.slice A0_0 l0_0.length c0_0, .slice A0_1 l0_1.length c0_1]) (t := 33) ?hr ?_; (case hd => rfl); (case hg => rfl); (case hr => first | (go_simp; done) | (go_simp; rfl)); intro gb152 hg w3 hbox hb; have n0_ := am (below_step (pkB HB.out) hb); have n1_ := am (hbox); have n2_ := am ((by rw [hg]; exact (below_size (pkB HB.out)) : w.heap.size ≤ gb152)); have n3_ := am ((by rw [hg]; exact (below_size (pkB HB.out)) : w.heap.size ≤ gb152)); clear HB; have HB := n0_; have BK152 := n1_; have GW152 := n2_; have GE152 := n3_; clear n0_ n1_ n2_ n3_; clear hb hbox hg))
  (try simp only [Act.put, List.setIfInBounds_toArray, List.set_cons_zero, List.set_cons_succ])
  go_cut [17] (fun v17 wc => ∃ (kq : Nat) (x17_1 : Bool), v17 = .bool x17_1 ∧ Aside0 (spec_TokensOk.j0 kq x17_1 l0_0 l0_1 = some r) ∧ Aside0 (kq ≤ k) ∧ Aside0 (wc.heap[gb152]? = some (.cells #[(.slice A0_0 l0_0.length c0_0), (.slice A0_1 l0_1.length c0_1)] 33 (0, 0))) ∧ Aside0 (Below w.heap.size w wc))
  case first =>
    have H := HC2.out
    clear HC2
    by_cases c4 : (l0_0.length : Int) = (l0_1.length : Int)
    · rw [if_pos c4] at H
      have c4b0 : ((l0_0.length : Int) == (l0_1.length : Int)) = true := beq_iff_eq.mpr c4
      have c4b1 : ((l0_0.length : Int) != (l0_1.length : Int)) = false := bne_eq_false_iff_eq.mpr c4
      have c4b2 : (l0_0.length == l0_1.length) = true := by first | simpa using c4 | (simp at c4 ⊢; omega)
      clear c4
      (first | rw [c4b0] | (simp only [i64_w, i32_w]; rw [c4b0]) | skip)
      have H' := am H
      clear H
      have hcz5_0 : w3.cell? ⟨gb152, 0, none⟩ = some (.slice A0_0 l0_0.length c0_0) := (blk_cell BK152.out 0).trans rfl
      have hcz5_1 : w3.cell? ⟨gb152, 1, none⟩ = some (.slice A0_1 l0_1.length c0_1) := (blk_cell BK152.out 1).trans rfl
      have hfz5_0 := blk_frozen BK152.out 0
      have hfz5_1 := blk_frozen BK152.out 1
      go_wp2
      go_meet
      case rel => exact ⟨_, (decide ((l0_0.length : Int) > 24)), rfx, H', ⟨by first | omega | exact Nat.le_refl _⟩, ⟨pkK BK152.out⟩, ⟨pkW HB.out⟩⟩
    · rw [if_neg c4] at H
      have c4b0 : ((l0_0.length : Int) == (l0_1.length : Int)) = false := beq_eq_false_iff_ne.mpr c4
      have c4b1 : ((l0_0.length : Int) != (l0_1.length : Int)) = true := bne_iff_ne.mpr c4
      have c4b2 : (l0_0.length == l0_1.length) = false := by first | simpa using c4 | (simp at c4 ⊢; omega)
      (first | rw [c4b0] | (simp only [i64_w, i32_w]; rw [c4b0]) | skip)
      have H' := am H
      clear H
      have hcz6_0 : w3.cell? ⟨gb152, 0, none⟩ = some (.slice A0_0 l0_0.length c0_0) := (blk_cell BK152.out 0).trans rfl
      have hcz6_1 : w3.cell? ⟨gb152, 1, none⟩ = some (.slice A0_1 l0_1.length c0_1) := (blk_cell BK152.out 1).trans rfl
      have hfz6_0 := blk_frozen BK152.out 0
      have hfz6_1 := blk_frozen BK152.out 1
      go_wp2
      go_meet
      case rel => exact ⟨_, (true), rfx, H', ⟨by first | omega | exact Nat.le_refl _⟩, ⟨pkK BK152.out⟩, ⟨pkW HB.out⟩⟩
  case rest =>
    clear HC2
    try clear c2
    try clear p2
    try clear c4
    try clear c4b0
    try clear c4b1
    try clear c4b2
    try clear hcz5_0
    try clear hcz5_1
    try clear hcz6_0
    try clear hcz6_1
    try clear hfz5_0
    try clear hfz5_1
    try clear hfz6_0
    try clear hfz6_1
    obtain ⟨kq, x17_1, rfl, HA, HJ1, BK152, HB⟩ := hcut
    cases kq with
    | zero => exact absurd HA.out (by simp [spec_TokensOk.j0])
    | succ kj1 =>
      have H := HA.out
      clear HA
      simp only [spec_TokensOk.j0] at H
      by_cases c7 : x17_1 = true
      · subst c7
        replace H : (some false) = some r := by rw [if_pos rfl] at H; exact H
        obtain rfl := Option.some.inj H
        go_wp2
        go_ret
        exact ⟨rfe, pkW HB.out⟩
      · replace c7 := Bool.eq_false_iff.mpr c7
        subst c7
        replace H : (spec_TokensOk.l0 kj1 0 l0_0 l0_1) = some r := by rw [if_neg (show ¬ (false = true) by decide)] at H; exact H
        have H' := am H
        clear H
        go_wp2
        go_loopg [3] kj1 (fun kq v3 w' => ∃ (x3_2 : Int), v3 = .int .i64 x3_2 ∧ Aside0 (spec_TokensOk.l0 kq x3_2 l0_0 l0_1 = some r) ∧ Aside0 (kq ≤ kj1) ∧ Aside0 (w'.heap[gb152]? = some (.cells #[(.slice A0_0 l0_0.length c0_0), (.slice A0_1 l0_1.length c0_1)] 33 (0, 0))) ∧ Aside0 (Below w.heap.size w w'))
        case atStart => exact ⟨(0), rfx, H', ⟨Nat.le_refl _⟩, ⟨pkK BK152.out⟩, ⟨pkW HB.out⟩⟩
        case round =>
          clear H'
          try clear c2
          try clear p2
          try clear c4
          try clear c4b0
          try clear c4b1
          try clear c4b2
          try clear c7
          try clear hcz5_0
          try clear hcz5_1
          try clear hcz6_0
          try clear hcz6_1
          try clear hfz5_0
          try clear hfz5_1
          try clear hfz6_0
          try clear hfz6_1
          try clear p2
          obtain ⟨x3_2, rfl, HA, HK2, BK152, HB⟩ := hrel
          cases gk with
          | zero => exact absurd HA.out (by simp [spec_TokensOk.l0])
          | succ k2 =>
            have H := HA.out
            clear HA
            simp only [spec_TokensOk.l0] at H
            by_cases c8 : x3_2 < (l0_0.length : Int)
            · rw [if_pos c8] at H
              have c8b0 : decide (x3_2 < (l0_0.length : Int)) = true := decide_eq_true c8
              clear c8
              by_cases c9 : 0 ≤ x3_2
              · rw [if_pos c9] at H
                have c9b0 : decide (0 ≤ x3_2) = true := decide_eq_true c9
                clear c9
                replace H := Option.bind_eq_some_iff.mp H
                obtain ⟨t154, A100, H⟩ := H
                replace H : (if t154 = true then (if (rd l0_0 x3_2) ≥ 0 then (if 0 ≤ (rd l0_0 x3_2) then (if (rd l0_0 x3_2) < (l0_1.length : Int) then (if rdOf false l0_1 (rd l0_0 x3_2) = true then (if x3_2 < (l0_1.length : Int) then (if rdOf false l0_1 x3_2 = true then (spec_TokensOk.l0 k2 (wrap64 (x3_2 + 1)) l0_0 l0_1) else (some false)) else (none)) else (spec_TokensOk.l0 k2 (wrap64 (x3_2 + 1)) l0_0 l0_1)) else (none)) else (none)) else (spec_TokensOk.l0 k2 (wrap64 (x3_2 + 1)) l0_0 l0_1)) else (some false)) = some r := H
                have A10 := am A100
                clear A100
                by_cases c11 : t154 = true
                · subst c11
                  replace H : (if (rd l0_0 x3_2) ≥ 0 then (if 0 ≤ (rd l0_0 x3_2) then (if (rd l0_0 x3_2) < (l0_1.length : Int) then (if rdOf false l0_1 (rd l0_0 x3_2) = true then (if x3_2 < (l0_1.length : Int) then (if rdOf false l0_1 x3_2 = true then (spec_TokensOk.l0 k2 (wrap64 (x3_2 + 1)) l0_0 l0_1) else (some false)) else (none)) else (spec_TokensOk.l0 k2 (wrap64 (x3_2 + 1)) l0_0 l0_1)) else (none)) else (none)) else (spec_TokensOk.l0 k2 (wrap64 (x3_2 + 1)) l0_0 l0_1)) = some r := by rw [if_pos rfl] at H; exact H
                  by_cases c12 : (rd l0_0 x3_2) ≥ 0
                  · rw [if_pos c12] at H
                    have c12b0 : decide (0 ≤ (rd l0_0 x3_2)) = true := decide_eq_true c12
                    clear c12
                    by_cases c13 : 0 ≤ (rd l0_0 x3_2)
                    · rw [if_pos c13] at H
                      have c13b0 : decide (0 ≤ (rd l0_0 x3_2)) = true := decide_eq_true c13
                      clear c13
                      by_cases c14 : (rd l0_0 x3_2) < (l0_1.length : Int)
                      · rw [if_pos c14] at H
                        have c14b0 : decide ((rd l0_0 x3_2) < (l0_1.length : Int)) = true := decide_eq_true c14
                        clear c14
                        obtain ⟨bq15, hbq15⟩ : ∃ b_ : Bool, b_ = (rdOf false l0_1 (rd l0_0 x3_2)) := ⟨_, rfl⟩
                        replace H : (if bq15 = true then (if x3_2 < (l0_1.length : Int) then (if rdOf false l0_1 x3_2 = true then (spec_TokensOk.l0 k2 (wrap64 (x3_2 + 1)) l0_0 l0_1) else (some false)) else (none)) else (spec_TokensOk.l0 k2 (wrap64 (x3_2 + 1)) l0_0 l0_1)) = some r := by rw [← hbq15] at H; exact H
                        have Nbq15 := am hbq15
                        clear hbq15
                        by_cases c16 : bq15 = true
                        · subst c16
                          replace H : (if x3_2 < (l0_1.length : Int) then (if rdOf false l0_1 x3_2 = true then (spec_TokensOk.l0 k2 (wrap64 (x3_2 + 1)) l0_0 l0_1) else (some false)) else (none)) = some r := by rw [if_pos rfl] at H; exact H
                          by_cases c17 : x3_2 < (l0_1.length : Int)
                          · rw [if_pos c17] at H
                            have c17b0 : decide (x3_2 < (l0_1.length : Int)) = true := decide_eq_true c17
                            clear c17
                            obtain ⟨bq18, hbq18⟩ : ∃ b_ : Bool, b_ = (rdOf false l0_1 x3_2) := ⟨_, rfl⟩
                            replace H : (if bq18 = true then (spec_TokensOk.l0 k2 (wrap64 (x3_2 + 1)) l0_0 l0_1) else (some false)) = some r := by rw [← hbq18] at H; exact H
                            have Nbq18 := am hbq18
                            clear hbq18
                            by_cases c19 : bq18 = true
                            · subst c19
                              replace H : (spec_TokensOk.l0 k2 (wrap64 (x3_2 + 1)) l0_0 l0_1) = some r := by rw [if_pos rfl] at H; exact H
                              have H' := am H
                              clear H
                              have hcz20_0 : wr.cell? ⟨gb152, 0, none⟩ = some (.slice A0_0 l0_0.length c0_0) := (blk_cell BK152.out 0).trans rfl
                              have hcz20_1 : wr.cell? ⟨gb152, 1, none⟩ = some (.slice A0_1 l0_1.length c0_1) := (blk_cell BK152.out 1).trans rfl
                              have hfz20_0 := blk_frozen BK152.out 0
                              have hfz20_1 := blk_frozen BK152.out 1
                              have p153 : 0 ≤ (x3_2 : Int) := ofd
                              have q153 : x3_2 < (l0_0.length : Int) := ofd
                              obtain ⟨ad153, e153, hx153_0⟩ := Kd.at_int HR0_0.out x3_2 p153 q153
                              cases e153
                              replace hx153_0 := (HB.out.cell (World.block_lt_of_cell? w _ hx153_0)).trans hx153_0
                              replace p153 := eq_true p153
                              replace q153 := eq_true q153
                              go_wp2_with (first | ((with_reducible refine gate_callee (f := 57) rfl ?_); refine goesL_ (some 33) rfl rfl Try.func57 (by kernel_rfl) rfl #[.int .i64 (rd l0_0 x3_2), .int .i64 (-1), .int .i64 (wrap64 (x3_2 - 1))] rfl mpx ?_; (with_reducible refine (spec_l1In.calls (rd l0_0 x3_2) (-1) (wrap64 (x3_2 - 1)) true _ A10.out).mono ?_); rintro e w' ⟨rfl, ⟨nd, rfl⟩⟩; refine ⟨_, rfl, ?_⟩; have p155 : 0 ≤ ((rd l0_0 x3_2) : Int) := ofd; have q155 : (rd l0_0 x3_2) < (l0_1.length : Int) := ofd; obtain ⟨ad155, e155, hx155_0⟩ := Kd.at_bool HR0_1.out (rd l0_0 x3_2) p155 q155; (try rw [← Nbq15.out] at hx155_0); (try rw [← Nbq18.out] at hx155_0); cases e155; replace hx155_0 := (HB.out.cell (World.block_lt_of_cell? w _ hx155_0)).trans hx155_0; replace p155 := eq_true p155; replace q155 := eq_true q155; have p156 : 0 ≤ (x3_2 : Int) := ofd; have q156 : x3_2 < (l0_1.length : Int) := ofd; obtain ⟨ad156, e156, hx156_0⟩ := Kd.at_bool HR0_1.out x3_2 p156 q156; (try rw [← Nbq15.out] at hx156_0); (try rw [← Nbq18.out] at hx156_0); obtain rfl : ad155 = ad156 := (by injection e156); replace hx156_0 := (HB.out.cell (World.block_lt_of_cell? w _ hx156_0)).trans hx156_0; replace p156 := eq_true p156; replace q156 := eq_true q156))
                              go_roundg k2
                              case measure => have := HJ1.out; have := HK2.out; omega
                              case rel => exact ⟨(wrap64 (x3_2 + 1)), rfx, H', ⟨by have := HJ1.out; have := HK2.out; omega⟩, ⟨pkK BK152.out⟩, ⟨pkW HB.out⟩⟩
                            · replace c19 := Bool.eq_false_iff.mpr c19
                              subst c19
                              replace H : (some false) = some r := by rw [if_neg (show ¬ (false = true) by decide)] at H; exact H
                              obtain rfl := Option.some.inj H
                              have hcz21_0 : wr.cell? ⟨gb152, 0, none⟩ = some (.slice A0_0 l0_0.length c0_0) := (blk_cell BK152.out 0).trans rfl
                              have hcz21_1 : wr.cell? ⟨gb152, 1, none⟩ = some (.slice A0_1 l0_1.length c0_1) := (blk_cell BK152.out 1).trans rfl
                              have hfz21_0 := blk_frozen BK152.out 0
                              have hfz21_1 := blk_frozen BK152.out 1
                              have p153 : 0 ≤ (x3_2 : Int) := ofd
                              have q153 : x3_2 < (l0_0.length : Int) := ofd
                              obtain ⟨ad153, e153, hx153_0⟩ := Kd.at_int HR0_0.out x3_2 p153 q153
                              cases e153
                              replace hx153_0 := (HB.out.cell (World.block_lt_of_cell? w _ hx153_0)).trans hx153_0
                              replace p153 := eq_true p153
                              replace q153 := eq_true q153
                              go_wp2_with (first | ((with_reducible refine gate_callee (f := 57) rfl ?_); refine goesL_ (some 33) rfl rfl Try.func57 (by kernel_rfl) rfl #[.int .i64 (rd l0_0 x3_2), .int .i64 (-1), .int .i64 (wrap64 (x3_2 - 1))] rfl mpx ?_; (with_reducible refine (spec_l1In.calls (rd l0_0 x3_2) (-1) (wrap64 (x3_2 - 1)) true _ A10.out).mono ?_); rintro e w' ⟨rfl, ⟨nd, rfl⟩⟩; refine ⟨_, rfl, ?_⟩; have p155 : 0 ≤ ((rd l0_0 x3_2) : Int) := ofd; have q155 : (rd l0_0 x3_2) < (l0_1.length : Int) := ofd; obtain ⟨ad155, e155, hx155_0⟩ := Kd.at_bool HR0_1.out (rd l0_0 x3_2) p155 q155; (try rw [← Nbq15.out] at hx155_0); (try rw [← Nbq18.out] at hx155_0); cases e155; replace hx155_0 := (HB.out.cell (World.block_lt_of_cell? w _ hx155_0)).trans hx155_0; replace p155 := eq_true p155; replace q155 := eq_true q155; have p156 : 0 ≤ (x3_2 : Int) := ofd; have q156 : x3_2 < (l0_1.length : Int) := ofd; obtain ⟨ad156, e156, hx156_0⟩ := Kd.at_bool HR0_1.out x3_2 p156 q156; (try rw [← Nbq15.out] at hx156_0); (try rw [← Nbq18.out] at hx156_0); obtain rfl : ad155 = ad156 := (by injection e156); replace hx156_0 := (HB.out.cell (World.block_lt_of_cell? w _ hx156_0)).trans hx156_0; replace p156 := eq_true p156; replace q156 := eq_true q156))
                              go_ret
                              exact ⟨rfe, pkW HB.out⟩
                          · rw [if_neg c17] at H
                            exact absurd H (by simp)
                        · replace c16 := Bool.eq_false_iff.mpr c16
                          subst c16
                          replace H : (spec_TokensOk.l0 k2 (wrap64 (x3_2 + 1)) l0_0 l0_1) = some r := by rw [if_neg (show ¬ (false = true) by decide)] at H; exact H
                          have H' := am H
                          clear H
                          have hcz22_0 : wr.cell? ⟨gb152, 0, none⟩ = some (.slice A0_0 l0_0.length c0_0) := (blk_cell BK152.out 0).trans rfl
                          have hcz22_1 : wr.cell? ⟨gb152, 1, none⟩ = some (.slice A0_1 l0_1.length c0_1) := (blk_cell BK152.out 1).trans rfl
                          have hfz22_0 := blk_frozen BK152.out 0
                          have hfz22_1 := blk_frozen BK152.out 1
                          have p153 : 0 ≤ (x3_2 : Int) := ofd
                          have q153 : x3_2 < (l0_0.length : Int) := ofd
                          obtain ⟨ad153, e153, hx153_0⟩ := Kd.at_int HR0_0.out x3_2 p153 q153
                          cases e153
                          replace hx153_0 := (HB.out.cell (World.block_lt_of_cell? w _ hx153_0)).trans hx153_0
                          replace p153 := eq_true p153
                          replace q153 := eq_true q153
                          go_wp2_with (first | ((with_reducible refine gate_callee (f := 57) rfl ?_); refine goesL_ (some 33) rfl rfl Try.func57 (by kernel_rfl) rfl #[.int .i64 (rd l0_0 x3_2), .int .i64 (-1), .int .i64 (wrap64 (x3_2 - 1))] rfl mpx ?_; (with_reducible refine (spec_l1In.calls (rd l0_0 x3_2) (-1) (wrap64 (x3_2 - 1)) true _ A10.out).mono ?_); rintro e w' ⟨rfl, ⟨nd, rfl⟩⟩; refine ⟨_, rfl, ?_⟩; have p155 : 0 ≤ ((rd l0_0 x3_2) : Int) := ofd; have q155 : (rd l0_0 x3_2) < (l0_1.length : Int) := ofd; obtain ⟨ad155, e155, hx155_0⟩ := Kd.at_bool HR0_1.out (rd l0_0 x3_2) p155 q155; (try rw [← Nbq15.out] at hx155_0); cases e155; replace hx155_0 := (HB.out.cell (World.block_lt_of_cell? w _ hx155_0)).trans hx155_0; replace p155 := eq_true p155; replace q155 := eq_true q155))
                          go_roundg k2
                          case measure => have := HJ1.out; have := HK2.out; omega
                          case rel => exact ⟨(wrap64 (x3_2 + 1)), rfx, H', ⟨by have := HJ1.out; have := HK2.out; omega⟩, ⟨pkK BK152.out⟩, ⟨pkW HB.out⟩⟩
                      · rw [if_neg c14] at H
                        exact absurd H (by simp)
                    · rw [if_neg c13] at H
                      exact absurd H (by simp)
                  · rw [if_neg c12] at H
                    have c12b0 : decide (0 ≤ (rd l0_0 x3_2)) = false := decide_eq_false c12
                    clear c12
                    have H' := am H
                    clear H
                    have hcz23_0 : wr.cell? ⟨gb152, 0, none⟩ = some (.slice A0_0 l0_0.length c0_0) := (blk_cell BK152.out 0).trans rfl
                    have hcz23_1 : wr.cell? ⟨gb152, 1, none⟩ = some (.slice A0_1 l0_1.length c0_1) := (blk_cell BK152.out 1).trans rfl
                    have hfz23_0 := blk_frozen BK152.out 0
                    have hfz23_1 := blk_frozen BK152.out 1
                    have p153 : 0 ≤ (x3_2 : Int) := ofd
                    have q153 : x3_2 < (l0_0.length : Int) := ofd
                    obtain ⟨ad153, e153, hx153_0⟩ := Kd.at_int HR0_0.out x3_2 p153 q153
                    cases e153
                    replace hx153_0 := (HB.out.cell (World.block_lt_of_cell? w _ hx153_0)).trans hx153_0
                    replace p153 := eq_true p153
                    replace q153 := eq_true q153
                    go_wp2_with (first | ((with_reducible refine gate_callee (f := 57) rfl ?_); refine goesL_ (some 33) rfl rfl Try.func57 (by kernel_rfl) rfl #[.int .i64 (rd l0_0 x3_2), .int .i64 (-1), .int .i64 (wrap64 (x3_2 - 1))] rfl mpx ?_; (with_reducible refine (spec_l1In.calls (rd l0_0 x3_2) (-1) (wrap64 (x3_2 - 1)) true _ A10.out).mono ?_); rintro e w' ⟨rfl, ⟨nd, rfl⟩⟩; refine ⟨_, rfl, ?_⟩))
                    go_roundg k2
                    case measure => have := HJ1.out; have := HK2.out; omega
                    case rel => exact ⟨(wrap64 (x3_2 + 1)), rfx, H', ⟨by have := HJ1.out; have := HK2.out; omega⟩, ⟨pkK BK152.out⟩, ⟨pkW HB.out⟩⟩
                · replace c11 := Bool.eq_false_iff.mpr c11
                  subst c11
                  replace H : (some false) = some r := by rw [if_neg (show ¬ (false = true) by decide)] at H; exact H
                  obtain rfl := Option.some.inj H
                  have hcz24_0 : wr.cell? ⟨gb152, 0, none⟩ = some (.slice A0_0 l0_0.length c0_0) := (blk_cell BK152.out 0).trans rfl
                  have hcz24_1 : wr.cell? ⟨gb152, 1, none⟩ = some (.slice A0_1 l0_1.length c0_1) := (blk_cell BK152.out 1).trans rfl
                  have hfz24_0 := blk_frozen BK152.out 0
                  have hfz24_1 := blk_frozen BK152.out 1
                  have p153 : 0 ≤ (x3_2 : Int) := ofd
                  have q153 : x3_2 < (l0_0.length : Int) := ofd
                  obtain ⟨ad153, e153, hx153_0⟩ := Kd.at_int HR0_0.out x3_2 p153 q153
                  cases e153
                  replace hx153_0 := (HB.out.cell (World.block_lt_of_cell? w _ hx153_0)).trans hx153_0
                  replace p153 := eq_true p153
                  replace q153 := eq_true q153
                  go_wp2_with (first | ((with_reducible refine gate_callee (f := 57) rfl ?_); refine goesL_ (some 33) rfl rfl Try.func57 (by kernel_rfl) rfl #[.int .i64 (rd l0_0 x3_2), .int .i64 (-1), .int .i64 (wrap64 (x3_2 - 1))] rfl mpx ?_; (with_reducible refine (spec_l1In.calls (rd l0_0 x3_2) (-1) (wrap64 (x3_2 - 1)) false _ A10.out).mono ?_); rintro e w' ⟨rfl, ⟨nd, rfl⟩⟩; refine ⟨_, rfl, ?_⟩))
                  go_ret
                  exact ⟨rfe, pkW HB.out⟩
              · rw [if_neg c9] at H
                exact absurd H (by simp)
            · rw [if_neg c8] at H
              have c8b0 : decide (x3_2 < (l0_0.length : Int)) = false := decide_eq_false c8
              clear c8
              obtain rfl := Option.some.inj H
              have hcz25_0 : wr.cell? ⟨gb152, 0, none⟩ = some (.slice A0_0 l0_0.length c0_0) := (blk_cell BK152.out 0).trans rfl
              have hcz25_1 : wr.cell? ⟨gb152, 1, none⟩ = some (.slice A0_1 l0_1.length c0_1) := (blk_cell BK152.out 1).trans rfl
              have hfz25_0 := blk_frozen BK152.out 0
              have hfz25_1 := blk_frozen BK152.out 1
              go_wp2
              go_ret
              exact ⟨rfe, pkW HB.out⟩
end Go.Proofs.Ytghmhekjdjdleaa.Z
