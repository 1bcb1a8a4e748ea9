/- Plain laws of what the printed functions compute, the program's and the reference's, for every number and list; conditions: those of each theorem. -/
import Derived.Test.YtghmhekjdjdleaaZx4
import Derived.Test.YtghmhekjdjdleaaZx5
import Derived.Test.YtghmhekjdjdleaaZx6
import Derived.Test.YtghmhekjdjdleaaZx7
import Derived.Test.YtghmhekjdjdleaaZx8
import Derived.Test.YtghmhekjdjdleaaZx11
import Derived.Test.YtghmhekjdjdleaaZx15
import Derived.Test.YtghmhekjdjdleaaZx16
import Derived.Test.YtghmhekjdjdleaaZx17
import Derived.Test.YtghmhekjdjdleaaZx18
import Derived.Test.YtghmhekjdjdleaaZx19
import Derived.Test.YtghmhekjdjdleaaZx20
import Derived.Test.YtghmhekjdjdleaaZx21
import Derived.Test.YtghmhekjdjdleaaZx25
import Derived.Test.YtghmhekjdjdleaaZx26
import Derived.Test.YtghmhekjdjdleaaQ
namespace Go.Proofs.Ytghmhekjdjdleaa.Q
open Go.RowKit Go.Proofs.Ytghmhekjdjdleaa.Z Go.Proofs.YtghmhekjdjdleaaW.PrintWords Go.Proofs.YtghmhekjdjdleaaW.PrintLast Go.Proofs.YtghmhekjdjdleaaW.PrintMore
set_option linter.unusedVariables false
set_option linter.unusedSimpArgs false
def tokFrom (p : List Int) (o : List Bool) (n : Nat) : Prop := ∀ i, n ≤ i → i < p.length → (-1 ≤ p.getD i 0 ∧ p.getD i 0 ≤ (i : Int) - 1) ∧ (0 ≤ p.getD i 0 → o.getD (p.getD i 0).toNat false = true → o.getD i false = true)
def tokOk (p : List Int) (o : List Bool) : Prop := p.length = o.length ∧ p.length ≤ 24 ∧ tokFrom p o 0
theorem tokFrom_step (p : List Int) (o : List Bool) (n : Nat) (h : n < p.length) : tokFrom p o n ↔ ((-1 ≤ p.getD n 0 ∧ p.getD n 0 ≤ (n : Int) - 1) ∧ (0 ≤ p.getD n 0 → o.getD (p.getD n 0).toNat false = true → o.getD n false = true)) ∧ tokFrom p o (n + 1) := by
  constructor
  · intro hf
    exact ⟨hf n (Nat.le_refl _) h, fun i hi => hf i (by omega)⟩
  · rintro ⟨h0, hf⟩ i hi hl
    rcases Nat.eq_or_lt_of_le hi with rfl | hlt
    · exact h0
    · exact hf i hlt hl
theorem rdOf_int {α : Type} (d : α) (l : List α) (i : Int) : rdOf d l i = l.getD i.toNat d := rfl
theorem specTok_l (p : List Int) (o : List Bool) (hl : p.length ≤ 24) (he : p.length = o.length) : ∀ d n : Nat, n + d = p.length → Ev (fun k => spec_TokensOk.l0 k n p o) (bP (tokFrom p o n))
  | 0, n, hn => by
    refine Ev.step (fun _ => rfl) ?_
    simp only [spec_TokensOk.l0, if_neg (show ¬ (n : Int) < (p.length : Int) by omega)]
    rw [bP_pos (show tokFrom p o n from fun i hi hl => by omega)]
    exact Ev.now _
  | d + 1, n, hn => by
    have ih := specTok_l p o hl he d (n + 1) (by omega)
    refine Ev.step (fun _ => rfl) ?_
    simp only [spec_TokensOk.l0, if_pos (show (n : Int) < (p.length : Int) by omega), if_pos (show (n : Int) < (o.length : Int) by omega), if_pos (show (0 : Int) ≤ (n : Int) by omega), w64n (show n < p.length by omega) (by omega), rd_nat, rdOf_int, Int.toNat_natCast, w64 (show -9223372036854775808 ≤ (n : Int) - 1 by omega) (show (n : Int) - 1 ≤ 9223372036854775807 by omega), l1In_eq, Option.bind_some]
    rw [bP_congr (tokFrom_step p o n (by omega))]
    by_cases h1 : -1 ≤ p.getD n 0 ∧ p.getD n 0 ≤ (n : Int) - 1
    · simp only [bP_pos h1, if_true]
      by_cases h2 : p.getD n 0 ≥ 0
      · simp only [if_pos h2, if_pos (show (0 : Int) ≤ p.getD n 0 from h2), if_pos (show p.getD n 0 < (o.length : Int) by omega)]
        by_cases h3 : o.getD (p.getD n 0).toNat false = true
        · simp only [if_pos h3]
          by_cases h4 : o.getD n false = true
          · simp only [if_pos h4]
            exact Ev_eq ih (bP_congr ⟨fun h => ⟨⟨h1, fun _ _ => h4⟩, h⟩, fun h => h.2⟩)
          · simp only [if_neg h4]
            rw [bP_neg (fun h => h4 (h.1.2 h2 h3))]
            exact Ev.now _
        · simp only [if_neg h3]
          exact Ev_eq ih (bP_congr ⟨fun h => ⟨⟨h1, fun _ h' => absurd h' h3⟩, h⟩, fun h => h.2⟩)
      · simp only [if_neg h2]
        exact Ev_eq ih (bP_congr ⟨fun h => ⟨⟨h1, fun h' => absurd h' (by omega)⟩, h⟩, fun h => h.2⟩)
    · simp only [bP_neg h1, if_neg (show ¬ (false = true) by decide)]
      rw [bP_neg (fun h => h1 h.1.1)]
      exact Ev.now _
theorem specTok_ev (p : List Int) (o : List Bool) : Ev (fun k => spec_TokensOk.f k p o) (bP (tokOk p o)) := by
  simp only [spec_TokensOk.f]
  by_cases h : (p.length : Int) = (o.length : Int)
  · refine Ev_ifpos h ?_
    refine Ev.step (fun _ => rfl) ?_
    simp only [spec_TokensOk.j0]
    by_cases h2 : (p.length : Int) > 24
    · refine Ev_ifpos (by simpa using h2) ?_
      rw [bP_neg (fun h3 => by have := h3.2.1; omega)]
      exact Ev.now _
    · refine Ev_ifneg (by simpa using h2) ?_
      exact Ev_eq (specTok_l p o (by omega) (by omega) p.length 0 (by omega)) (bP_congr ⟨fun h3 => ⟨by omega, by omega, h3⟩, fun h3 => h3.2.2⟩)
  · refine Ev_ifneg h ?_
    refine Ev.step (fun _ => rfl) ?_
    simp only [spec_TokensOk.j0, if_true]
    rw [bP_neg (fun h3 => by have := h3.1; omega)]
    exact Ev.now _
theorem implTok_l (p : List Int) (o : List Bool) (hl : p.length ≤ 24) (he : p.length = o.length) : ∀ d n : Nat, n + d = p.length → Ev (fun k => impl_TokensOk.l0 k p (p.length : Int) n p o) (bP (tokFrom p o n))
  | 0, n, hn => by
    refine Ev.step (fun _ => rfl) ?_
    simp only [impl_TokensOk.l0, if_neg (show ¬ (n : Int) < (p.length : Int) by omega)]
    rw [bP_pos (show tokFrom p o n from fun i hi hl => by omega)]
    exact Ev.now _
  | d + 1, n, hn => by
    have ih := implTok_l p o hl he d (n + 1) (by omega)
    refine Ev.step (fun _ => rfl) ?_
    simp only [impl_TokensOk.l0, if_pos (show (n : Int) < (p.length : Int) by omega), if_pos (show (n : Int) < (o.length : Int) by omega), if_pos (show (0 : Int) ≤ (n : Int) by omega), w64n (show n < p.length by omega) (by omega), rd_nat, rdOf_int, Int.toNat_natCast, w64 (show -9223372036854775808 ≤ (n : Int) - 1 by omega) (show (n : Int) - 1 ≤ 9223372036854775807 by omega), within_eq, Option.bind_some]
    rw [bP_congr (tokFrom_step p o n (by omega))]
    by_cases h1 : -1 ≤ p.getD n 0 ∧ p.getD n 0 ≤ (n : Int) - 1
    · simp only [bP_pos h1, if_true]
      by_cases h2 : p.getD n 0 ≥ 0
      · simp only [if_pos h2, if_pos (show (0 : Int) ≤ p.getD n 0 from h2), if_pos (show p.getD n 0 < (o.length : Int) by omega)]
        by_cases h3 : o.getD (p.getD n 0).toNat false = true
        · simp only [if_pos h3]
          by_cases h4 : o.getD n false = true
          · simp only [if_pos h4]
            exact Ev_eq ih (bP_congr ⟨fun h => ⟨⟨h1, fun _ _ => h4⟩, h⟩, fun h => h.2⟩)
          · simp only [if_neg h4]
            rw [bP_neg (fun h => h4 (h.1.2 h2 h3))]
            exact Ev.now _
        · simp only [if_neg h3]
          exact Ev_eq ih (bP_congr ⟨fun h => ⟨⟨h1, fun _ h' => absurd h' h3⟩, h⟩, fun h => h.2⟩)
      · simp only [if_neg h2]
        exact Ev_eq ih (bP_congr ⟨fun h => ⟨⟨h1, fun h' => absurd h' (by omega)⟩, h⟩, fun h => h.2⟩)
    · simp only [bP_neg h1, if_neg (show ¬ (false = true) by decide)]
      rw [bP_neg (fun h => h1 h.1.1)]
      exact Ev.now _
theorem implTok_ev (p : List Int) (o : List Bool) : Ev (fun k => impl_TokensOk.f k p o) (bP (tokOk p o)) := by
  simp only [impl_TokensOk.f]
  by_cases h : (p.length : Int) = (o.length : Int)
  · refine Ev_ifpos h ?_
    refine Ev.step (fun _ => rfl) ?_
    simp only [impl_TokensOk.j0]
    by_cases h2 : (p.length : Int) > 24
    · refine Ev_ifpos (by simpa using h2) ?_
      rw [bP_neg (fun h3 => by have := h3.2.1; omega)]
      exact Ev.now _
    · refine Ev_ifneg (by simpa using h2) ?_
      exact Ev_eq (implTok_l p o (by omega) (by omega) p.length 0 (by omega)) (bP_congr ⟨fun h3 => ⟨by omega, by omega, h3⟩, fun h3 => h3.2.2⟩)
  · refine Ev_ifneg h ?_
    refine Ev.step (fun _ => rfl) ?_
    simp only [impl_TokensOk.j0, if_true]
    rw [bP_neg (fun h3 => by have := h3.1; omega)]
    exact Ev.now _
theorem toTokens_ev (p : List Int) (o : List Bool) (hp : p.length ≤ 35184372088832) (ho : o.length ≤ 35184372088832) : Ev (fun k => laws_toTokens.f k p o) (p, o) := by
  simp only [laws_toTokens.f]
  repeat (first
    | (dsimp only)
    | (with_reducible exact Ev.now _)
    | (with_reducible refine Ev.bind (toIntS_ev _ (by omega)) ?_)
    | (with_reducible refine Ev.bind (toBoolS_ev _ (by omega)) ?_)
    | (with_reducible refine Ev.bind (eqIntS_self _ (by omega)) ?_)
    | (with_reducible refine Ev.bind (eqBoolS_self _ (by omega)) ?_)
    | (with_reducible refine Ev.bind (markIntS_ev _ _ (by omega) (by omega) (by omega)) ?_)
    | (with_reducible refine Ev.bind (heldIntS_ev _ _ (by omega) (by omega) (by omega)) ?_)
    | (with_reducible refine Ev.bind (markBoolS_ev _ _ (by omega) (by omega) (by omega)) ?_)
    | (with_reducible refine Ev.bind (Contains_ev _ _ (by omega)) ?_)
    | (with_reducible refine Ev.bind (implPlaceOf_ev _ _ (by omega)) ?_)
    | (with_reducible refine Ev.bind (specPlaceOf_ev _ _ (by omega)) ?_)
    | (with_reducible refine Ev.bind (l2Has_ev _ _ (by omega)) ?_)
    | (with_reducible refine Ev.bind (specLineOk_ev _ (by omega)) ?_)
    | (with_reducible refine Ev.bind (implLineOk_ev _ (by omega)) ?_)
    | (with_reducible refine Ev.bind (specTok_ev _ _) ?_)
    | (with_reducible refine Ev.bind (implTok_ev _ _) ?_)
    | (with_reducible refine Ev_some (l1In_eq _ _ _) ?_)
    | (with_reducible refine Ev_some (within_eq _ _ _) ?_)
    | (with_reducible refine Ev_some (l2Client_eq _) ?_)
    | (with_reducible refine Ev_some (isClient_eq _) ?_)
    | (with_reducible refine Ev_some (l2Copy_eq _ (by omega)) ?_)
    | (with_reducible refine Ev_some (Clone_eq _ (by omega)) ?_)
    | (with_reducible refine Ev_some (CloneB_eq _ (by omega)) ?_)
    | (refine Ev_ifpos (by first | rfl | omega) ?_)
    | (refine Ev_ifneg (by first | omega | decide) ?_)
    | (refine Ev_ifneg (by simp only [bne_self_eq_false]; decide) ?_)
    | (refine Ev_ifpos (by simp) ?_)
    | (refine Ev_ifneg (by simp) ?_))
theorem eqTokens_self (p : List Int) (o : List Bool) (hp : p.length ≤ 9223372036854775807) (ho : o.length ≤ 9223372036854775807) : Ev (fun k => laws_eqTokens.f k p o p o) true := by
  simp only [laws_eqTokens.f]
  repeat (first
    | (dsimp only)
    | (with_reducible exact Ev.now _)
    | (with_reducible refine Ev.bind (toIntS_ev _ (by omega)) ?_)
    | (with_reducible refine Ev.bind (toBoolS_ev _ (by omega)) ?_)
    | (with_reducible refine Ev.bind (eqIntS_self _ (by omega)) ?_)
    | (with_reducible refine Ev.bind (eqBoolS_self _ (by omega)) ?_)
    | (with_reducible refine Ev.bind (markIntS_ev _ _ (by omega) (by omega) (by omega)) ?_)
    | (with_reducible refine Ev.bind (heldIntS_ev _ _ (by omega) (by omega) (by omega)) ?_)
    | (with_reducible refine Ev.bind (markBoolS_ev _ _ (by omega) (by omega) (by omega)) ?_)
    | (with_reducible refine Ev.bind (Contains_ev _ _ (by omega)) ?_)
    | (with_reducible refine Ev.bind (implPlaceOf_ev _ _ (by omega)) ?_)
    | (with_reducible refine Ev.bind (specPlaceOf_ev _ _ (by omega)) ?_)
    | (with_reducible refine Ev.bind (l2Has_ev _ _ (by omega)) ?_)
    | (with_reducible refine Ev.bind (specLineOk_ev _ (by omega)) ?_)
    | (with_reducible refine Ev.bind (implLineOk_ev _ (by omega)) ?_)
    | (with_reducible refine Ev.bind (specTok_ev _ _) ?_)
    | (with_reducible refine Ev.bind (implTok_ev _ _) ?_)
    | (with_reducible refine Ev.bind (toTokens_ev _ _ (by omega) (by omega)) ?_)
    | (with_reducible refine Ev_some (l1In_eq _ _ _) ?_)
    | (with_reducible refine Ev_some (within_eq _ _ _) ?_)
    | (with_reducible refine Ev_some (l2Client_eq _) ?_)
    | (with_reducible refine Ev_some (isClient_eq _) ?_)
    | (with_reducible refine Ev_some (l2Copy_eq _ (by omega)) ?_)
    | (with_reducible refine Ev_some (Clone_eq _ (by omega)) ?_)
    | (with_reducible refine Ev_some (CloneB_eq _ (by omega)) ?_)
    | (refine Ev_ifpos (by first | rfl | omega) ?_)
    | (refine Ev_ifneg (by first | omega | decide) ?_)
    | (refine Ev_ifneg (by simp only [bne_self_eq_false]; decide) ?_)
    | (refine Ev_ifpos (by simp) ?_)
    | (refine Ev_ifneg (by simp) ?_))
theorem markTokens_ev (p : List Int) (o : List Bool) (v : Int) (h0 : -9223372036854775808 ≤ v) (h1 : v + p.length + o.length ≤ 9223372036854775807) (hp : p.length ≤ 1048577) (ho : o.length ≤ 1048577) : Ev (fun k => laws_markTokens.f k p o v) (v + p.length + o.length, upFrom v p.length, upB (v + p.length) o.length) := by
  simp only [laws_markTokens.f]
  repeat (first
    | (dsimp only)
    | (with_reducible exact Ev.now _)
    | (with_reducible refine Ev.bind (toIntS_ev _ (by omega)) ?_)
    | (with_reducible refine Ev.bind (toBoolS_ev _ (by omega)) ?_)
    | (with_reducible refine Ev.bind (eqIntS_self _ (by omega)) ?_)
    | (with_reducible refine Ev.bind (eqBoolS_self _ (by omega)) ?_)
    | (with_reducible refine Ev.bind (markIntS_ev _ _ (by omega) (by omega) (by omega)) ?_)
    | (with_reducible refine Ev.bind (heldIntS_ev _ _ (by omega) (by omega) (by omega)) ?_)
    | (with_reducible refine Ev.bind (markBoolS_ev _ _ (by omega) (by omega) (by omega)) ?_)
    | (with_reducible refine Ev.bind (Contains_ev _ _ (by omega)) ?_)
    | (with_reducible refine Ev.bind (implPlaceOf_ev _ _ (by omega)) ?_)
    | (with_reducible refine Ev.bind (specPlaceOf_ev _ _ (by omega)) ?_)
    | (with_reducible refine Ev.bind (l2Has_ev _ _ (by omega)) ?_)
    | (with_reducible refine Ev.bind (specLineOk_ev _ (by omega)) ?_)
    | (with_reducible refine Ev.bind (implLineOk_ev _ (by omega)) ?_)
    | (with_reducible refine Ev.bind (specTok_ev _ _) ?_)
    | (with_reducible refine Ev.bind (implTok_ev _ _) ?_)
    | (with_reducible refine Ev.bind (toTokens_ev _ _ (by omega) (by omega)) ?_)
    | (with_reducible refine Ev.bind (eqTokens_self _ _ (by omega) (by omega)) ?_)
    | (with_reducible refine Ev_some (l1In_eq _ _ _) ?_)
    | (with_reducible refine Ev_some (within_eq _ _ _) ?_)
    | (with_reducible refine Ev_some (l2Client_eq _) ?_)
    | (with_reducible refine Ev_some (isClient_eq _) ?_)
    | (with_reducible refine Ev_some (l2Copy_eq _ (by omega)) ?_)
    | (with_reducible refine Ev_some (Clone_eq _ (by omega)) ?_)
    | (with_reducible refine Ev_some (CloneB_eq _ (by omega)) ?_)
    | (refine Ev_ifpos (by first | rfl | omega) ?_)
    | (refine Ev_ifneg (by first | omega | decide) ?_)
    | (refine Ev_ifneg (by simp only [bne_self_eq_false]; decide) ?_)
    | (refine Ev_ifpos (by simp) ?_)
    | (refine Ev_ifneg (by simp) ?_))
theorem heldBoolS_l (l : List Bool) (hl : l.length ≤ 9223372036854775807) : ∀ d n : Nat, n + d = l.length → ∀ (v : Int), -9223372036854775808 ≤ v → v + d ≤ 9223372036854775807 → l.drop n = upB v d → Ev (fun k => laws_heldBoolS.l0 k l v n) (v + d)
  | 0, n, hd, v, h0, h1, he => by
    refine Ev.step (fun _ => rfl) ?_
    simp only [laws_heldBoolS.l0, if_neg (show ¬ (n : Int) < (l.length : Int) by omega)]
    refine Ev_eq (Ev.now _) (by omega)
  | d + 1, n, hd, v, h0, h1, he => by
    rw [drop_cons false l n (by omega)] at he
    simp only [upB, List.cons.injEq] at he
    refine Ev.step (fun _ => rfl) ?_
    simp only [laws_heldBoolS.l0, if_pos (show (n : Int) < (l.length : Int) by omega), if_pos (show (0 : Int) ≤ (n : Int) by omega), w64n (show n < l.length by omega) hl, rdOf_nat, he.1, bne_self_eq_false, if_neg (show ¬ (false = true) by decide), w64 (show -9223372036854775808 ≤ v + 1 by omega) (show v + 1 ≤ 9223372036854775807 by omega)]
    exact Ev_eq (heldBoolS_l l hl d (n + 1) (by omega) (v + 1) (by omega) (by omega) he.2) (by omega)
theorem heldBoolS_ev (n : Nat) (v : Int) (h0 : -9223372036854775808 ≤ v) (h1 : v + n ≤ 9223372036854775807) (hl : n ≤ 9223372036854775807) : Ev (fun k => laws_heldBoolS.f k (upB v n) v) (v + n) := by
  simp only [laws_heldBoolS.f]
  exact heldBoolS_l (upB v n) (by rw [upB_length]; exact hl) n 0 (by rw [upB_length]; omega) v h0 h1 rfl
theorem heldTokens_ev (n m : Nat) (v : Int) (h0 : 0 ≤ v) (h1 : v + n + m ≤ 9223372036854775807) (hp : n ≤ 1048577) (ho : m ≤ 1048577) : Ev (fun k => laws_heldTokens.f k (upFrom v n) (upB (v + n) m) v) (v + n + m) := by
  simp only [laws_heldTokens.f]
  repeat (first
    | (dsimp only)
    | (with_reducible exact Ev.now _)
    | (with_reducible refine Ev.bind (toIntS_ev _ (by omega)) ?_)
    | (with_reducible refine Ev.bind (toBoolS_ev _ (by omega)) ?_)
    | (with_reducible refine Ev.bind (eqIntS_self _ (by omega)) ?_)
    | (with_reducible refine Ev.bind (eqBoolS_self _ (by omega)) ?_)
    | (with_reducible refine Ev.bind (markIntS_ev _ _ (by omega) (by omega) (by omega)) ?_)
    | (with_reducible refine Ev.bind (heldIntS_ev _ _ (by omega) (by omega) (by omega)) ?_)
    | (with_reducible refine Ev.bind (markBoolS_ev _ _ (by omega) (by omega) (by omega)) ?_)
    | (with_reducible refine Ev.bind (Contains_ev _ _ (by omega)) ?_)
    | (with_reducible refine Ev.bind (implPlaceOf_ev _ _ (by omega)) ?_)
    | (with_reducible refine Ev.bind (specPlaceOf_ev _ _ (by omega)) ?_)
    | (with_reducible refine Ev.bind (l2Has_ev _ _ (by omega)) ?_)
    | (with_reducible refine Ev.bind (specLineOk_ev _ (by omega)) ?_)
    | (with_reducible refine Ev.bind (implLineOk_ev _ (by omega)) ?_)
    | (with_reducible refine Ev.bind (specTok_ev _ _) ?_)
    | (with_reducible refine Ev.bind (implTok_ev _ _) ?_)
    | (with_reducible refine Ev.bind (toTokens_ev _ _ (by omega) (by omega)) ?_)
    | (with_reducible refine Ev.bind (eqTokens_self _ _ (by omega) (by omega)) ?_)
    | (with_reducible refine Ev.bind (markTokens_ev _ _ _ (by omega) (by omega) (by omega) (by omega)) ?_)
    | (with_reducible refine Ev.bind (heldBoolS_ev _ _ (by omega) (by omega) (by omega)) ?_)
    | (with_reducible refine Ev_some (l1In_eq _ _ _) ?_)
    | (with_reducible refine Ev_some (within_eq _ _ _) ?_)
    | (with_reducible refine Ev_some (l2Client_eq _) ?_)
    | (with_reducible refine Ev_some (isClient_eq _) ?_)
    | (with_reducible refine Ev_some (l2Copy_eq _ (by omega)) ?_)
    | (with_reducible refine Ev_some (Clone_eq _ (by omega)) ?_)
    | (with_reducible refine Ev_some (CloneB_eq _ (by omega)) ?_)
    | (refine Ev_ifpos (by first | rfl | omega) ?_)
    | (refine Ev_ifneg (by first | omega | decide) ?_)
    | (refine Ev_ifneg (by simp only [bne_self_eq_false]; decide) ?_)
    | (refine Ev_ifpos (by simp) ?_)
    | (refine Ev_ifneg (by simp) ?_))
theorem szTokens_cases (p : List Int) (o : List Bool) (hp : p.length ≤ 9223372036854775807) (ho : o.length ≤ 9223372036854775807) : ∃ v, laws_szTokens.f p o 1048576 = some v ∧ (v < 0 ∨ (0 ≤ v ∧ p.length + o.length ≤ 1048576)) := by
  simp only [laws_szTokens.f]
  by_cases h1 : (1048576 : Int) < p.length
  · exact ⟨-1, by rw [szIntS_neg p _ hp (by omega) (by omega) h1]; rfl, .inl (by omega)⟩
  · by_cases h2 : (1048576 : Int) - p.length < o.length
    · refine ⟨-1, ?_, .inl (by omega)⟩
      rw [szIntS_pos p _ (by omega) (by omega)]
      simp only [Option.bind_some, if_neg (show ¬ (1048576 : Int) - p.length < 0 by omega)]
      rw [szBoolS_neg o _ ho (by omega) (by omega) h2]
      rfl
    · refine ⟨1048576 - p.length - o.length, ?_, .inr ⟨by omega, by omega⟩⟩
      rw [szIntS_pos p _ (by omega) (by omega)]
      simp only [Option.bind_some, if_neg (show ¬ (1048576 : Int) - p.length < 0 by omega)]
      rw [szBoolS_pos o _ (by omega) (by omega)]
      simp only [Option.bind_some, if_neg (show ¬ (1048576 : Int) - p.length - o.length < 0 by omega)]
end Go.Proofs.Ytghmhekjdjdleaa.Q
