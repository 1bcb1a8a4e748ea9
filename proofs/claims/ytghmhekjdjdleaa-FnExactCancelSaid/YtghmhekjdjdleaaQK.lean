/- Plain laws of what the functions on lines and on tokens compute, the program's and the reference's: both tell the same; conditions: lengths up to 2^20. -/
import Derived.Test.YtghmhekjdjdleaaZx4
import Derived.Test.YtghmhekjdjdleaaZx5
import Derived.Test.YtghmhekjdjdleaaZx6
import Derived.Test.YtghmhekjdjdleaaZx7
import Derived.Test.YtghmhekjdjdleaaZx8
import Derived.Test.YtghmhekjdjdleaaZx11
import Derived.Test.YtghmhekjdjdleaaZx15
import Derived.Test.YtghmhekjdjdleaaZx16
import Derived.Test.YtghmhekjdjdleaaZx17
import Derived.Test.YtghmhekjdjdleaaZx18
import Derived.Test.YtghmhekjdjdleaaZx19
import Derived.Test.YtghmhekjdjdleaaZx20
import Derived.Test.YtghmhekjdjdleaaZx21
import Derived.Test.YtghmhekjdjdleaaZx25
import Derived.Test.YtghmhekjdjdleaaZx26
import Derived.Test.YtghmhekjdjdleaaQ
namespace Go.Proofs.Ytghmhekjdjdleaa.Q
open Go.RowKit Go.Proofs.Ytghmhekjdjdleaa.Z Go.Proofs.YtghmhekjdjdleaaW.PrintWords Go.Proofs.YtghmhekjdjdleaaW.PrintLast Go.Proofs.YtghmhekjdjdleaaW.PrintMore
set_option linter.unusedVariables false
set_option linter.unusedSimpArgs false
def tokFrom (p : List Int) (o : List Bool) (n : Nat) : Prop := ∀ i, n ≤ i → i < p.length → (-1 ≤ p.getD i 0 ∧ p.getD i 0 ≤ (i : Int) - 1) ∧ (0 ≤ p.getD i 0 → o.getD (p.getD i 0).toNat false = true → o.getD i false = true)
def tokOk (p : List Int) (o : List Bool) : Prop := p.length = o.length ∧ p.length ≤ 24 ∧ tokFrom p o 0
theorem tokFrom_step (p : List Int) (o : List Bool) (n : Nat) (h : n < p.length) : tokFrom p o n ↔ ((-1 ≤ p.getD n 0 ∧ p.getD n 0 ≤ (n : Int) - 1) ∧ (0 ≤ p.getD n 0 → o.getD (p.getD n 0).toNat false = true → o.getD n false = true)) ∧ tokFrom p o (n + 1) := by
  constructor
  · intro hf
    exact ⟨hf n (Nat.le_refl _) h, fun i hi => hf i (by omega)⟩
  · rintro ⟨h0, hf⟩ i hi hl
    rcases Nat.eq_or_lt_of_le hi with rfl | hlt
    · exact h0
    · exact hf i hlt hl
theorem rdOf_int {α : Type} (d : α) (l : List α) (i : Int) : rdOf d l i = l.getD i.toNat d := rfl
theorem specTok_l (p : List Int) (o : List Bool) (hl : p.length ≤ 24) (he : p.length = o.length) : ∀ d n : Nat, n + d = p.length → Ev (fun k => spec_TokensOk.l0 k n p o) (bP (tokFrom p o n))
  | 0, n, hn => by
    refine Ev.step (fun _ => rfl) ?_
    simp only [spec_TokensOk.l0, if_neg (show ¬ (n : Int) < (p.length : Int) by omega)]
    rw [bP_pos (show tokFrom p o n from fun i hi hl => by omega)]
    exact Ev.now _
  | d + 1, n, hn => by
    have ih := specTok_l p o hl he d (n + 1) (by omega)
    refine Ev.step (fun _ => rfl) ?_
    simp only [spec_TokensOk.l0, if_pos (show (n : Int) < (p.length : Int) by omega), if_pos (show (n : Int) < (o.length : Int) by omega), if_pos (show (0 : Int) ≤ (n : Int) by omega), w64n (show n < p.length by omega) (by omega), rd_nat, rdOf_int, Int.toNat_natCast, w64 (show -9223372036854775808 ≤ (n : Int) - 1 by omega) (show (n : Int) - 1 ≤ 9223372036854775807 by omega), l1In_eq, Option.bind_some]
    rw [bP_congr (tokFrom_step p o n (by omega))]
    by_cases h1 : -1 ≤ p.getD n 0 ∧ p.getD n 0 ≤ (n : Int) - 1
    · simp only [bP_pos h1, if_true]
      by_cases h2 : p.getD n 0 ≥ 0
      · simp only [if_pos h2, if_pos (show (0 : Int) ≤ p.getD n 0 from h2), if_pos (show p.getD n 0 < (o.length : Int) by omega)]
        by_cases h3 : o.getD (p.getD n 0).toNat false = true
        · simp only [if_pos h3]
          by_cases h4 : o.getD n false = true
          · simp only [if_pos h4]
            exact Ev_eq ih (bP_congr ⟨fun h => ⟨⟨h1, fun _ _ => h4⟩, h⟩, fun h => h.2⟩)
          · simp only [if_neg h4]
            rw [bP_neg (fun h => h4 (h.1.2 h2 h3))]
            exact Ev.now _
        · simp only [if_neg h3]
          exact Ev_eq ih (bP_congr ⟨fun h => ⟨⟨h1, fun _ h' => absurd h' h3⟩, h⟩, fun h => h.2⟩)
      · simp only [if_neg h2]
        exact Ev_eq ih (bP_congr ⟨fun h => ⟨⟨h1, fun h' => absurd h' (by omega)⟩, h⟩, fun h => h.2⟩)
    · simp only [bP_neg h1, if_neg (show ¬ (false = true) by decide)]
      rw [bP_neg (fun h => h1 h.1.1)]
      exact Ev.now _
theorem specTok_ev (p : List Int) (o : List Bool) : Ev (fun k => spec_TokensOk.f k p o) (bP (tokOk p o)) := by
  simp only [spec_TokensOk.f]
  by_cases h : (p.length : Int) = (o.length : Int)
  · refine Ev_ifpos h ?_
    refine Ev.step (fun _ => rfl) ?_
    simp only [spec_TokensOk.j0]
    by_cases h2 : (p.length : Int) > 24
    · refine Ev_ifpos (by simpa using h2) ?_
      rw [bP_neg (fun h3 => by have := h3.2.1; omega)]
      exact Ev.now _
    · refine Ev_ifneg (by simpa using h2) ?_
      exact Ev_eq (specTok_l p o (by omega) (by omega) p.length 0 (by omega)) (bP_congr ⟨fun h3 => ⟨by omega, by omega, h3⟩, fun h3 => h3.2.2⟩)
  · refine Ev_ifneg h ?_
    refine Ev.step (fun _ => rfl) ?_
    simp only [spec_TokensOk.j0, if_true]
    rw [bP_neg (fun h3 => by have := h3.1; omega)]
    exact Ev.now _
theorem implTok_l (p : List Int) (o : List Bool) (hl : p.length ≤ 24) (he : p.length = o.length) : ∀ d n : Nat, n + d = p.length → Ev (fun k => impl_TokensOk.l0 k p (p.length : Int) n p o) (bP (tokFrom p o n))
  | 0, n, hn => by
    refine Ev.step (fun _ => rfl) ?_
    simp only [impl_TokensOk.l0, if_neg (show ¬ (n : Int) < (p.length : Int) by omega)]
    rw [bP_pos (show tokFrom p o n from fun i hi hl => by omega)]
    exact Ev.now _
  | d + 1, n, hn => by
    have ih := implTok_l p o hl he d (n + 1) (by omega)
    refine Ev.step (fun _ => rfl) ?_
    simp only [impl_TokensOk.l0, if_pos (show (n : Int) < (p.length : Int) by omega), if_pos (show (n : Int) < (o.length : Int) by omega), if_pos (show (0 : Int) ≤ (n : Int) by omega), w64n (show n < p.length by omega) (by omega), rd_nat, rdOf_int, Int.toNat_natCast, w64 (show -9223372036854775808 ≤ (n : Int) - 1 by omega) (show (n : Int) - 1 ≤ 9223372036854775807 by omega), within_eq, Option.bind_some]
    rw [bP_congr (tokFrom_step p o n (by omega))]
    by_cases h1 : -1 ≤ p.getD n 0 ∧ p.getD n 0 ≤ (n : Int) - 1
    · simp only [bP_pos h1, if_true]
      by_cases h2 : p.getD n 0 ≥ 0
      · simp only [if_pos h2, if_pos (show (0 : Int) ≤ p.getD n 0 from h2), if_pos (show p.getD n 0 < (o.length : Int) by omega)]
        by_cases h3 : o.getD (p.getD n 0).toNat false = true
        · simp only [if_pos h3]
          by_cases h4 : o.getD n false = true
          · simp only [if_pos h4]
            exact Ev_eq ih (bP_congr ⟨fun h => ⟨⟨h1, fun _ _ => h4⟩, h⟩, fun h => h.2⟩)
          · simp only [if_neg h4]
            rw [bP_neg (fun h => h4 (h.1.2 h2 h3))]
            exact Ev.now _
        · simp only [if_neg h3]
          exact Ev_eq ih (bP_congr ⟨fun h => ⟨⟨h1, fun _ h' => absurd h' h3⟩, h⟩, fun h => h.2⟩)
      · simp only [if_neg h2]
        exact Ev_eq ih (bP_congr ⟨fun h => ⟨⟨h1, fun h' => absurd h' (by omega)⟩, h⟩, fun h => h.2⟩)
    · simp only [bP_neg h1, if_neg (show ¬ (false = true) by decide)]
      rw [bP_neg (fun h => h1 h.1.1)]
      exact Ev.now _
theorem implTok_ev (p : List Int) (o : List Bool) : Ev (fun k => impl_TokensOk.f k p o) (bP (tokOk p o)) := by
  simp only [impl_TokensOk.f]
  by_cases h : (p.length : Int) = (o.length : Int)
  · refine Ev_ifpos h ?_
    refine Ev.step (fun _ => rfl) ?_
    simp only [impl_TokensOk.j0]
    by_cases h2 : (p.length : Int) > 24
    · refine Ev_ifpos (by simpa using h2) ?_
      rw [bP_neg (fun h3 => by have := h3.2.1; omega)]
      exact Ev.now _
    · refine Ev_ifneg (by simpa using h2) ?_
      exact Ev_eq (implTok_l p o (by omega) (by omega) p.length 0 (by omega)) (bP_congr ⟨fun h3 => ⟨by omega, by omega, h3⟩, fun h3 => h3.2.2⟩)
  · refine Ev_ifneg h ?_
    refine Ev.step (fun _ => rfl) ?_
    simp only [impl_TokensOk.j0, if_true]
    rw [bP_neg (fun h3 => by have := h3.1; omega)]
    exact Ev.now _
theorem toTokens_ev (p : List Int) (o : List Bool) (hp : p.length ≤ 35184372088832) (ho : o.length ≤ 35184372088832) : Ev (fun k => laws_toTokens.f k p o) (p, o) := by
  simp only [laws_toTokens.f]
  repeat (first
    | (dsimp only)
    | (with_reducible exact Ev.now _)
    | (with_reducible refine Ev.bind (toIntS_ev _ (by omega)) ?_)
    | (with_reducible refine Ev.bind (toBoolS_ev _ (by omega)) ?_)
    | (with_reducible refine Ev.bind (eqIntS_self _ (by omega)) ?_)
    | (with_reducible refine Ev.bind (eqBoolS_self _ (by omega)) ?_)
    | (with_reducible refine Ev.bind (markIntS_ev _ _ (by omega) (by omega) (by omega)) ?_)
    | (with_reducible refine Ev.bind (heldIntS_ev _ _ (by omega) (by omega) (by omega)) ?_)
    | (with_reducible refine Ev.bind (markBoolS_ev _ _ (by omega) (by omega) (by omega)) ?_)
    | (with_reducible refine Ev.bind (Contains_ev _ _ (by omega)) ?_)
    | (with_reducible refine Ev.bind (implPlaceOf_ev _ _ (by omega)) ?_)
    | (with_reducible refine Ev.bind (specPlaceOf_ev _ _ (by omega)) ?_)
    | (with_reducible refine Ev.bind (l2Has_ev _ _ (by omega)) ?_)
    | (with_reducible refine Ev.bind (specLineOk_ev _ (by omega)) ?_)
    | (with_reducible refine Ev.bind (implLineOk_ev _ (by omega)) ?_)
    | (with_reducible refine Ev.bind (specTok_ev _ _) ?_)
    | (with_reducible refine Ev.bind (implTok_ev _ _) ?_)
    | (with_reducible refine Ev_some (l1In_eq _ _ _) ?_)
    | (with_reducible refine Ev_some (within_eq _ _ _) ?_)
    | (with_reducible refine Ev_some (l2Client_eq _) ?_)
    | (with_reducible refine Ev_some (isClient_eq _) ?_)
    | (with_reducible refine Ev_some (l2Copy_eq _ (by omega)) ?_)
    | (with_reducible refine Ev_some (Clone_eq _ (by omega)) ?_)
    | (with_reducible refine Ev_some (CloneB_eq _ (by omega)) ?_)
    | (refine Ev_ifpos (by first | rfl | omega) ?_)
    | (refine Ev_ifneg (by first | omega | decide) ?_)
    | (refine Ev_ifneg (by simp only [bne_self_eq_false]; decide) ?_)
    | (refine Ev_ifpos (by simp) ?_)
    | (refine Ev_ifneg (by simp) ?_))
theorem eqTokens_self (p : List Int) (o : List Bool) (hp : p.length ≤ 9223372036854775807) (ho : o.length ≤ 9223372036854775807) : Ev (fun k => laws_eqTokens.f k p o p o) true := by
  simp only [laws_eqTokens.f]
  repeat (first
    | (dsimp only)
    | (with_reducible exact Ev.now _)
    | (with_reducible refine Ev.bind (toIntS_ev _ (by omega)) ?_)
    | (with_reducible refine Ev.bind (toBoolS_ev _ (by omega)) ?_)
    | (with_reducible refine Ev.bind (eqIntS_self _ (by omega)) ?_)
    | (with_reducible refine Ev.bind (eqBoolS_self _ (by omega)) ?_)
    | (with_reducible refine Ev.bind (markIntS_ev _ _ (by omega) (by omega) (by omega)) ?_)
    | (with_reducible refine Ev.bind (heldIntS_ev _ _ (by omega) (by omega) (by omega)) ?_)
    | (with_reducible refine Ev.bind (markBoolS_ev _ _ (by omega) (by omega) (by omega)) ?_)
    | (with_reducible refine Ev.bind (Contains_ev _ _ (by omega)) ?_)
    | (with_reducible refine Ev.bind (implPlaceOf_ev _ _ (by omega)) ?_)
    | (with_reducible refine Ev.bind (specPlaceOf_ev _ _ (by omega)) ?_)
    | (with_reducible refine Ev.bind (l2Has_ev _ _ (by omega)) ?_)
    | (with_reducible refine Ev.bind (specLineOk_ev _ (by omega)) ?_)
    | (with_reducible refine Ev.bind (implLineOk_ev _ (by omega)) ?_)
    | (with_reducible refine Ev.bind (specTok_ev _ _) ?_)
    | (with_reducible refine Ev.bind (implTok_ev _ _) ?_)
    | (with_reducible refine Ev.bind (toTokens_ev _ _ (by omega) (by omega)) ?_)
    | (with_reducible refine Ev_some (l1In_eq _ _ _) ?_)
    | (with_reducible refine Ev_some (within_eq _ _ _) ?_)
    | (with_reducible refine Ev_some (l2Client_eq _) ?_)
    | (with_reducible refine Ev_some (isClient_eq _) ?_)
    | (with_reducible refine Ev_some (l2Copy_eq _ (by omega)) ?_)
    | (with_reducible refine Ev_some (Clone_eq _ (by omega)) ?_)
    | (with_reducible refine Ev_some (CloneB_eq _ (by omega)) ?_)
    | (refine Ev_ifpos (by first | rfl | omega) ?_)
    | (refine Ev_ifneg (by first | omega | decide) ?_)
    | (refine Ev_ifneg (by simp only [bne_self_eq_false]; decide) ?_)
    | (refine Ev_ifpos (by simp) ?_)
    | (refine Ev_ifneg (by simp) ?_))
theorem markTokens_ev (p : List Int) (o : List Bool) (v : Int) (h0 : -9223372036854775808 ≤ v) (h1 : v + p.length + o.length ≤ 9223372036854775807) (hp : p.length ≤ 1048577) (ho : o.length ≤ 1048577) : Ev (fun k => laws_markTokens.f k p o v) (v + p.length + o.length, upFrom v p.length, upB (v + p.length) o.length) := by
  simp only [laws_markTokens.f]
  repeat (first
    | (dsimp only)
    | (with_reducible exact Ev.now _)
    | (with_reducible refine Ev.bind (toIntS_ev _ (by omega)) ?_)
    | (with_reducible refine Ev.bind (toBoolS_ev _ (by omega)) ?_)
    | (with_reducible refine Ev.bind (eqIntS_self _ (by omega)) ?_)
    | (with_reducible refine Ev.bind (eqBoolS_self _ (by omega)) ?_)
    | (with_reducible refine Ev.bind (markIntS_ev _ _ (by omega) (by omega) (by omega)) ?_)
    | (with_reducible refine Ev.bind (heldIntS_ev _ _ (by omega) (by omega) (by omega)) ?_)
    | (with_reducible refine Ev.bind (markBoolS_ev _ _ (by omega) (by omega) (by omega)) ?_)
    | (with_reducible refine Ev.bind (Contains_ev _ _ (by omega)) ?_)
    | (with_reducible refine Ev.bind (implPlaceOf_ev _ _ (by omega)) ?_)
    | (with_reducible refine Ev.bind (specPlaceOf_ev _ _ (by omega)) ?_)
    | (with_reducible refine Ev.bind (l2Has_ev _ _ (by omega)) ?_)
    | (with_reducible refine Ev.bind (specLineOk_ev _ (by omega)) ?_)
    | (with_reducible refine Ev.bind (implLineOk_ev _ (by omega)) ?_)
    | (with_reducible refine Ev.bind (specTok_ev _ _) ?_)
    | (with_reducible refine Ev.bind (implTok_ev _ _) ?_)
    | (with_reducible refine Ev.bind (toTokens_ev _ _ (by omega) (by omega)) ?_)
    | (with_reducible refine Ev.bind (eqTokens_self _ _ (by omega) (by omega)) ?_)
    | (with_reducible refine Ev_some (l1In_eq _ _ _) ?_)
    | (with_reducible refine Ev_some (within_eq _ _ _) ?_)
    | (with_reducible refine Ev_some (l2Client_eq _) ?_)
    | (with_reducible refine Ev_some (isClient_eq _) ?_)
    | (with_reducible refine Ev_some (l2Copy_eq _ (by omega)) ?_)
    | (with_reducible refine Ev_some (Clone_eq _ (by omega)) ?_)
    | (with_reducible refine Ev_some (CloneB_eq _ (by omega)) ?_)
    | (refine Ev_ifpos (by first | rfl | omega) ?_)
    | (refine Ev_ifneg (by first | omega | decide) ?_)
    | (refine Ev_ifneg (by simp only [bne_self_eq_false]; decide) ?_)
    | (refine Ev_ifpos (by simp) ?_)
    | (refine Ev_ifneg (by simp) ?_))
theorem heldBoolS_l (l : List Bool) (hl : l.length ≤ 9223372036854775807) : ∀ d n : Nat, n + d = l.length → ∀ (v : Int), -9223372036854775808 ≤ v → v + d ≤ 9223372036854775807 → l.drop n = upB v d → Ev (fun k => laws_heldBoolS.l0 k l v n) (v + d)
  | 0, n, hd, v, h0, h1, he => by
    refine Ev.step (fun _ => rfl) ?_
    simp only [laws_heldBoolS.l0, if_neg (show ¬ (n : Int) < (l.length : Int) by omega)]
    refine Ev_eq (Ev.now _) (by omega)
  | d + 1, n, hd, v, h0, h1, he => by
    rw [drop_cons false l n (by omega)] at he
    simp only [upB, List.cons.injEq] at he
    refine Ev.step (fun _ => rfl) ?_
    simp only [laws_heldBoolS.l0, if_pos (show (n : Int) < (l.length : Int) by omega), if_pos (show (0 : Int) ≤ (n : Int) by omega), w64n (show n < l.length by omega) hl, rdOf_nat, he.1, bne_self_eq_false, if_neg (show ¬ (false = true) by decide), w64 (show -9223372036854775808 ≤ v + 1 by omega) (show v + 1 ≤ 9223372036854775807 by omega)]
    exact Ev_eq (heldBoolS_l l hl d (n + 1) (by omega) (v + 1) (by omega) (by omega) he.2) (by omega)
theorem heldBoolS_ev (n : Nat) (v : Int) (h0 : -9223372036854775808 ≤ v) (h1 : v + n ≤ 9223372036854775807) (hl : n ≤ 9223372036854775807) : Ev (fun k => laws_heldBoolS.f k (upB v n) v) (v + n) := by
  simp only [laws_heldBoolS.f]
  exact heldBoolS_l (upB v n) (by rw [upB_length]; exact hl) n 0 (by rw [upB_length]; omega) v h0 h1 rfl
theorem heldTokens_ev (n m : Nat) (v : Int) (h0 : 0 ≤ v) (h1 : v + n + m ≤ 9223372036854775807) (hp : n ≤ 1048577) (ho : m ≤ 1048577) : Ev (fun k => laws_heldTokens.f k (upFrom v n) (upB (v + n) m) v) (v + n + m) := by
  simp only [laws_heldTokens.f]
  repeat (first
    | (dsimp only)
    | (with_reducible exact Ev.now _)
    | (with_reducible refine Ev.bind (toIntS_ev _ (by omega)) ?_)
    | (with_reducible refine Ev.bind (toBoolS_ev _ (by omega)) ?_)
    | (with_reducible refine Ev.bind (eqIntS_self _ (by omega)) ?_)
    | (with_reducible refine Ev.bind (eqBoolS_self _ (by omega)) ?_)
    | (with_reducible refine Ev.bind (markIntS_ev _ _ (by omega) (by omega) (by omega)) ?_)
    | (with_reducible refine Ev.bind (heldIntS_ev _ _ (by omega) (by omega) (by omega)) ?_)
    | (with_reducible refine Ev.bind (markBoolS_ev _ _ (by omega) (by omega) (by omega)) ?_)
    | (with_reducible refine Ev.bind (Contains_ev _ _ (by omega)) ?_)
    | (with_reducible refine Ev.bind (implPlaceOf_ev _ _ (by omega)) ?_)
    | (with_reducible refine Ev.bind (specPlaceOf_ev _ _ (by omega)) ?_)
    | (with_reducible refine Ev.bind (l2Has_ev _ _ (by omega)) ?_)
    | (with_reducible refine Ev.bind (specLineOk_ev _ (by omega)) ?_)
    | (with_reducible refine Ev.bind (implLineOk_ev _ (by omega)) ?_)
    | (with_reducible refine Ev.bind (specTok_ev _ _) ?_)
    | (with_reducible refine Ev.bind (implTok_ev _ _) ?_)
    | (with_reducible refine Ev.bind (toTokens_ev _ _ (by omega) (by omega)) ?_)
    | (with_reducible refine Ev.bind (eqTokens_self _ _ (by omega) (by omega)) ?_)
    | (with_reducible refine Ev.bind (markTokens_ev _ _ _ (by omega) (by omega) (by omega) (by omega)) ?_)
    | (with_reducible refine Ev.bind (heldBoolS_ev _ _ (by omega) (by omega) (by omega)) ?_)
    | (with_reducible refine Ev_some (l1In_eq _ _ _) ?_)
    | (with_reducible refine Ev_some (within_eq _ _ _) ?_)
    | (with_reducible refine Ev_some (l2Client_eq _) ?_)
    | (with_reducible refine Ev_some (isClient_eq _) ?_)
    | (with_reducible refine Ev_some (l2Copy_eq _ (by omega)) ?_)
    | (with_reducible refine Ev_some (Clone_eq _ (by omega)) ?_)
    | (with_reducible refine Ev_some (CloneB_eq _ (by omega)) ?_)
    | (refine Ev_ifpos (by first | rfl | omega) ?_)
    | (refine Ev_ifneg (by first | omega | decide) ?_)
    | (refine Ev_ifneg (by simp only [bne_self_eq_false]; decide) ?_)
    | (refine Ev_ifpos (by simp) ?_)
    | (refine Ev_ifneg (by simp) ?_))
theorem szTokens_cases (p : List Int) (o : List Bool) (hp : p.length ≤ 9223372036854775807) (ho : o.length ≤ 9223372036854775807) : ∃ v, laws_szTokens.f p o 1048576 = some v ∧ (v < 0 ∨ (0 ≤ v ∧ p.length + o.length ≤ 1048576)) := by
  simp only [laws_szTokens.f]
  by_cases h1 : (1048576 : Int) < p.length
  · exact ⟨-1, by rw [szIntS_neg p _ hp (by omega) (by omega) h1]; rfl, .inl (by omega)⟩
  · by_cases h2 : (1048576 : Int) - p.length < o.length
    · refine ⟨-1, ?_, .inl (by omega)⟩
      rw [szIntS_pos p _ (by omega) (by omega)]
      simp only [Option.bind_some, if_neg (show ¬ (1048576 : Int) - p.length < 0 by omega)]
      rw [szBoolS_neg o _ ho (by omega) (by omega) h2]
      rfl
    · refine ⟨1048576 - p.length - o.length, ?_, .inr ⟨by omega, by omega⟩⟩
      rw [szIntS_pos p _ (by omega) (by omega)]
      simp only [Option.bind_some, if_neg (show ¬ (1048576 : Int) - p.length < 0 by omega)]
      rw [szBoolS_pos o _ (by omega) (by omega)]
      simp only [Option.bind_some, if_neg (show ¬ (1048576 : Int) - p.length - o.length < 0 by omega)]
theorem specIsOff_ev (p : List Int) (o : List Bool) (a : Int) : Ev (fun k => spec_IsOff.f k p o a) (bP (tokOk p o ∧ 0 ≤ a ∧ o.getD a.toNat false = true ∧ a < p.length)) := by
  simp only [spec_IsOff.f]
  refine Ev.bind (specTok_ev p o) ?_
  by_cases h1 : tokOk p o
  · have he := h1.1
    have hl := h1.2.1
    simp only [bP_pos h1, if_true, l1In_eq, Option.bind_some, w64 (show -9223372036854775808 ≤ (p.length : Int) - 1 by omega) (show (p.length : Int) - 1 ≤ 9223372036854775807 by omega)]
    by_cases h2 : 0 ≤ a ∧ a ≤ (p.length : Int) - 1
    · simp only [bP_pos h2, if_true, if_pos h2.1, if_pos (show a < (o.length : Int) by omega)]
      refine Ev_eq (Ev.now _) ?_
      rw [rdOf_int]
      cases hb : o.getD a.toNat false
      · rw [bP_neg (by simp)]
      · rw [bP_pos ⟨h1, h2.1, rfl, by omega⟩]
    · simp only [bP_neg h2, if_neg (show ¬ (false = true) by decide)]
      rw [bP_neg (fun h => h2 ⟨h.2.1, by omega⟩)]
      exact Ev.now _
  · simp only [bP_neg h1, if_neg (show ¬ (false = true) by decide)]
    rw [bP_neg (fun h => h1 h.1)]
    exact Ev.now _
theorem isToken_eq (p : List Int) (o : List Bool) (a : Int) (hl : p.length ≤ 1048577) : impl_isToken.f p o a = some (bP (0 ≤ a ∧ a ≤ (p.length : Int) - 1)) := by
  simp only [impl_isToken.f, within_eq, Option.bind_some, w64 (show -9223372036854775808 ≤ (p.length : Int) - 1 by omega) (show (p.length : Int) - 1 ≤ 9223372036854775807 by omega)]
theorem implIsOff_ev (p : List Int) (o : List Bool) (a : Int) : Ev (fun k => impl_IsOff.f k p o a) (bP (tokOk p o ∧ 0 ≤ a ∧ o.getD a.toNat false = true ∧ a < p.length)) := by
  simp only [impl_IsOff.f]
  refine Ev.bind (implTok_ev p o) ?_
  by_cases h1 : tokOk p o
  · have he := h1.1
    have hl := h1.2.1
    simp only [bP_pos h1, if_true, isToken_eq p o a (by omega), Option.bind_some]
    by_cases h2 : 0 ≤ a ∧ a ≤ (p.length : Int) - 1
    · simp only [bP_pos h2, if_true, if_pos h2.1, if_pos (show a < (o.length : Int) by omega)]
      refine Ev_eq (Ev.now _) ?_
      rw [rdOf_int]
      cases hb : o.getD a.toNat false
      · rw [bP_neg (by simp)]
      · rw [bP_pos ⟨h1, h2.1, rfl, by omega⟩]
    · simp only [bP_neg h2, if_neg (show ¬ (false = true) by decide)]
      rw [bP_neg (fun h => h2 ⟨h.2.1, by omega⟩)]
      exact Ev.now _
  · simp only [bP_neg h1, if_neg (show ¬ (false = true) by decide)]
    rw [bP_neg (fun h => h1 h.1)]
    exact Ev.now _
def undFrom (p : List Int) (t : Int) : List Int → Nat → Nat → List Int
  | acc, _, 0 => acc
  | acc, n, d + 1 => undFrom p t (if (n : Int) = t ∨ p.getD n 0 ∈ acc then acc ++ [(n : Int)] else acc) (n + 1) d
theorem undFrom_len (p : List Int) (t : Int) : ∀ d n acc, (undFrom p t acc n d).length ≤ acc.length + d
  | 0, _, acc => by simp [undFrom]
  | d + 1, n, acc => by
    simp only [undFrom]
    have := undFrom_len p t d (n + 1) (if (n : Int) = t ∨ p.getD n 0 ∈ acc then acc ++ [(n : Int)] else acc)
    split at this <;> rename_i hc
    · rw [if_pos hc]; simp at this ⊢; omega
    · rw [if_neg hc]; omega
theorem undFrom_mem (p : List Int) (t : Int) : ∀ d n acc, (∀ x ∈ acc, 0 ≤ x ∧ x < ((n + d : Nat) : Int)) → ∀ x ∈ undFrom p t acc n d, 0 ≤ x ∧ x < ((n + d : Nat) : Int)
  | 0, n, acc, h => by simpa [undFrom] using h
  | d + 1, n, acc, h => by
    simp only [undFrom]
    have := undFrom_mem p t d (n + 1) (if (n : Int) = t ∨ p.getD n 0 ∈ acc then acc ++ [(n : Int)] else acc) ?_
    · intro x hx
      have := this x hx
      omega
    · intro x hx
      split at hx
      · rcases List.mem_append.1 hx with hx | hx
        · have := h x hx; omega
        · simp at hx; omega
      · have := h x hx; omega
theorem undFrom_skip (p : List Int) (t : Int) : ∀ d n m, n + d = m → (∀ i : Nat, n ≤ i → i < m → (i : Int) ≠ t) → ∀ e, undFrom p t [] n (d + e) = undFrom p t [] m e
  | 0, n, m, h, _, e => by
    obtain rfl : n = m := by omega
    simp
  | d + 1, n, m, h, hi, e => by
    rw [show d + 1 + e = (d + e) + 1 by omega]
    simp only [undFrom]
    rw [if_neg (by simp; exact hi n (Nat.le_refl _) (by omega))]
    exact undFrom_skip p t d (n + 1) m (by omega) (fun i h1 h2 => hi i (by omega) h2) e
theorem specUnder_l (p : List Int) (o : List Bool) (t : Int) (hl : p.length ≤ 1048576) : ∀ d n : Nat, n + d = p.length → ∀ acc : List Int, acc.length ≤ n → Ev (fun k => spec_Under.l0 k t acc n p o) (undFrom p t acc n d)
  | 0, n, hn, acc, ha => by
    refine Ev.step (fun _ => rfl) ?_
    simp only [spec_Under.l0, if_neg (show ¬ (n : Int) < (p.length : Int) by omega), undFrom]
    exact Ev.now _
  | d + 1, n, hn, acc, ha => by
    refine Ev.step (fun _ => rfl) ?_
    simp only [spec_Under.l0, if_pos (show (n : Int) < (p.length : Int) by omega), if_pos (show (0 : Int) ≤ (n : Int) by omega), w64n (show n < p.length by omega) (by omega), rd_nat, undFrom, if_pos (show acc.length < 17592186044416 by omega)]
    by_cases h1 : (n : Int) = t
    · simp only [if_pos h1, if_pos (show (n : Int) = t ∨ p.getD n 0 ∈ acc from .inl h1)]
      exact specUnder_l p o t hl d (n + 1) (by omega) _ (by simp; omega)
    · simp only [if_neg h1]
      refine Ev.bind (l2Has_ev acc (p.getD n 0) (by omega)) ?_
      by_cases h2 : p.getD n 0 ∈ acc
      · simp only [bP_pos h2, if_true, if_pos (show (n : Int) = t ∨ p.getD n 0 ∈ acc from .inr h2)]
        exact specUnder_l p o t hl d (n + 1) (by omega) _ (by simp; omega)
      · simp only [bP_neg h2, if_neg (show ¬ (false = true) by decide), if_neg (show ¬ ((n : Int) = t ∨ p.getD n 0 ∈ acc) from fun h => h.elim h1 h2)]
        exact specUnder_l p o t hl d (n + 1) (by omega) _ (by omega)
theorem implUnder_l (p : List Int) (t : Int) (hl : p.length ≤ 1048576) : ∀ d n : Nat, n + d = p.length → ∀ acc : List Int, acc.length ≤ n → Ev (fun k => impl_under.l0 k t acc p (p.length : Int) n) (undFrom p t acc n d)
  | 0, n, hn, acc, ha => by
    refine Ev.step (fun _ => rfl) ?_
    simp only [impl_under.l0, if_neg (show ¬ (n : Int) < (p.length : Int) by omega), undFrom]
    exact Ev.now _
  | d + 1, n, hn, acc, ha => by
    refine Ev.step (fun _ => rfl) ?_
    simp only [impl_under.l0, if_pos (show (n : Int) < (p.length : Int) by omega), if_pos (show (0 : Int) ≤ (n : Int) by omega), w64n (show n < p.length by omega) (by omega), rd_nat, undFrom, if_pos (show acc.length < 17592186044416 by omega)]
    by_cases h1 : (n : Int) = t
    · simp only [if_pos h1, if_pos (show (n : Int) = t ∨ p.getD n 0 ∈ acc from .inl h1)]
      exact implUnder_l p t hl d (n + 1) (by omega) _ (by simp; omega)
    · simp only [if_neg h1]
      refine Ev.bind (Contains_ev acc (p.getD n 0) (by omega)) ?_
      by_cases h2 : p.getD n 0 ∈ acc
      · simp only [bP_pos h2, if_true, if_pos (show (n : Int) = t ∨ p.getD n 0 ∈ acc from .inr h2)]
        exact implUnder_l p t hl d (n + 1) (by omega) _ (by simp; omega)
      · simp only [bP_neg h2, if_neg (show ¬ (false = true) by decide), if_neg (show ¬ ((n : Int) = t ∨ p.getD n 0 ∈ acc) from fun h => h.elim h1 h2)]
        exact implUnder_l p t hl d (n + 1) (by omega) _ (by omega)
def undR (p : List Int) (t : Int) : List Int := undFrom p t [] 0 p.length
theorem undR_len (p : List Int) (t : Int) : (undR p t).length ≤ p.length := by
  have := undFrom_len p t p.length 0 []
  simpa [undR] using this
theorem undR_mem (p : List Int) (t : Int) : ∀ x ∈ undR p t, 0 ≤ x ∧ x < (p.length : Int) := by
  have := undFrom_mem p t p.length 0 [] (by simp)
  simpa [undR] using this
theorem implunder_ev (p : List Int) (o : List Bool) (t : Int) (hl : p.length ≤ 1048576) : Ev (fun k => impl_under.f k p o t) (undR p t) := by
  simp only [impl_under.f]
  exact implUnder_l p t hl p.length 0 (by omega) [] (by simp)
theorem specUnder_ev (p : List Int) (o : List Bool) (t : Int) (h1 : tokOk p o) (h2 : 0 ≤ t ∧ t ≤ (p.length : Int) - 1) : Ev (fun k => spec_Under.f k p o t) (undR p t) := by
  have hl := h1.2.1
  simp only [spec_Under.f, Option.bind_some]
  refine Ev.bind (specTok_ev p o) ?_
  simp only [bP_pos h1, if_true, l1In_eq, Option.bind_some, w64 (show -9223372036854775808 ≤ (p.length : Int) - 1 by omega) (show (p.length : Int) - 1 ≤ 9223372036854775807 by omega), bP_pos h2, Bool.not_true]
  refine Ev.step (fun _ => rfl) ?_
  simp only [spec_Under.j0, if_neg (show ¬ (false = true) by decide)]
  obtain ⟨m, rfl⟩ : ∃ m : Nat, t = (m : Int) := ⟨t.toNat, by omega⟩
  refine Ev_eq (specUnder_l p o m (by omega) (p.length - m) m (by omega) [] (by simp)) ?_
  have := undFrom_skip p m m 0 m (by omega) (fun i _ hi => by omega) (p.length - m)
  rw [← this, undR]
  congr 1
  omega
theorem both_Under (p : List Int) (o : List Bool) (t : Int) (hp : p.length ≤ 1048576) : ∃ r : List Int, Ev (fun k => spec_Under.f k p o t) r ∧ Ev (fun k => impl_Under.f k p o t) r ∧ r.length ≤ 1048576 := by
  by_cases h1 : tokOk p o
  · have hl := h1.2.1
    by_cases h2 : 0 ≤ t ∧ t ≤ (p.length : Int) - 1
    · refine ⟨undR p t, specUnder_ev p o t h1 h2, ?_, Nat.le_trans (undR_len p t) hp⟩
      simp only [impl_Under.f]
      refine Ev.bind (implTok_ev p o) ?_
      simp only [bP_pos h1, if_true, isToken_eq p o t (by omega), Option.bind_some, bP_pos h2]
      exact Ev.bind (implunder_ev p o t (by omega)) (Ev.now _)
    · refine ⟨[], ?_, ?_, by simp⟩
      · simp only [spec_Under.f, Option.bind_some]
        refine Ev.bind (specTok_ev p o) ?_
        simp only [bP_pos h1, if_true, l1In_eq, Option.bind_some, w64 (show -9223372036854775808 ≤ (p.length : Int) - 1 by omega) (show (p.length : Int) - 1 ≤ 9223372036854775807 by omega), bP_neg h2, Bool.not_false]
        refine Ev.step (fun _ => rfl) ?_
        simp only [spec_Under.j0, if_true]
        exact Ev.now _
      · simp only [impl_Under.f]
        refine Ev.bind (implTok_ev p o) ?_
        simp only [bP_pos h1, if_true, isToken_eq p o t (by omega), Option.bind_some, bP_neg h2, if_neg (show ¬ (false = true) by decide)]
        exact Ev.now _
  · refine ⟨[], ?_, ?_, by simp⟩
    · simp only [spec_Under.f, Option.bind_some]
      refine Ev.bind (specTok_ev p o) ?_
      simp only [bP_neg h1, if_neg (show ¬ (false = true) by decide)]
      refine Ev.step (fun _ => rfl) ?_
      simp only [spec_Under.j0, if_true]
      exact Ev.now _
    · simp only [impl_Under.f]
      refine Ev.bind (implTok_ev p o) ?_
      simp only [bP_neg h1, if_neg (show ¬ (false = true) by decide)]
      exact Ev.now _
theorem l3Copy_eq (p : List Int) (o : List Bool) (hp : p.length < 17592186044416) (ho : o.length < 140737488355328) : spec_l3Copy.f p o = some (p, o) := by
  simp only [spec_l3Copy.f, l2Copy_eq p hp, Option.bind_some, List.length_nil, Nat.zero_add, if_pos ho, List.nil_append]
theorem copyTokens_eq (p : List Int) (o : List Bool) (hp : p.length < 17592186044416) (ho : o.length < 140737488355328) : impl_copyTokens.f p o = some (p, o) := by
  simp only [impl_copyTokens.f, Clone_eq p hp, CloneB_eq o ho, Option.bind_some]
theorem both_NewToken (p : List Int) (o : List Bool) (a : Int) (hp : p.length ≤ 1048576) (ho : o.length ≤ 1048576) : ∃ r : List Int × List Bool × Int × Int, Ev (fun k => spec_NewToken.f k p o a) r ∧ Ev (fun k => impl_NewToken.f k p o a) r ∧ r.1.length ≤ 1048577 ∧ r.2.1.length ≤ 1048577 ∧
    (r = (p, o, -1, 1) ∨ (tokOk p o ∧ -1 ≤ a ∧ a < p.length ∧ ((p.length = 24 ∧ r = (p, o, -1, 2)) ∨ (p.length < 24 ∧ r = (p ++ [a], o ++ [if a ≥ 0 then o.getD a.toNat false else false], (p.length : Int), 0))))) := by
  by_cases h1 : tokOk p o
  · have he := h1.1
    have hl := h1.2.1
    by_cases h2 : -1 ≤ a ∧ a ≤ (p.length : Int) - 1
    · by_cases h3 : p.length = 24
      · refine ⟨(p, o, -1, 2), ?_, ?_, by show p.length ≤ _; omega, by show o.length ≤ _; omega, .inr ⟨h1, by omega, by omega, .inl ⟨h3, rfl⟩⟩⟩
        · simp only [spec_NewToken.f, w64 (show -9223372036854775808 ≤ (p.length : Int) - 1 by omega) (show (p.length : Int) - 1 ≤ 9223372036854775807 by omega)]
          repeat (first
            | (dsimp only)
            | (with_reducible exact Ev.now _)
            | (simp only [bP_pos h1, bP_pos h2, if_true, Bool.not_true, Bool.not_false])
            | (with_reducible refine Ev.bind (toIntS_ev _ (by omega)) ?_)
            | (with_reducible refine Ev.bind (toBoolS_ev _ (by omega)) ?_)
            | (with_reducible refine Ev.bind (eqIntS_self _ (by omega)) ?_)
            | (with_reducible refine Ev.bind (eqBoolS_self _ (by omega)) ?_)
            | (with_reducible refine Ev.bind (markIntS_ev _ _ (by omega) (by omega) (by omega)) ?_)
            | (with_reducible refine Ev.bind (heldIntS_ev _ _ (by omega) (by omega) (by omega)) ?_)
            | (with_reducible refine Ev.bind (markBoolS_ev _ _ (by omega) (by omega) (by omega)) ?_)
            | (with_reducible refine Ev.bind (Contains_ev _ _ (by omega)) ?_)
            | (with_reducible refine Ev.bind (implPlaceOf_ev _ _ (by omega)) ?_)
            | (with_reducible refine Ev.bind (specPlaceOf_ev _ _ (by omega)) ?_)
            | (with_reducible refine Ev.bind (l2Has_ev _ _ (by omega)) ?_)
            | (with_reducible refine Ev.bind (specLineOk_ev _ (by omega)) ?_)
            | (with_reducible refine Ev.bind (implLineOk_ev _ (by omega)) ?_)
            | (with_reducible refine Ev.bind (specTok_ev _ _) ?_)
            | (with_reducible refine Ev.bind (implTok_ev _ _) ?_)
            | (with_reducible refine Ev.bind (toTokens_ev _ _ (by omega) (by omega)) ?_)
            | (with_reducible refine Ev.bind (eqTokens_self _ _ (by omega) (by omega)) ?_)
            | (with_reducible refine Ev.bind (markTokens_ev _ _ _ (by omega) (by omega) (by omega) (by omega)) ?_)
            | (with_reducible refine Ev.bind (heldBoolS_ev _ _ (by omega) (by omega) (by omega)) ?_)
            | (with_reducible refine Ev.bind (heldTokens_ev _ _ _ (by omega) (by omega) (by omega) (by omega)) ?_)
            | (with_reducible refine Ev.bind (specIsOff_ev _ _ _) ?_)
            | (with_reducible refine Ev.bind (implIsOff_ev _ _ _) ?_)
            | (with_reducible refine Ev_some (l1In_eq _ _ _) ?_)
            | (with_reducible refine Ev_some (within_eq _ _ _) ?_)
            | (with_reducible refine Ev_some (l2Client_eq _) ?_)
            | (with_reducible refine Ev_some (isClient_eq _) ?_)
            | (with_reducible refine Ev_some (l2Copy_eq _ (by omega)) ?_)
            | (with_reducible refine Ev_some (Clone_eq _ (by omega)) ?_)
            | (with_reducible refine Ev_some (CloneB_eq _ (by omega)) ?_)
            | (with_reducible refine Ev_some (isToken_eq _ _ _ (by omega)) ?_)
            | (with_reducible refine Ev_some (l3Copy_eq _ _ (by omega) (by omega)) ?_)
            | (with_reducible refine Ev_some (copyTokens_eq _ _ (by omega) (by omega)) ?_)
            | (refine Ev_ifpos (by first | rfl | omega) ?_)
            | (refine Ev_ifneg (by first | omega | decide) ?_)
            | (refine Ev_ifneg (by simp only [bne_self_eq_false]; decide) ?_)
            | (refine Ev_ifpos (by simp) ?_)
            | (refine Ev_ifneg (by simp) ?_)
            | (refine Ev.step (fun _ => rfl) ?_; simp only [spec_NewToken.j0])
            | (refine Ev.step (fun _ => rfl) ?_; simp only [impl_NewToken.j0]))
        · simp only [impl_NewToken.f]
          by_cases h4 : a = -1
          · skip
            repeat (first
              | (dsimp only)
              | (with_reducible exact Ev.now _)
              | (simp only [bP_pos h1, if_true, Bool.not_true, Bool.not_false])
              | (with_reducible refine Ev.bind (toIntS_ev _ (by omega)) ?_)
              | (with_reducible refine Ev.bind (toBoolS_ev _ (by omega)) ?_)
              | (with_reducible refine Ev.bind (eqIntS_self _ (by omega)) ?_)
              | (with_reducible refine Ev.bind (eqBoolS_self _ (by omega)) ?_)
              | (with_reducible refine Ev.bind (markIntS_ev _ _ (by omega) (by omega) (by omega)) ?_)
              | (with_reducible refine Ev.bind (heldIntS_ev _ _ (by omega) (by omega) (by omega)) ?_)
              | (with_reducible refine Ev.bind (markBoolS_ev _ _ (by omega) (by omega) (by omega)) ?_)
              | (with_reducible refine Ev.bind (Contains_ev _ _ (by omega)) ?_)
              | (with_reducible refine Ev.bind (implPlaceOf_ev _ _ (by omega)) ?_)
              | (with_reducible refine Ev.bind (specPlaceOf_ev _ _ (by omega)) ?_)
              | (with_reducible refine Ev.bind (l2Has_ev _ _ (by omega)) ?_)
              | (with_reducible refine Ev.bind (specLineOk_ev _ (by omega)) ?_)
              | (with_reducible refine Ev.bind (implLineOk_ev _ (by omega)) ?_)
              | (with_reducible refine Ev.bind (specTok_ev _ _) ?_)
              | (with_reducible refine Ev.bind (implTok_ev _ _) ?_)
              | (with_reducible refine Ev.bind (toTokens_ev _ _ (by omega) (by omega)) ?_)
              | (with_reducible refine Ev.bind (eqTokens_self _ _ (by omega) (by omega)) ?_)
              | (with_reducible refine Ev.bind (markTokens_ev _ _ _ (by omega) (by omega) (by omega) (by omega)) ?_)
              | (with_reducible refine Ev.bind (heldBoolS_ev _ _ (by omega) (by omega) (by omega)) ?_)
              | (with_reducible refine Ev.bind (heldTokens_ev _ _ _ (by omega) (by omega) (by omega) (by omega)) ?_)
              | (with_reducible refine Ev.bind (specIsOff_ev _ _ _) ?_)
              | (with_reducible refine Ev.bind (implIsOff_ev _ _ _) ?_)
              | (with_reducible refine Ev_some (l1In_eq _ _ _) ?_)
              | (with_reducible refine Ev_some (within_eq _ _ _) ?_)
              | (with_reducible refine Ev_some (l2Client_eq _) ?_)
              | (with_reducible refine Ev_some (isClient_eq _) ?_)
              | (with_reducible refine Ev_some (l2Copy_eq _ (by omega)) ?_)
              | (with_reducible refine Ev_some (Clone_eq _ (by omega)) ?_)
              | (with_reducible refine Ev_some (CloneB_eq _ (by omega)) ?_)
              | (with_reducible refine Ev_some (isToken_eq _ _ _ (by omega)) ?_)
              | (with_reducible refine Ev_some (l3Copy_eq _ _ (by omega) (by omega)) ?_)
              | (with_reducible refine Ev_some (copyTokens_eq _ _ (by omega) (by omega)) ?_)
              | (refine Ev_ifpos (by first | rfl | omega) ?_)
              | (refine Ev_ifneg (by first | omega | decide) ?_)
              | (refine Ev_ifneg (by simp only [bne_self_eq_false]; decide) ?_)
              | (refine Ev_ifpos (by simp) ?_)
              | (refine Ev_ifneg (by simp) ?_)
              | (refine Ev.step (fun _ => rfl) ?_; simp only [spec_NewToken.j0])
              | (refine Ev.step (fun _ => rfl) ?_; simp only [impl_NewToken.j0]))
          · have h5 : 0 ≤ a ∧ a ≤ (p.length : Int) - 1 := by omega
            repeat (first
              | (dsimp only)
              | (with_reducible exact Ev.now _)
              | (simp only [bP_pos h1, bP_pos h5, if_true, Bool.not_true, Bool.not_false])
              | (with_reducible refine Ev.bind (toIntS_ev _ (by omega)) ?_)
              | (with_reducible refine Ev.bind (toBoolS_ev _ (by omega)) ?_)
              | (with_reducible refine Ev.bind (eqIntS_self _ (by omega)) ?_)
              | (with_reducible refine Ev.bind (eqBoolS_self _ (by omega)) ?_)
              | (with_reducible refine Ev.bind (markIntS_ev _ _ (by omega) (by omega) (by omega)) ?_)
              | (with_reducible refine Ev.bind (heldIntS_ev _ _ (by omega) (by omega) (by omega)) ?_)
              | (with_reducible refine Ev.bind (markBoolS_ev _ _ (by omega) (by omega) (by omega)) ?_)
              | (with_reducible refine Ev.bind (Contains_ev _ _ (by omega)) ?_)
              | (with_reducible refine Ev.bind (implPlaceOf_ev _ _ (by omega)) ?_)
              | (with_reducible refine Ev.bind (specPlaceOf_ev _ _ (by omega)) ?_)
              | (with_reducible refine Ev.bind (l2Has_ev _ _ (by omega)) ?_)
              | (with_reducible refine Ev.bind (specLineOk_ev _ (by omega)) ?_)
              | (with_reducible refine Ev.bind (implLineOk_ev _ (by omega)) ?_)
              | (with_reducible refine Ev.bind (specTok_ev _ _) ?_)
              | (with_reducible refine Ev.bind (implTok_ev _ _) ?_)
              | (with_reducible refine Ev.bind (toTokens_ev _ _ (by omega) (by omega)) ?_)
              | (with_reducible refine Ev.bind (eqTokens_self _ _ (by omega) (by omega)) ?_)
              | (with_reducible refine Ev.bind (markTokens_ev _ _ _ (by omega) (by omega) (by omega) (by omega)) ?_)
              | (with_reducible refine Ev.bind (heldBoolS_ev _ _ (by omega) (by omega) (by omega)) ?_)
              | (with_reducible refine Ev.bind (heldTokens_ev _ _ _ (by omega) (by omega) (by omega) (by omega)) ?_)
              | (with_reducible refine Ev.bind (specIsOff_ev _ _ _) ?_)
              | (with_reducible refine Ev.bind (implIsOff_ev _ _ _) ?_)
              | (with_reducible refine Ev_some (l1In_eq _ _ _) ?_)
              | (with_reducible refine Ev_some (within_eq _ _ _) ?_)
              | (with_reducible refine Ev_some (l2Client_eq _) ?_)
              | (with_reducible refine Ev_some (isClient_eq _) ?_)
              | (with_reducible refine Ev_some (l2Copy_eq _ (by omega)) ?_)
              | (with_reducible refine Ev_some (Clone_eq _ (by omega)) ?_)
              | (with_reducible refine Ev_some (CloneB_eq _ (by omega)) ?_)
              | (with_reducible refine Ev_some (isToken_eq _ _ _ (by omega)) ?_)
              | (with_reducible refine Ev_some (l3Copy_eq _ _ (by omega) (by omega)) ?_)
              | (with_reducible refine Ev_some (copyTokens_eq _ _ (by omega) (by omega)) ?_)
              | (refine Ev_ifpos (by first | rfl | omega) ?_)
              | (refine Ev_ifneg (by first | omega | decide) ?_)
              | (refine Ev_ifneg (by simp only [bne_self_eq_false]; decide) ?_)
              | (refine Ev_ifpos (by simp) ?_)
              | (refine Ev_ifneg (by simp) ?_)
              | (refine Ev.step (fun _ => rfl) ?_; simp only [spec_NewToken.j0])
              | (refine Ev.step (fun _ => rfl) ?_; simp only [impl_NewToken.j0]))
      · refine ⟨(p ++ [a], o ++ [if a ≥ 0 then o.getD a.toNat false else false], (p.length : Int), 0), ?_, ?_, by simp; omega, by simp; omega, .inr ⟨h1, by omega, by omega, .inr ⟨by omega, rfl⟩⟩⟩
        · simp only [spec_NewToken.f, w64 (show -9223372036854775808 ≤ (p.length : Int) - 1 by omega) (show (p.length : Int) - 1 ≤ 9223372036854775807 by omega)]
          by_cases h4 : a ≥ 0
          · rw [if_pos h4, ← rdOf_int]
            repeat (first
              | (dsimp only)
              | (with_reducible exact Ev.now _)
              | (simp only [bP_pos h1, bP_pos h2, if_true, Bool.not_true, Bool.not_false])
              | (with_reducible refine Ev.bind (toIntS_ev _ (by omega)) ?_)
              | (with_reducible refine Ev.bind (toBoolS_ev _ (by omega)) ?_)
              | (with_reducible refine Ev.bind (eqIntS_self _ (by omega)) ?_)
              | (with_reducible refine Ev.bind (eqBoolS_self _ (by omega)) ?_)
              | (with_reducible refine Ev.bind (markIntS_ev _ _ (by omega) (by omega) (by omega)) ?_)
              | (with_reducible refine Ev.bind (heldIntS_ev _ _ (by omega) (by omega) (by omega)) ?_)
              | (with_reducible refine Ev.bind (markBoolS_ev _ _ (by omega) (by omega) (by omega)) ?_)
              | (with_reducible refine Ev.bind (Contains_ev _ _ (by omega)) ?_)
              | (with_reducible refine Ev.bind (implPlaceOf_ev _ _ (by omega)) ?_)
              | (with_reducible refine Ev.bind (specPlaceOf_ev _ _ (by omega)) ?_)
              | (with_reducible refine Ev.bind (l2Has_ev _ _ (by omega)) ?_)
              | (with_reducible refine Ev.bind (specLineOk_ev _ (by omega)) ?_)
              | (with_reducible refine Ev.bind (implLineOk_ev _ (by omega)) ?_)
              | (with_reducible refine Ev.bind (specTok_ev _ _) ?_)
              | (with_reducible refine Ev.bind (implTok_ev _ _) ?_)
              | (with_reducible refine Ev.bind (toTokens_ev _ _ (by omega) (by omega)) ?_)
              | (with_reducible refine Ev.bind (eqTokens_self _ _ (by omega) (by omega)) ?_)
              | (with_reducible refine Ev.bind (markTokens_ev _ _ _ (by omega) (by omega) (by omega) (by omega)) ?_)
              | (with_reducible refine Ev.bind (heldBoolS_ev _ _ (by omega) (by omega) (by omega)) ?_)
              | (with_reducible refine Ev.bind (heldTokens_ev _ _ _ (by omega) (by omega) (by omega) (by omega)) ?_)
              | (with_reducible refine Ev.bind (specIsOff_ev _ _ _) ?_)
              | (with_reducible refine Ev.bind (implIsOff_ev _ _ _) ?_)
              | (with_reducible refine Ev_some (l1In_eq _ _ _) ?_)
              | (with_reducible refine Ev_some (within_eq _ _ _) ?_)
              | (with_reducible refine Ev_some (l2Client_eq _) ?_)
              | (with_reducible refine Ev_some (isClient_eq _) ?_)
              | (with_reducible refine Ev_some (l2Copy_eq _ (by omega)) ?_)
              | (with_reducible refine Ev_some (Clone_eq _ (by omega)) ?_)
              | (with_reducible refine Ev_some (CloneB_eq _ (by omega)) ?_)
              | (with_reducible refine Ev_some (isToken_eq _ _ _ (by omega)) ?_)
              | (with_reducible refine Ev_some (l3Copy_eq _ _ (by omega) (by omega)) ?_)
              | (with_reducible refine Ev_some (copyTokens_eq _ _ (by omega) (by omega)) ?_)
              | (refine Ev_ifpos (by first | rfl | omega) ?_)
              | (refine Ev_ifneg (by first | omega | decide) ?_)
              | (refine Ev_ifneg (by simp only [bne_self_eq_false]; decide) ?_)
              | (refine Ev_ifpos (by simp) ?_)
              | (refine Ev_ifneg (by simp) ?_)
              | (refine Ev.step (fun _ => rfl) ?_; simp only [spec_NewToken.j0])
              | (refine Ev.step (fun _ => rfl) ?_; simp only [impl_NewToken.j0]))
          · rw [if_neg h4]
            repeat (first
              | (dsimp only)
              | (with_reducible exact Ev.now _)
              | (simp only [bP_pos h1, bP_pos h2, if_true, Bool.not_true, Bool.not_false])
              | (with_reducible refine Ev.bind (toIntS_ev _ (by omega)) ?_)
              | (with_reducible refine Ev.bind (toBoolS_ev _ (by omega)) ?_)
              | (with_reducible refine Ev.bind (eqIntS_self _ (by omega)) ?_)
              | (with_reducible refine Ev.bind (eqBoolS_self _ (by omega)) ?_)
              | (with_reducible refine Ev.bind (markIntS_ev _ _ (by omega) (by omega) (by omega)) ?_)
              | (with_reducible refine Ev.bind (heldIntS_ev _ _ (by omega) (by omega) (by omega)) ?_)
              | (with_reducible refine Ev.bind (markBoolS_ev _ _ (by omega) (by omega) (by omega)) ?_)
              | (with_reducible refine Ev.bind (Contains_ev _ _ (by omega)) ?_)
              | (with_reducible refine Ev.bind (implPlaceOf_ev _ _ (by omega)) ?_)
              | (with_reducible refine Ev.bind (specPlaceOf_ev _ _ (by omega)) ?_)
              | (with_reducible refine Ev.bind (l2Has_ev _ _ (by omega)) ?_)
              | (with_reducible refine Ev.bind (specLineOk_ev _ (by omega)) ?_)
              | (with_reducible refine Ev.bind (implLineOk_ev _ (by omega)) ?_)
              | (with_reducible refine Ev.bind (specTok_ev _ _) ?_)
              | (with_reducible refine Ev.bind (implTok_ev _ _) ?_)
              | (with_reducible refine Ev.bind (toTokens_ev _ _ (by omega) (by omega)) ?_)
              | (with_reducible refine Ev.bind (eqTokens_self _ _ (by omega) (by omega)) ?_)
              | (with_reducible refine Ev.bind (markTokens_ev _ _ _ (by omega) (by omega) (by omega) (by omega)) ?_)
              | (with_reducible refine Ev.bind (heldBoolS_ev _ _ (by omega) (by omega) (by omega)) ?_)
              | (with_reducible refine Ev.bind (heldTokens_ev _ _ _ (by omega) (by omega) (by omega) (by omega)) ?_)
              | (with_reducible refine Ev.bind (specIsOff_ev _ _ _) ?_)
              | (with_reducible refine Ev.bind (implIsOff_ev _ _ _) ?_)
              | (with_reducible refine Ev_some (l1In_eq _ _ _) ?_)
              | (with_reducible refine Ev_some (within_eq _ _ _) ?_)
              | (with_reducible refine Ev_some (l2Client_eq _) ?_)
              | (with_reducible refine Ev_some (isClient_eq _) ?_)
              | (with_reducible refine Ev_some (l2Copy_eq _ (by omega)) ?_)
              | (with_reducible refine Ev_some (Clone_eq _ (by omega)) ?_)
              | (with_reducible refine Ev_some (CloneB_eq _ (by omega)) ?_)
              | (with_reducible refine Ev_some (isToken_eq _ _ _ (by omega)) ?_)
              | (with_reducible refine Ev_some (l3Copy_eq _ _ (by omega) (by omega)) ?_)
              | (with_reducible refine Ev_some (copyTokens_eq _ _ (by omega) (by omega)) ?_)
              | (refine Ev_ifpos (by first | rfl | omega) ?_)
              | (refine Ev_ifneg (by first | omega | decide) ?_)
              | (refine Ev_ifneg (by simp only [bne_self_eq_false]; decide) ?_)
              | (refine Ev_ifpos (by simp) ?_)
              | (refine Ev_ifneg (by simp) ?_)
              | (refine Ev.step (fun _ => rfl) ?_; simp only [spec_NewToken.j0])
              | (refine Ev.step (fun _ => rfl) ?_; simp only [impl_NewToken.j0]))
        · simp only [impl_NewToken.f]
          by_cases h4 : a = -1
          · rw [if_neg (show ¬ a ≥ 0 by omega)]
            repeat (first
              | (dsimp only)
              | (with_reducible exact Ev.now _)
              | (simp only [bP_pos h1, if_true, Bool.not_true, Bool.not_false])
              | (with_reducible refine Ev.bind (toIntS_ev _ (by omega)) ?_)
              | (with_reducible refine Ev.bind (toBoolS_ev _ (by omega)) ?_)
              | (with_reducible refine Ev.bind (eqIntS_self _ (by omega)) ?_)
              | (with_reducible refine Ev.bind (eqBoolS_self _ (by omega)) ?_)
              | (with_reducible refine Ev.bind (markIntS_ev _ _ (by omega) (by omega) (by omega)) ?_)
              | (with_reducible refine Ev.bind (heldIntS_ev _ _ (by omega) (by omega) (by omega)) ?_)
              | (with_reducible refine Ev.bind (markBoolS_ev _ _ (by omega) (by omega) (by omega)) ?_)
              | (with_reducible refine Ev.bind (Contains_ev _ _ (by omega)) ?_)
              | (with_reducible refine Ev.bind (implPlaceOf_ev _ _ (by omega)) ?_)
              | (with_reducible refine Ev.bind (specPlaceOf_ev _ _ (by omega)) ?_)
              | (with_reducible refine Ev.bind (l2Has_ev _ _ (by omega)) ?_)
              | (with_reducible refine Ev.bind (specLineOk_ev _ (by omega)) ?_)
              | (with_reducible refine Ev.bind (implLineOk_ev _ (by omega)) ?_)
              | (with_reducible refine Ev.bind (specTok_ev _ _) ?_)
              | (with_reducible refine Ev.bind (implTok_ev _ _) ?_)
              | (with_reducible refine Ev.bind (toTokens_ev _ _ (by omega) (by omega)) ?_)
              | (with_reducible refine Ev.bind (eqTokens_self _ _ (by omega) (by omega)) ?_)
              | (with_reducible refine Ev.bind (markTokens_ev _ _ _ (by omega) (by omega) (by omega) (by omega)) ?_)
              | (with_reducible refine Ev.bind (heldBoolS_ev _ _ (by omega) (by omega) (by omega)) ?_)
              | (with_reducible refine Ev.bind (heldTokens_ev _ _ _ (by omega) (by omega) (by omega) (by omega)) ?_)
              | (with_reducible refine Ev.bind (specIsOff_ev _ _ _) ?_)
              | (with_reducible refine Ev.bind (implIsOff_ev _ _ _) ?_)
              | (with_reducible refine Ev_some (l1In_eq _ _ _) ?_)
              | (with_reducible refine Ev_some (within_eq _ _ _) ?_)
              | (with_reducible refine Ev_some (l2Client_eq _) ?_)
              | (with_reducible refine Ev_some (isClient_eq _) ?_)
              | (with_reducible refine Ev_some (l2Copy_eq _ (by omega)) ?_)
              | (with_reducible refine Ev_some (Clone_eq _ (by omega)) ?_)
              | (with_reducible refine Ev_some (CloneB_eq _ (by omega)) ?_)
              | (with_reducible refine Ev_some (isToken_eq _ _ _ (by omega)) ?_)
              | (with_reducible refine Ev_some (l3Copy_eq _ _ (by omega) (by omega)) ?_)
              | (with_reducible refine Ev_some (copyTokens_eq _ _ (by omega) (by omega)) ?_)
              | (refine Ev_ifpos (by first | rfl | omega) ?_)
              | (refine Ev_ifneg (by first | omega | decide) ?_)
              | (refine Ev_ifneg (by simp only [bne_self_eq_false]; decide) ?_)
              | (refine Ev_ifpos (by simp) ?_)
              | (refine Ev_ifneg (by simp) ?_)
              | (refine Ev.step (fun _ => rfl) ?_; simp only [spec_NewToken.j0])
              | (refine Ev.step (fun _ => rfl) ?_; simp only [impl_NewToken.j0]))
          · have h5 : 0 ≤ a ∧ a ≤ (p.length : Int) - 1 := by omega
            rw [if_pos (show a ≥ 0 by omega), ← rdOf_int]
            repeat (first
              | (dsimp only)
              | (with_reducible exact Ev.now _)
              | (simp only [bP_pos h1, bP_pos h5, if_true, Bool.not_true, Bool.not_false])
              | (with_reducible refine Ev.bind (toIntS_ev _ (by omega)) ?_)
              | (with_reducible refine Ev.bind (toBoolS_ev _ (by omega)) ?_)
              | (with_reducible refine Ev.bind (eqIntS_self _ (by omega)) ?_)
              | (with_reducible refine Ev.bind (eqBoolS_self _ (by omega)) ?_)
              | (with_reducible refine Ev.bind (markIntS_ev _ _ (by omega) (by omega) (by omega)) ?_)
              | (with_reducible refine Ev.bind (heldIntS_ev _ _ (by omega) (by omega) (by omega)) ?_)
              | (with_reducible refine Ev.bind (markBoolS_ev _ _ (by omega) (by omega) (by omega)) ?_)
              | (with_reducible refine Ev.bind (Contains_ev _ _ (by omega)) ?_)
              | (with_reducible refine Ev.bind (implPlaceOf_ev _ _ (by omega)) ?_)
              | (with_reducible refine Ev.bind (specPlaceOf_ev _ _ (by omega)) ?_)
              | (with_reducible refine Ev.bind (l2Has_ev _ _ (by omega)) ?_)
              | (with_reducible refine Ev.bind (specLineOk_ev _ (by omega)) ?_)
              | (with_reducible refine Ev.bind (implLineOk_ev _ (by omega)) ?_)
              | (with_reducible refine Ev.bind (specTok_ev _ _) ?_)
              | (with_reducible refine Ev.bind (implTok_ev _ _) ?_)
              | (with_reducible refine Ev.bind (toTokens_ev _ _ (by omega) (by omega)) ?_)
              | (with_reducible refine Ev.bind (eqTokens_self _ _ (by omega) (by omega)) ?_)
              | (with_reducible refine Ev.bind (markTokens_ev _ _ _ (by omega) (by omega) (by omega) (by omega)) ?_)
              | (with_reducible refine Ev.bind (heldBoolS_ev _ _ (by omega) (by omega) (by omega)) ?_)
              | (with_reducible refine Ev.bind (heldTokens_ev _ _ _ (by omega) (by omega) (by omega) (by omega)) ?_)
              | (with_reducible refine Ev.bind (specIsOff_ev _ _ _) ?_)
              | (with_reducible refine Ev.bind (implIsOff_ev _ _ _) ?_)
              | (with_reducible refine Ev_some (l1In_eq _ _ _) ?_)
              | (with_reducible refine Ev_some (within_eq _ _ _) ?_)
              | (with_reducible refine Ev_some (l2Client_eq _) ?_)
              | (with_reducible refine Ev_some (isClient_eq _) ?_)
              | (with_reducible refine Ev_some (l2Copy_eq _ (by omega)) ?_)
              | (with_reducible refine Ev_some (Clone_eq _ (by omega)) ?_)
              | (with_reducible refine Ev_some (CloneB_eq _ (by omega)) ?_)
              | (with_reducible refine Ev_some (isToken_eq _ _ _ (by omega)) ?_)
              | (with_reducible refine Ev_some (l3Copy_eq _ _ (by omega) (by omega)) ?_)
              | (with_reducible refine Ev_some (copyTokens_eq _ _ (by omega) (by omega)) ?_)
              | (refine Ev_ifpos (by first | rfl | omega) ?_)
              | (refine Ev_ifneg (by first | omega | decide) ?_)
              | (refine Ev_ifneg (by simp only [bne_self_eq_false]; decide) ?_)
              | (refine Ev_ifpos (by simp) ?_)
              | (refine Ev_ifneg (by simp) ?_)
              | (refine Ev.step (fun _ => rfl) ?_; simp only [spec_NewToken.j0])
              | (refine Ev.step (fun _ => rfl) ?_; simp only [impl_NewToken.j0]))
    · refine ⟨(p, o, -1, 1), ?_, ?_, by show p.length ≤ _; omega, by show o.length ≤ _; omega, .inl rfl⟩
      · simp only [spec_NewToken.f, w64 (show -9223372036854775808 ≤ (p.length : Int) - 1 by omega) (show (p.length : Int) - 1 ≤ 9223372036854775807 by omega)]
        repeat (first
          | (dsimp only)
          | (with_reducible exact Ev.now _)
          | (simp only [bP_pos h1, bP_neg h2, if_true, Bool.not_true, Bool.not_false])
          | (with_reducible refine Ev.bind (toIntS_ev _ (by omega)) ?_)
          | (with_reducible refine Ev.bind (toBoolS_ev _ (by omega)) ?_)
          | (with_reducible refine Ev.bind (eqIntS_self _ (by omega)) ?_)
          | (with_reducible refine Ev.bind (eqBoolS_self _ (by omega)) ?_)
          | (with_reducible refine Ev.bind (markIntS_ev _ _ (by omega) (by omega) (by omega)) ?_)
          | (with_reducible refine Ev.bind (heldIntS_ev _ _ (by omega) (by omega) (by omega)) ?_)
          | (with_reducible refine Ev.bind (markBoolS_ev _ _ (by omega) (by omega) (by omega)) ?_)
          | (with_reducible refine Ev.bind (Contains_ev _ _ (by omega)) ?_)
          | (with_reducible refine Ev.bind (implPlaceOf_ev _ _ (by omega)) ?_)
          | (with_reducible refine Ev.bind (specPlaceOf_ev _ _ (by omega)) ?_)
          | (with_reducible refine Ev.bind (l2Has_ev _ _ (by omega)) ?_)
          | (with_reducible refine Ev.bind (specLineOk_ev _ (by omega)) ?_)
          | (with_reducible refine Ev.bind (implLineOk_ev _ (by omega)) ?_)
          | (with_reducible refine Ev.bind (specTok_ev _ _) ?_)
          | (with_reducible refine Ev.bind (implTok_ev _ _) ?_)
          | (with_reducible refine Ev.bind (toTokens_ev _ _ (by omega) (by omega)) ?_)
          | (with_reducible refine Ev.bind (eqTokens_self _ _ (by omega) (by omega)) ?_)
          | (with_reducible refine Ev.bind (markTokens_ev _ _ _ (by omega) (by omega) (by omega) (by omega)) ?_)
          | (with_reducible refine Ev.bind (heldBoolS_ev _ _ (by omega) (by omega) (by omega)) ?_)
          | (with_reducible refine Ev.bind (heldTokens_ev _ _ _ (by omega) (by omega) (by omega) (by omega)) ?_)
          | (with_reducible refine Ev.bind (specIsOff_ev _ _ _) ?_)
          | (with_reducible refine Ev.bind (implIsOff_ev _ _ _) ?_)
          | (with_reducible refine Ev_some (l1In_eq _ _ _) ?_)
          | (with_reducible refine Ev_some (within_eq _ _ _) ?_)
          | (with_reducible refine Ev_some (l2Client_eq _) ?_)
          | (with_reducible refine Ev_some (isClient_eq _) ?_)
          | (with_reducible refine Ev_some (l2Copy_eq _ (by omega)) ?_)
          | (with_reducible refine Ev_some (Clone_eq _ (by omega)) ?_)
          | (with_reducible refine Ev_some (CloneB_eq _ (by omega)) ?_)
          | (with_reducible refine Ev_some (isToken_eq _ _ _ (by omega)) ?_)
          | (with_reducible refine Ev_some (l3Copy_eq _ _ (by omega) (by omega)) ?_)
          | (with_reducible refine Ev_some (copyTokens_eq _ _ (by omega) (by omega)) ?_)
          | (refine Ev_ifpos (by first | rfl | omega) ?_)
          | (refine Ev_ifneg (by first | omega | decide) ?_)
          | (refine Ev_ifneg (by simp only [bne_self_eq_false]; decide) ?_)
          | (refine Ev_ifpos (by simp) ?_)
          | (refine Ev_ifneg (by simp) ?_)
          | (refine Ev.step (fun _ => rfl) ?_; simp only [spec_NewToken.j0])
          | (refine Ev.step (fun _ => rfl) ?_; simp only [impl_NewToken.j0]))
      · simp only [impl_NewToken.f]
        have h5 : ¬ (0 ≤ a ∧ a ≤ (p.length : Int) - 1) := by omega
        have h6 : ¬ a = -1 := by omega
        repeat (first
          | (dsimp only)
          | (with_reducible exact Ev.now _)
          | (simp only [bP_pos h1, bP_neg h5, if_true, Bool.not_true, Bool.not_false])
          | (with_reducible refine Ev.bind (toIntS_ev _ (by omega)) ?_)
          | (with_reducible refine Ev.bind (toBoolS_ev _ (by omega)) ?_)
          | (with_reducible refine Ev.bind (eqIntS_self _ (by omega)) ?_)
          | (with_reducible refine Ev.bind (eqBoolS_self _ (by omega)) ?_)
          | (with_reducible refine Ev.bind (markIntS_ev _ _ (by omega) (by omega) (by omega)) ?_)
          | (with_reducible refine Ev.bind (heldIntS_ev _ _ (by omega) (by omega) (by omega)) ?_)
          | (with_reducible refine Ev.bind (markBoolS_ev _ _ (by omega) (by omega) (by omega)) ?_)
          | (with_reducible refine Ev.bind (Contains_ev _ _ (by omega)) ?_)
          | (with_reducible refine Ev.bind (implPlaceOf_ev _ _ (by omega)) ?_)
          | (with_reducible refine Ev.bind (specPlaceOf_ev _ _ (by omega)) ?_)
          | (with_reducible refine Ev.bind (l2Has_ev _ _ (by omega)) ?_)
          | (with_reducible refine Ev.bind (specLineOk_ev _ (by omega)) ?_)
          | (with_reducible refine Ev.bind (implLineOk_ev _ (by omega)) ?_)
          | (with_reducible refine Ev.bind (specTok_ev _ _) ?_)
          | (with_reducible refine Ev.bind (implTok_ev _ _) ?_)
          | (with_reducible refine Ev.bind (toTokens_ev _ _ (by omega) (by omega)) ?_)
          | (with_reducible refine Ev.bind (eqTokens_self _ _ (by omega) (by omega)) ?_)
          | (with_reducible refine Ev.bind (markTokens_ev _ _ _ (by omega) (by omega) (by omega) (by omega)) ?_)
          | (with_reducible refine Ev.bind (heldBoolS_ev _ _ (by omega) (by omega) (by omega)) ?_)
          | (with_reducible refine Ev.bind (heldTokens_ev _ _ _ (by omega) (by omega) (by omega) (by omega)) ?_)
          | (with_reducible refine Ev.bind (specIsOff_ev _ _ _) ?_)
          | (with_reducible refine Ev.bind (implIsOff_ev _ _ _) ?_)
          | (with_reducible refine Ev_some (l1In_eq _ _ _) ?_)
          | (with_reducible refine Ev_some (within_eq _ _ _) ?_)
          | (with_reducible refine Ev_some (l2Client_eq _) ?_)
          | (with_reducible refine Ev_some (isClient_eq _) ?_)
          | (with_reducible refine Ev_some (l2Copy_eq _ (by omega)) ?_)
          | (with_reducible refine Ev_some (Clone_eq _ (by omega)) ?_)
          | (with_reducible refine Ev_some (CloneB_eq _ (by omega)) ?_)
          | (with_reducible refine Ev_some (isToken_eq _ _ _ (by omega)) ?_)
          | (with_reducible refine Ev_some (l3Copy_eq _ _ (by omega) (by omega)) ?_)
          | (with_reducible refine Ev_some (copyTokens_eq _ _ (by omega) (by omega)) ?_)
          | (refine Ev_ifpos (by first | rfl | omega) ?_)
          | (refine Ev_ifneg (by first | omega | decide) ?_)
          | (refine Ev_ifneg (by simp only [bne_self_eq_false]; decide) ?_)
          | (refine Ev_ifpos (by simp) ?_)
          | (refine Ev_ifneg (by simp) ?_)
          | (refine Ev.step (fun _ => rfl) ?_; simp only [spec_NewToken.j0])
          | (refine Ev.step (fun _ => rfl) ?_; simp only [impl_NewToken.j0]))
  · refine ⟨(p, o, -1, 1), ?_, ?_, by show p.length ≤ _; omega, by show o.length ≤ _; omega, .inl rfl⟩
    · simp only [spec_NewToken.f]
      repeat (first
        | (dsimp only)
        | (with_reducible exact Ev.now _)
        | (simp only [bP_neg h1, if_true, Bool.not_true, Bool.not_false])
        | (with_reducible refine Ev.bind (toIntS_ev _ (by omega)) ?_)
        | (with_reducible refine Ev.bind (toBoolS_ev _ (by omega)) ?_)
        | (with_reducible refine Ev.bind (eqIntS_self _ (by omega)) ?_)
        | (with_reducible refine Ev.bind (eqBoolS_self _ (by omega)) ?_)
        | (with_reducible refine Ev.bind (markIntS_ev _ _ (by omega) (by omega) (by omega)) ?_)
        | (with_reducible refine Ev.bind (heldIntS_ev _ _ (by omega) (by omega) (by omega)) ?_)
        | (with_reducible refine Ev.bind (markBoolS_ev _ _ (by omega) (by omega) (by omega)) ?_)
        | (with_reducible refine Ev.bind (Contains_ev _ _ (by omega)) ?_)
        | (with_reducible refine Ev.bind (implPlaceOf_ev _ _ (by omega)) ?_)
        | (with_reducible refine Ev.bind (specPlaceOf_ev _ _ (by omega)) ?_)
        | (with_reducible refine Ev.bind (l2Has_ev _ _ (by omega)) ?_)
        | (with_reducible refine Ev.bind (specLineOk_ev _ (by omega)) ?_)
        | (with_reducible refine Ev.bind (implLineOk_ev _ (by omega)) ?_)
        | (with_reducible refine Ev.bind (specTok_ev _ _) ?_)
        | (with_reducible refine Ev.bind (implTok_ev _ _) ?_)
        | (with_reducible refine Ev.bind (toTokens_ev _ _ (by omega) (by omega)) ?_)
        | (with_reducible refine Ev.bind (eqTokens_self _ _ (by omega) (by omega)) ?_)
        | (with_reducible refine Ev.bind (markTokens_ev _ _ _ (by omega) (by omega) (by omega) (by omega)) ?_)
        | (with_reducible refine Ev.bind (heldBoolS_ev _ _ (by omega) (by omega) (by omega)) ?_)
        | (with_reducible refine Ev.bind (heldTokens_ev _ _ _ (by omega) (by omega) (by omega) (by omega)) ?_)
        | (with_reducible refine Ev.bind (specIsOff_ev _ _ _) ?_)
        | (with_reducible refine Ev.bind (implIsOff_ev _ _ _) ?_)
        | (with_reducible refine Ev_some (l1In_eq _ _ _) ?_)
        | (with_reducible refine Ev_some (within_eq _ _ _) ?_)
        | (with_reducible refine Ev_some (l2Client_eq _) ?_)
        | (with_reducible refine Ev_some (isClient_eq _) ?_)
        | (with_reducible refine Ev_some (l2Copy_eq _ (by omega)) ?_)
        | (with_reducible refine Ev_some (Clone_eq _ (by omega)) ?_)
        | (with_reducible refine Ev_some (CloneB_eq _ (by omega)) ?_)
        | (with_reducible refine Ev_some (isToken_eq _ _ _ (by omega)) ?_)
        | (with_reducible refine Ev_some (l3Copy_eq _ _ (by omega) (by omega)) ?_)
        | (with_reducible refine Ev_some (copyTokens_eq _ _ (by omega) (by omega)) ?_)
        | (refine Ev_ifpos (by first | rfl | omega) ?_)
        | (refine Ev_ifneg (by first | omega | decide) ?_)
        | (refine Ev_ifneg (by simp only [bne_self_eq_false]; decide) ?_)
        | (refine Ev_ifpos (by simp) ?_)
        | (refine Ev_ifneg (by simp) ?_)
        | (refine Ev.step (fun _ => rfl) ?_; simp only [spec_NewToken.j0])
        | (refine Ev.step (fun _ => rfl) ?_; simp only [impl_NewToken.j0]))
    · simp only [impl_NewToken.f]
      repeat (first
        | (dsimp only)
        | (with_reducible exact Ev.now _)
        | (simp only [bP_neg h1, if_true, Bool.not_true, Bool.not_false])
        | (with_reducible refine Ev.bind (toIntS_ev _ (by omega)) ?_)
        | (with_reducible refine Ev.bind (toBoolS_ev _ (by omega)) ?_)
        | (with_reducible refine Ev.bind (eqIntS_self _ (by omega)) ?_)
        | (with_reducible refine Ev.bind (eqBoolS_self _ (by omega)) ?_)
        | (with_reducible refine Ev.bind (markIntS_ev _ _ (by omega) (by omega) (by omega)) ?_)
        | (with_reducible refine Ev.bind (heldIntS_ev _ _ (by omega) (by omega) (by omega)) ?_)
        | (with_reducible refine Ev.bind (markBoolS_ev _ _ (by omega) (by omega) (by omega)) ?_)
        | (with_reducible refine Ev.bind (Contains_ev _ _ (by omega)) ?_)
        | (with_reducible refine Ev.bind (implPlaceOf_ev _ _ (by omega)) ?_)
        | (with_reducible refine Ev.bind (specPlaceOf_ev _ _ (by omega)) ?_)
        | (with_reducible refine Ev.bind (l2Has_ev _ _ (by omega)) ?_)
        | (with_reducible refine Ev.bind (specLineOk_ev _ (by omega)) ?_)
        | (with_reducible refine Ev.bind (implLineOk_ev _ (by omega)) ?_)
        | (with_reducible refine Ev.bind (specTok_ev _ _) ?_)
        | (with_reducible refine Ev.bind (implTok_ev _ _) ?_)
        | (with_reducible refine Ev.bind (toTokens_ev _ _ (by omega) (by omega)) ?_)
        | (with_reducible refine Ev.bind (eqTokens_self _ _ (by omega) (by omega)) ?_)
        | (with_reducible refine Ev.bind (markTokens_ev _ _ _ (by omega) (by omega) (by omega) (by omega)) ?_)
        | (with_reducible refine Ev.bind (heldBoolS_ev _ _ (by omega) (by omega) (by omega)) ?_)
        | (with_reducible refine Ev.bind (heldTokens_ev _ _ _ (by omega) (by omega) (by omega) (by omega)) ?_)
        | (with_reducible refine Ev.bind (specIsOff_ev _ _ _) ?_)
        | (with_reducible refine Ev.bind (implIsOff_ev _ _ _) ?_)
        | (with_reducible refine Ev_some (l1In_eq _ _ _) ?_)
        | (with_reducible refine Ev_some (within_eq _ _ _) ?_)
        | (with_reducible refine Ev_some (l2Client_eq _) ?_)
        | (with_reducible refine Ev_some (isClient_eq _) ?_)
        | (with_reducible refine Ev_some (l2Copy_eq _ (by omega)) ?_)
        | (with_reducible refine Ev_some (Clone_eq _ (by omega)) ?_)
        | (with_reducible refine Ev_some (CloneB_eq _ (by omega)) ?_)
        | (with_reducible refine Ev_some (isToken_eq _ _ _ (by omega)) ?_)
        | (with_reducible refine Ev_some (l3Copy_eq _ _ (by omega) (by omega)) ?_)
        | (with_reducible refine Ev_some (copyTokens_eq _ _ (by omega) (by omega)) ?_)
        | (refine Ev_ifpos (by first | rfl | omega) ?_)
        | (refine Ev_ifneg (by first | omega | decide) ?_)
        | (refine Ev_ifneg (by simp only [bne_self_eq_false]; decide) ?_)
        | (refine Ev_ifpos (by simp) ?_)
        | (refine Ev_ifneg (by simp) ?_)
        | (refine Ev.step (fun _ => rfl) ?_; simp only [spec_NewToken.j0])
        | (refine Ev.step (fun _ => rfl) ?_; simp only [impl_NewToken.j0]))
def canR : List Bool → List Int → List Int → List Bool × List Int
  | o, told, [] => (o, told)
  | o, told, x :: xs => if o.getD x.toNat false = true then canR o told xs else canR (o.set x.toNat true) (told ++ [x]) xs
theorem canR_len : ∀ (xs : List Int) (o : List Bool) (told : List Int), (canR o told xs).1.length = o.length ∧ (canR o told xs).2.length ≤ told.length + xs.length
  | [], o, told => by simp [canR]
  | x :: xs, o, told => by
    simp only [canR]
    split
    · have := canR_len xs o told
      simp; omega
    · have := canR_len xs (o.set x.toNat true) (told ++ [x])
      simp at this ⊢; omega
theorem specCancel_l (p : List Int) (xs : List Int) (hx : xs.length ≤ 1048576) : ∀ d n : Nat, n + d = xs.length → ∀ (o : List Bool) (told : List Int), told.length ≤ n → (∀ x ∈ xs, 0 ≤ x ∧ x < (o.length : Int)) → Ev (fun k => spec_Cancel.l0 k told xs n p o) (p, (canR o told (xs.drop n)).1, (canR o told (xs.drop n)).2, 0)
  | 0, n, hn, o, told, ht, hm => by
    refine Ev.step (fun _ => rfl) ?_
    simp only [spec_Cancel.l0, if_neg (show ¬ (n : Int) < (xs.length : Int) by omega)]
    rw [List.drop_eq_nil_of_le (by omega)]
    exact Ev.now _
  | d + 1, n, hn, o, told, ht, hm => by
    have hx0 : 0 ≤ xs.getD n 0 ∧ xs.getD n 0 < (o.length : Int) := by
      apply hm
      rw [List.getD_eq_getElem?_getD, List.getElem?_eq_getElem (by omega)]
      exact List.getElem_mem _
    refine Ev.step (fun _ => rfl) ?_
    simp only [spec_Cancel.l0, if_pos (show (n : Int) < (xs.length : Int) by omega), if_pos (show (0 : Int) ≤ (n : Int) by omega), w64n (show n < xs.length by omega) (by omega), rd_nat, rdOf_int, if_pos hx0.1, if_pos hx0.2, if_pos (show told.length < 17592186044416 by omega)]
    rw [drop_cons 0 xs n (by omega)]
    simp only [canR]
    by_cases h : o.getD (xs.getD n 0).toNat false = true
    · simp only [if_pos h]
      exact specCancel_l p xs hx d (n + 1) (by omega) o told (by omega) hm
    · simp only [if_neg h]
      exact specCancel_l p xs hx d (n + 1) (by omega) _ _ (by simp; omega) (by simpa using hm)
theorem implCancel_l (p : List Int) (xs : List Int) (hx : xs.length ≤ 1048576) : ∀ d n : Nat, n + d = xs.length → ∀ (o : List Bool) (told : List Int), told.length ≤ n → (∀ x ∈ xs, 0 ≤ x ∧ x < (o.length : Int)) → Ev (fun k => impl_Cancel.l0 k told xs (xs.length : Int) n p o) (p, (canR o told (xs.drop n)).1, (canR o told (xs.drop n)).2, 0)
  | 0, n, hn, o, told, ht, hm => by
    refine Ev.step (fun _ => rfl) ?_
    simp only [impl_Cancel.l0, if_neg (show ¬ (n : Int) < (xs.length : Int) by omega)]
    rw [List.drop_eq_nil_of_le (by omega)]
    exact Ev.now _
  | d + 1, n, hn, o, told, ht, hm => by
    have hx0 : 0 ≤ xs.getD n 0 ∧ xs.getD n 0 < (o.length : Int) := by
      apply hm
      rw [List.getD_eq_getElem?_getD, List.getElem?_eq_getElem (by omega)]
      exact List.getElem_mem _
    refine Ev.step (fun _ => rfl) ?_
    simp only [impl_Cancel.l0, if_pos (show (n : Int) < (xs.length : Int) by omega), if_pos (show (0 : Int) ≤ (n : Int) by omega), w64n (show n < xs.length by omega) (by omega), rd_nat, rdOf_int, if_pos hx0.1, if_pos hx0.2, if_pos (show told.length < 17592186044416 by omega)]
    rw [drop_cons 0 xs n (by omega)]
    simp only [canR]
    by_cases h : o.getD (xs.getD n 0).toNat false = true
    · simp only [if_pos h]
      have hs : o.set (xs.getD n 0).toNat true = o := by
        refine List.ext_getElem? fun i => ?_
        rw [List.getElem?_set]
        split
        · rename_i hi
          subst hi
          rw [List.getD_eq_getElem?_getD, List.getElem?_eq_getElem (by omega)] at h
          rw [if_pos (by omega), List.getElem?_eq_getElem (by omega)]
          simpa using h.symm
        · rfl
      rw [hs]
      exact implCancel_l p xs hx d (n + 1) (by omega) o told (by omega) hm
    · simp only [if_neg h]
      exact implCancel_l p xs hx d (n + 1) (by omega) _ _ (by simp; omega) (by simpa using hm)
theorem both_Cancel (p : List Int) (o : List Bool) (a : Int) (hp : p.length ≤ 1048576) (ho : o.length ≤ 1048576) : ∃ r : List Int × List Bool × List Int × Int, Ev (fun k => spec_Cancel.f k p o a) r ∧ Ev (fun k => impl_Cancel.f k p o a) r ∧ r.1.length ≤ 1048577 ∧ r.2.1.length ≤ 1048577 ∧ r.2.2.1.length ≤ 1048577 ∧
    (r = (p, o, [], 1) ∨ r = (p, o, [], 3) ∨ (tokOk p o ∧ 0 ≤ a ∧ a < p.length ∧ r = (p, (canR o [] (undR p a)).1, (canR o [] (undR p a)).2, 0))) := by
  by_cases h1 : tokOk p o
  · have he := h1.1
    have hl := h1.2.1
    by_cases h2 : 0 ≤ a ∧ a ≤ (p.length : Int) - 1
    · have hu := undR_len p a
      have hc := canR_len (undR p a) o []
      have hm : ∀ x ∈ undR p a, 0 ≤ x ∧ x < (o.length : Int) := fun x hx => by have := undR_mem p a x hx; omega
      refine ⟨(p, (canR o [] (undR p a)).1, (canR o [] (undR p a)).2, 0), ?_, ?_, by show p.length ≤ _; omega, ?_, ?_, .inr (.inr ⟨h1, h2.1, by omega, rfl⟩)⟩
      · simp only [spec_Cancel.f, l3Copy_eq p o (by omega) (by omega), Option.bind_some]
        refine Ev.bind (specTok_ev p o) ?_
        simp only [bP_pos h1, if_true, l1In_eq, Option.bind_some, w64 (show -9223372036854775808 ≤ (p.length : Int) - 1 by omega) (show (p.length : Int) - 1 ≤ 9223372036854775807 by omega), bP_pos h2]
        refine Ev.bind (specUnder_ev p o a h1 h2) ?_
        simpa using specCancel_l p (undR p a) (by omega) (undR p a).length 0 (by omega) o [] (by simp) hm
      · simp only [impl_Cancel.f, copyTokens_eq p o (by omega) (by omega), Option.bind_some]
        refine Ev.bind (implTok_ev p o) ?_
        simp only [bP_pos h1, if_true, isToken_eq p o a (by omega), Option.bind_some, bP_pos h2]
        refine Ev.bind (implunder_ev p o a (by omega)) ?_
        simpa using implCancel_l p (undR p a) (by omega) (undR p a).length 0 (by omega) o [] (by simp) hm
      · show (canR o [] (undR p a)).1.length ≤ _
        omega
      · show (canR o [] (undR p a)).2.length ≤ _
        simp at hc; omega
    · refine ⟨(p, o, [], 3), ?_, ?_, by show p.length ≤ _; omega, by show o.length ≤ _; omega, by simp, .inr (.inl rfl)⟩
      · simp only [spec_Cancel.f, w64 (show -9223372036854775808 ≤ (p.length : Int) - 1 by omega) (show (p.length : Int) - 1 ≤ 9223372036854775807 by omega)]
        repeat (first
          | (dsimp only)
          | (with_reducible exact Ev.now _)
          | (simp only [bP_pos h1, bP_neg h2, if_true, Bool.not_true, Bool.not_false])
          | (with_reducible refine Ev.bind (toIntS_ev _ (by omega)) ?_)
          | (with_reducible refine Ev.bind (toBoolS_ev _ (by omega)) ?_)
          | (with_reducible refine Ev.bind (eqIntS_self _ (by omega)) ?_)
          | (with_reducible refine Ev.bind (eqBoolS_self _ (by omega)) ?_)
          | (with_reducible refine Ev.bind (markIntS_ev _ _ (by omega) (by omega) (by omega)) ?_)
          | (with_reducible refine Ev.bind (heldIntS_ev _ _ (by omega) (by omega) (by omega)) ?_)
          | (with_reducible refine Ev.bind (markBoolS_ev _ _ (by omega) (by omega) (by omega)) ?_)
          | (with_reducible refine Ev.bind (Contains_ev _ _ (by omega)) ?_)
          | (with_reducible refine Ev.bind (implPlaceOf_ev _ _ (by omega)) ?_)
          | (with_reducible refine Ev.bind (specPlaceOf_ev _ _ (by omega)) ?_)
          | (with_reducible refine Ev.bind (l2Has_ev _ _ (by omega)) ?_)
          | (with_reducible refine Ev.bind (specLineOk_ev _ (by omega)) ?_)
          | (with_reducible refine Ev.bind (implLineOk_ev _ (by omega)) ?_)
          | (with_reducible refine Ev.bind (specTok_ev _ _) ?_)
          | (with_reducible refine Ev.bind (implTok_ev _ _) ?_)
          | (with_reducible refine Ev.bind (toTokens_ev _ _ (by omega) (by omega)) ?_)
          | (with_reducible refine Ev.bind (eqTokens_self _ _ (by omega) (by omega)) ?_)
          | (with_reducible refine Ev.bind (markTokens_ev _ _ _ (by omega) (by omega) (by omega) (by omega)) ?_)
          | (with_reducible refine Ev.bind (heldBoolS_ev _ _ (by omega) (by omega) (by omega)) ?_)
          | (with_reducible refine Ev.bind (heldTokens_ev _ _ _ (by omega) (by omega) (by omega) (by omega)) ?_)
          | (with_reducible refine Ev.bind (specIsOff_ev _ _ _) ?_)
          | (with_reducible refine Ev.bind (implIsOff_ev _ _ _) ?_)
          | (with_reducible refine Ev_some (l1In_eq _ _ _) ?_)
          | (with_reducible refine Ev_some (within_eq _ _ _) ?_)
          | (with_reducible refine Ev_some (l2Client_eq _) ?_)
          | (with_reducible refine Ev_some (isClient_eq _) ?_)
          | (with_reducible refine Ev_some (l2Copy_eq _ (by omega)) ?_)
          | (with_reducible refine Ev_some (Clone_eq _ (by omega)) ?_)
          | (with_reducible refine Ev_some (CloneB_eq _ (by omega)) ?_)
          | (with_reducible refine Ev_some (isToken_eq _ _ _ (by omega)) ?_)
          | (with_reducible refine Ev_some (l3Copy_eq _ _ (by omega) (by omega)) ?_)
          | (with_reducible refine Ev_some (copyTokens_eq _ _ (by omega) (by omega)) ?_)
          | (refine Ev_ifpos (by first | rfl | omega) ?_)
          | (refine Ev_ifneg (by first | omega | decide) ?_)
          | (refine Ev_ifneg (by simp only [bne_self_eq_false]; decide) ?_)
          | (refine Ev_ifpos (by simp) ?_)
          | (refine Ev_ifneg (by simp) ?_)
          | (refine Ev.step (fun _ => rfl) ?_; simp only [spec_NewToken.j0])
          | (refine Ev.step (fun _ => rfl) ?_; simp only [impl_NewToken.j0]))
      · simp only [impl_Cancel.f]
        repeat (first
          | (dsimp only)
          | (with_reducible exact Ev.now _)
          | (simp only [bP_pos h1, bP_neg h2, if_true, Bool.not_true, Bool.not_false])
          | (with_reducible refine Ev.bind (toIntS_ev _ (by omega)) ?_)
          | (with_reducible refine Ev.bind (toBoolS_ev _ (by omega)) ?_)
          | (with_reducible refine Ev.bind (eqIntS_self _ (by omega)) ?_)
          | (with_reducible refine Ev.bind (eqBoolS_self _ (by omega)) ?_)
          | (with_reducible refine Ev.bind (markIntS_ev _ _ (by omega) (by omega) (by omega)) ?_)
          | (with_reducible refine Ev.bind (heldIntS_ev _ _ (by omega) (by omega) (by omega)) ?_)
          | (with_reducible refine Ev.bind (markBoolS_ev _ _ (by omega) (by omega) (by omega)) ?_)
          | (with_reducible refine Ev.bind (Contains_ev _ _ (by omega)) ?_)
          | (with_reducible refine Ev.bind (implPlaceOf_ev _ _ (by omega)) ?_)
          | (with_reducible refine Ev.bind (specPlaceOf_ev _ _ (by omega)) ?_)
          | (with_reducible refine Ev.bind (l2Has_ev _ _ (by omega)) ?_)
          | (with_reducible refine Ev.bind (specLineOk_ev _ (by omega)) ?_)
          | (with_reducible refine Ev.bind (implLineOk_ev _ (by omega)) ?_)
          | (with_reducible refine Ev.bind (specTok_ev _ _) ?_)
          | (with_reducible refine Ev.bind (implTok_ev _ _) ?_)
          | (with_reducible refine Ev.bind (toTokens_ev _ _ (by omega) (by omega)) ?_)
          | (with_reducible refine Ev.bind (eqTokens_self _ _ (by omega) (by omega)) ?_)
          | (with_reducible refine Ev.bind (markTokens_ev _ _ _ (by omega) (by omega) (by omega) (by omega)) ?_)
          | (with_reducible refine Ev.bind (heldBoolS_ev _ _ (by omega) (by omega) (by omega)) ?_)
          | (with_reducible refine Ev.bind (heldTokens_ev _ _ _ (by omega) (by omega) (by omega) (by omega)) ?_)
          | (with_reducible refine Ev.bind (specIsOff_ev _ _ _) ?_)
          | (with_reducible refine Ev.bind (implIsOff_ev _ _ _) ?_)
          | (with_reducible refine Ev_some (l1In_eq _ _ _) ?_)
          | (with_reducible refine Ev_some (within_eq _ _ _) ?_)
          | (with_reducible refine Ev_some (l2Client_eq _) ?_)
          | (with_reducible refine Ev_some (isClient_eq _) ?_)
          | (with_reducible refine Ev_some (l2Copy_eq _ (by omega)) ?_)
          | (with_reducible refine Ev_some (Clone_eq _ (by omega)) ?_)
          | (with_reducible refine Ev_some (CloneB_eq _ (by omega)) ?_)
          | (with_reducible refine Ev_some (isToken_eq _ _ _ (by omega)) ?_)
          | (with_reducible refine Ev_some (l3Copy_eq _ _ (by omega) (by omega)) ?_)
          | (with_reducible refine Ev_some (copyTokens_eq _ _ (by omega) (by omega)) ?_)
          | (refine Ev_ifpos (by first | rfl | omega) ?_)
          | (refine Ev_ifneg (by first | omega | decide) ?_)
          | (refine Ev_ifneg (by simp only [bne_self_eq_false]; decide) ?_)
          | (refine Ev_ifpos (by simp) ?_)
          | (refine Ev_ifneg (by simp) ?_)
          | (refine Ev.step (fun _ => rfl) ?_; simp only [spec_NewToken.j0])
          | (refine Ev.step (fun _ => rfl) ?_; simp only [impl_NewToken.j0]))
  · refine ⟨(p, o, [], 1), ?_, ?_, by show p.length ≤ _; omega, by show o.length ≤ _; omega, by simp, .inl rfl⟩
    · simp only [spec_Cancel.f]
      repeat (first
        | (dsimp only)
        | (with_reducible exact Ev.now _)
        | (simp only [bP_neg h1, if_true, Bool.not_true, Bool.not_false])
        | (with_reducible refine Ev.bind (toIntS_ev _ (by omega)) ?_)
        | (with_reducible refine Ev.bind (toBoolS_ev _ (by omega)) ?_)
        | (with_reducible refine Ev.bind (eqIntS_self _ (by omega)) ?_)
        | (with_reducible refine Ev.bind (eqBoolS_self _ (by omega)) ?_)
        | (with_reducible refine Ev.bind (markIntS_ev _ _ (by omega) (by omega) (by omega)) ?_)
        | (with_reducible refine Ev.bind (heldIntS_ev _ _ (by omega) (by omega) (by omega)) ?_)
        | (with_reducible refine Ev.bind (markBoolS_ev _ _ (by omega) (by omega) (by omega)) ?_)
        | (with_reducible refine Ev.bind (Contains_ev _ _ (by omega)) ?_)
        | (with_reducible refine Ev.bind (implPlaceOf_ev _ _ (by omega)) ?_)
        | (with_reducible refine Ev.bind (specPlaceOf_ev _ _ (by omega)) ?_)
        | (with_reducible refine Ev.bind (l2Has_ev _ _ (by omega)) ?_)
        | (with_reducible refine Ev.bind (specLineOk_ev _ (by omega)) ?_)
        | (with_reducible refine Ev.bind (implLineOk_ev _ (by omega)) ?_)
        | (with_reducible refine Ev.bind (specTok_ev _ _) ?_)
        | (with_reducible refine Ev.bind (implTok_ev _ _) ?_)
        | (with_reducible refine Ev.bind (toTokens_ev _ _ (by omega) (by omega)) ?_)
        | (with_reducible refine Ev.bind (eqTokens_self _ _ (by omega) (by omega)) ?_)
        | (with_reducible refine Ev.bind (markTokens_ev _ _ _ (by omega) (by omega) (by omega) (by omega)) ?_)
        | (with_reducible refine Ev.bind (heldBoolS_ev _ _ (by omega) (by omega) (by omega)) ?_)
        | (with_reducible refine Ev.bind (heldTokens_ev _ _ _ (by omega) (by omega) (by omega) (by omega)) ?_)
        | (with_reducible refine Ev.bind (specIsOff_ev _ _ _) ?_)
        | (with_reducible refine Ev.bind (implIsOff_ev _ _ _) ?_)
        | (with_reducible refine Ev_some (l1In_eq _ _ _) ?_)
        | (with_reducible refine Ev_some (within_eq _ _ _) ?_)
        | (with_reducible refine Ev_some (l2Client_eq _) ?_)
        | (with_reducible refine Ev_some (isClient_eq _) ?_)
        | (with_reducible refine Ev_some (l2Copy_eq _ (by omega)) ?_)
        | (with_reducible refine Ev_some (Clone_eq _ (by omega)) ?_)
        | (with_reducible refine Ev_some (CloneB_eq _ (by omega)) ?_)
        | (with_reducible refine Ev_some (isToken_eq _ _ _ (by omega)) ?_)
        | (with_reducible refine Ev_some (l3Copy_eq _ _ (by omega) (by omega)) ?_)
        | (with_reducible refine Ev_some (copyTokens_eq _ _ (by omega) (by omega)) ?_)
        | (refine Ev_ifpos (by first | rfl | omega) ?_)
        | (refine Ev_ifneg (by first | omega | decide) ?_)
        | (refine Ev_ifneg (by simp only [bne_self_eq_false]; decide) ?_)
        | (refine Ev_ifpos (by simp) ?_)
        | (refine Ev_ifneg (by simp) ?_)
        | (refine Ev.step (fun _ => rfl) ?_; simp only [spec_NewToken.j0])
        | (refine Ev.step (fun _ => rfl) ?_; simp only [impl_NewToken.j0]))
    · simp only [impl_Cancel.f]
      repeat (first
        | (dsimp only)
        | (with_reducible exact Ev.now _)
        | (simp only [bP_neg h1, if_true, Bool.not_true, Bool.not_false])
        | (with_reducible refine Ev.bind (toIntS_ev _ (by omega)) ?_)
        | (with_reducible refine Ev.bind (toBoolS_ev _ (by omega)) ?_)
        | (with_reducible refine Ev.bind (eqIntS_self _ (by omega)) ?_)
        | (with_reducible refine Ev.bind (eqBoolS_self _ (by omega)) ?_)
        | (with_reducible refine Ev.bind (markIntS_ev _ _ (by omega) (by omega) (by omega)) ?_)
        | (with_reducible refine Ev.bind (heldIntS_ev _ _ (by omega) (by omega) (by omega)) ?_)
        | (with_reducible refine Ev.bind (markBoolS_ev _ _ (by omega) (by omega) (by omega)) ?_)
        | (with_reducible refine Ev.bind (Contains_ev _ _ (by omega)) ?_)
        | (with_reducible refine Ev.bind (implPlaceOf_ev _ _ (by omega)) ?_)
        | (with_reducible refine Ev.bind (specPlaceOf_ev _ _ (by omega)) ?_)
        | (with_reducible refine Ev.bind (l2Has_ev _ _ (by omega)) ?_)
        | (with_reducible refine Ev.bind (specLineOk_ev _ (by omega)) ?_)
        | (with_reducible refine Ev.bind (implLineOk_ev _ (by omega)) ?_)
        | (with_reducible refine Ev.bind (specTok_ev _ _) ?_)
        | (with_reducible refine Ev.bind (implTok_ev _ _) ?_)
        | (with_reducible refine Ev.bind (toTokens_ev _ _ (by omega) (by omega)) ?_)
        | (with_reducible refine Ev.bind (eqTokens_self _ _ (by omega) (by omega)) ?_)
        | (with_reducible refine Ev.bind (markTokens_ev _ _ _ (by omega) (by omega) (by omega) (by omega)) ?_)
        | (with_reducible refine Ev.bind (heldBoolS_ev _ _ (by omega) (by omega) (by omega)) ?_)
        | (with_reducible refine Ev.bind (heldTokens_ev _ _ _ (by omega) (by omega) (by omega) (by omega)) ?_)
        | (with_reducible refine Ev.bind (specIsOff_ev _ _ _) ?_)
        | (with_reducible refine Ev.bind (implIsOff_ev _ _ _) ?_)
        | (with_reducible refine Ev_some (l1In_eq _ _ _) ?_)
        | (with_reducible refine Ev_some (within_eq _ _ _) ?_)
        | (with_reducible refine Ev_some (l2Client_eq _) ?_)
        | (with_reducible refine Ev_some (isClient_eq _) ?_)
        | (with_reducible refine Ev_some (l2Copy_eq _ (by omega)) ?_)
        | (with_reducible refine Ev_some (Clone_eq _ (by omega)) ?_)
        | (with_reducible refine Ev_some (CloneB_eq _ (by omega)) ?_)
        | (with_reducible refine Ev_some (isToken_eq _ _ _ (by omega)) ?_)
        | (with_reducible refine Ev_some (l3Copy_eq _ _ (by omega) (by omega)) ?_)
        | (with_reducible refine Ev_some (copyTokens_eq _ _ (by omega) (by omega)) ?_)
        | (refine Ev_ifpos (by first | rfl | omega) ?_)
        | (refine Ev_ifneg (by first | omega | decide) ?_)
        | (refine Ev_ifneg (by simp only [bne_self_eq_false]; decide) ?_)
        | (refine Ev_ifpos (by simp) ?_)
        | (refine Ev_ifneg (by simp) ?_)
        | (refine Ev.step (fun _ => rfl) ?_; simp only [spec_NewToken.j0])
        | (refine Ev.step (fun _ => rfl) ?_; simp only [impl_NewToken.j0]))

end Go.Proofs.Ytghmhekjdjdleaa.Q
