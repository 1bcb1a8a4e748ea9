/- The law FnOff, as a statement on numbers and lists: what is cancelled is off with all beneath it. Conditions: those of the statement. -/
import Derived.Test.YtghmhekjdjdleaaQFnOff
import Derived.Test.YtghmhekjdjdleaaStatFnOff
namespace Go.Proofs.Ytghmhekjdjdleaa.Pure
open Go.RowKit Go.Proofs.Ytghmhekjdjdleaa.Z Go.Proofs.YtghmhekjdjdleaaW.PrintWords Go.Proofs.YtghmhekjdjdleaaW.PrintLast Go.Proofs.Ytghmhekjdjdleaa.Q
set_option linter.unusedVariables false
set_option linter.unusedSimpArgs false
theorem FnOff_j2 (p : List Int) (o : List Bool) (a : Int) (h1 : tokOk p o) (h2 : 0 ≤ a ∧ a < (p.length : Int)) (n : Nat) (hn : n < p.length) (hl : Ev (fun k => laws_FnOff.l0 k a (canR o [] (undR p a)).2 (undR p a) ((n + 1 : Nat) : Int) p o p (canR o [] (undR p a)).1) true) :
    Ev (fun k => laws_FnOff.j2 k a (canR o [] (undR p a)).2 (undR p a) (n : Int) (bP (o.getD n false = true ∨ (n : Int) ∈ undR p a)) p o p (canR o [] (undR p a)).1) true := by
  have he := h1.1
  have h24 := h1.2.1
  have hm := undR_in a h1
  have hu := undR_len p a
  have hc := canR_len (undR p a) o []
  have h3 := tokOk_can a h1
  refine Ev.step (fun _ => rfl) ?_
  simp only [laws_FnOff.j2]
  refine Ev.bind (implIsOff_ev p (canR o [] (undR p a)).1 (n : Int)) ?_
  have e1 : bP (tokOk p (canR o [] (undR p a)).1 ∧ 0 ≤ (n : Int) ∧ (canR o [] (undR p a)).1.getD (n : Int).toNat false = true ∧ (n : Int) < (p.length : Int)) = bP (o.getD n false = true ∨ (n : Int) ∈ undR p a) := by
    refine bP_congr ?_
    rw [Int.toNat_natCast, canR_off _ _ _ hm n (by omega)]
    exact ⟨fun h => h.2.2.1, fun h => ⟨h3, by omega, h, by omega⟩⟩
  rw [e1]
  simp only [bne_self_eq_false, if_neg (show ¬ (false = true) by decide)]
  refine Ev.bind (lawWithin_ev (canR o [] (undR p a)).2 (n : Int) (by simp at hc; omega)) ?_
  have e2 : bP ((n : Int) ∈ (canR o [] (undR p a)).2) = bP ((n : Int) ∈ undR p a ∧ ¬ o.getD n false = true) := by
    refine bP_congr ?_
    rw [canR_told _ _ _ hm]
    simp
  rw [e2]
  by_cases hw : o.getD n false = true ∨ (n : Int) ∈ undR p a
  · simp only [bP_pos hw, if_true]
    refine Ev.bind (specIsOff_ev p o (n : Int)) ?_
    have e3 : bP (tokOk p o ∧ 0 ≤ (n : Int) ∧ o.getD (n : Int).toNat false = true ∧ (n : Int) < (p.length : Int)) = bP (o.getD n false = true) := by
      refine bP_congr ?_
      rw [Int.toNat_natCast]
      exact ⟨fun h => h.2.2.1, fun h => ⟨h1, by omega, h, by omega⟩⟩
    rw [e3]
    by_cases ho : o.getD n false = true
    · rw [bP_pos ho, bP_neg (fun h => h.2 ho)]
      simp only [Bool.not_true, bne_self_eq_false, if_neg (show ¬ (false = true) by decide), w64n (show n < p.length by omega) (by omega)]
      exact hl
    · rw [bP_neg ho, bP_pos (show (n : Int) ∈ undR p a ∧ ¬ o.getD n false = true from ⟨hw.resolve_left ho, ho⟩)]
      simp only [Bool.not_false, bne_self_eq_false, if_neg (show ¬ (false = true) by decide), w64n (show n < p.length by omega) (by omega)]
      exact hl
  · rw [bP_neg (show ¬ ((n : Int) ∈ undR p a ∧ ¬ o.getD n false = true) from fun h => hw (.inr h.1))]
    simp only [bP_neg hw, bne_self_eq_false, if_neg (show ¬ (false = true) by decide), w64n (show n < p.length by omega) (by omega)]
    exact hl
theorem FnOff_l (p : List Int) (o : List Bool) (a : Int) (h1 : tokOk p o) (h2 : 0 ≤ a ∧ a < (p.length : Int)) : ∀ d n : Nat, n + d = p.length → Ev (fun k => laws_FnOff.l0 k a (canR o [] (undR p a)).2 (undR p a) (n : Int) p o p (canR o [] (undR p a)).1) true
  | 0, n, hn => by
    have he := h1.1
    have h24 := h1.2.1
    have hm := undR_in a h1
    have hc := canR_len (undR p a) o []
    have h3 := tokOk_can a h1
    have hu : (a.toNat : Int) = a := Int.toNat_of_nonneg h2.1
    have ha : a ∈ undR p a := by
      have h_ := undR_char a h1 a.toNat (by omega)
      rw [hu] at h_
      exact h_.2 (.inl rfl)
    have hoff : (canR o [] (undR p a)).1.getD a.toNat false = true := (canR_off _ _ _ hm a.toNat (by omega)).2 (.inr (by rw [hu]; exact ha))
    obtain ⟨r, _, hi, _, _, _, hr⟩ := both_Cancel p (canR o [] (undR p a)).1 a (by omega) (by omega)
    obtain ⟨q, _, hj, _, _, hq⟩ := both_NewToken p (canR o [] (undR p a)).1 a (by omega) (by omega)
    have hd : canR (canR o [] (undR p a)).1 [] (undR p a) = ((canR o [] (undR p a)).1, []) := by
      refine canR_done _ _ _ (fun x hx => ?_)
      have hx2 := hm x hx
      refine (canR_off _ _ _ hm x.toNat (by omega)).2 (.inr ?_)
      rw [Int.toNat_of_nonneg hx2.1]
      exact hx
    have hr' := hr.resolve_left (fun h => h.1 ⟨h3, h2.1, h2.2⟩)
    have er := hr'.2.2.2
    rw [hd] at er
    have hq' := hq.resolve_left (fun h => h.1 ⟨h3, by omega, h2.2⟩)
    refine Ev.step (fun _ => rfl) ?_
    simp only [laws_FnOff.l0, if_neg (show ¬ (n : Int) < (p.length : Int) by omega)]
    refine Ev.bind hi ?_
    refine Ev.bind hj ?_
    subst er
    dsimp only
    refine Ev_ifpos rfl ?_
    refine Ev.bind (TokensSame_self p _ (by omega) (by omega)) ?_
    simp only [if_true]
    refine Ev.bind (implTok_ev p _) ?_
    simp only [bP_pos h3, if_true]
    rcases hq'.2.2.2 with ⟨_, e⟩ | ⟨hlt, e⟩
    · subst e
      dsimp only
      refine Ev_ifpos rfl ?_
      refine Ev_ifpos rfl ?_
      exact Ev.now _
    · subst e
      dsimp only
      refine Ev_ifneg (by decide) ?_
      refine Ev_ifpos rfl ?_
      rw [if_pos h2.1, hoff]
      refine Ev.bind (implIsOff_ev _ _ _) ?_
      refine Ev_eq (Ev.now _) (bP_pos ⟨tokOk_snoc h3 h2 hlt, by omega, ?_, by simp; omega⟩)
      rw [Int.toNat_natCast, List.getD_eq_getElem?_getD, List.getElem?_append_right (by omega), show p.length - (canR o [] (undR p a)).1.length = 0 by omega]
      rfl
  | d + 1, n, hn => by
    have he := h1.1
    have h24 := h1.2.1
    have hu := undR_len p a
    have hl := FnOff_l p o a h1 h2 d (n + 1) (by omega)
    have hj := FnOff_j2 p o a h1 h2 n (by omega) hl
    refine Ev.step (fun _ => rfl) ?_
    simp only [laws_FnOff.l0, if_pos (show (n : Int) < (p.length : Int) by omega)]
    refine Ev.bind (specIsOff_ev p o (n : Int)) ?_
    have e3 : bP (tokOk p o ∧ 0 ≤ (n : Int) ∧ o.getD (n : Int).toNat false = true ∧ (n : Int) < (p.length : Int)) = bP (o.getD n false = true) := by
      refine bP_congr ?_
      rw [Int.toNat_natCast]
      exact ⟨fun h => h.2.2.1, fun h => ⟨h1, by omega, h, by omega⟩⟩
    rw [e3]
    by_cases ho : o.getD n false = true
    · rw [bP_pos (show o.getD n false = true ∨ (n : Int) ∈ undR p a from .inl ho)] at hj
      simp only [bP_pos ho, if_true]
      exact hj
    · simp only [bP_neg ho, if_neg (show ¬ (false = true) by decide)]
      refine Ev.bind (lawWithin_ev (undR p a) (n : Int) (by omega)) ?_
      rw [bP_congr (show (o.getD n false = true ∨ (n : Int) ∈ undR p a) ↔ (n : Int) ∈ undR p a from ⟨fun h => h.resolve_left ho, .inr⟩)] at hj
      exact hj
theorem FnOff : laws_FnOff.Pure := by
  intro s hs hw
  refine Ev.rounds (g := fun k => laws_FnOff.f k s) ?_
  simp only [laws_FnOff.f, laws_big.f, Option.bind_some]
  by_cases hbig : (s.length : Int) > 1048576
  · simp only [decide_eq_true hbig, if_true]
    exact Ev.now _
  simp only [decide_eq_false hbig, if_neg (show ¬ (false = true) by decide)]
  obtain ⟨p, o, a, hd, hp, ho⟩ := DrawCancel_ex s (by omega)
  obtain ⟨r, hsp, hi, _, _, _, hr⟩ := both_Cancel p o a (by omega) (by omega)
  refine Ev.bind hd ?_
  dsimp only
  refine Ev.bind hi ?_
  refine Ev.bind hsp ?_
  rcases hr with ⟨_, e | e⟩ | ⟨h1, h2, h3, e⟩
  · subst e
    dsimp only
    refine Ev_ifneg (by decide) ?_
    refine Ev_ifpos rfl ?_
    refine Ev_ifpos rfl ?_
    exact Ev.bind (TokensSame_self p o (by omega) (by omega)) (Ev.now _)
  · subst e
    dsimp only
    refine Ev_ifneg (by decide) ?_
    refine Ev_ifpos rfl ?_
    refine Ev_ifpos rfl ?_
    exact Ev.bind (TokensSame_self p o (by omega) (by omega)) (Ev.now _)
  · subst e
    dsimp only
    have hu := undR_len p a
    have hc := canR_len (undR p a) o []
    have ha : a ∈ undR p a := by
      have h_ := undR_char a h1 a.toNat (by omega)
      rw [Int.toNat_of_nonneg h2] at h_
      exact h_.2 (.inl rfl)
    refine Ev_ifpos rfl ?_
    refine Ev.bind (implUnder_in p o a h1 ⟨h2, h3⟩) ?_
    refine Ev_ifpos rfl ?_
    refine Ev.bind (sameInts_self _ (by simp at hc; omega)) ?_
    simp only [if_true]
    refine Ev.bind (lawWithin_ev (undR p a) a (by omega)) ?_
    rw [bP_pos ha]
    refine Ev.step (fun _ => rfl) ?_
    simp only [laws_FnOff.j0, Bool.not_true, if_neg (show ¬ (false = true) by decide)]
    exact FnOff_l p o a h1 ⟨h2, h3⟩ p.length 0 (by omega)
end Go.Proofs.Ytghmhekjdjdleaa.Pure
