/- The law FnExactCancel, as a statement on numbers and lists: what a cancelling tells is told alike. Conditions: those of the statement. -/
import Derived.Test.YtghmhekjdjdleaaQK
import Derived.Test.YtghmhekjdjdleaaStatFnExactCancel
namespace Go.Proofs.Ytghmhekjdjdleaa.Pure
open Go.RowKit Go.Proofs.Ytghmhekjdjdleaa.Z Go.Proofs.YtghmhekjdjdleaaW.PrintWords Go.Proofs.YtghmhekjdjdleaaW.PrintLast Go.Proofs.Ytghmhekjdjdleaa.Q
set_option linter.unusedVariables false
set_option linter.unusedSimpArgs false
theorem FnExactCancel : laws_FnExactCancel.Pure := by
  intro l0_0 l0_1 a1 h0 hw0 h1 hwa
  refine Ev.rounds (g := fun k => laws_FnExactCancel.f k l0_0 l0_1 a1) ?_
  simp only [laws_FnExactCancel.f]
  obtain ⟨v, hv, hc⟩ := szTokens_cases l0_0 l0_1 h0 h1
  simp only [hv, Option.bind_some]
  rcases hc with hc | ⟨hc, hlen⟩
  · exact Ev_ifpos hc (Ev.now _)
  refine Ev_ifneg (by omega) ?_
  obtain ⟨r, hs, hi, hr1, hr2, hr3, _⟩ := both_Cancel l0_0 l0_1 a1 (by omega) (by omega)
  obtain ⟨r1, r2, r3, r4⟩ := r
  dsimp only at hr1 hr2 hr3
  repeat (first
    | (dsimp only)
    | (with_reducible exact Ev.now _)
    | (with_reducible refine Ev.bind (toTokens_ev _ _ (by first | omega | (simp only [upFrom_length, upB_length, List.length_append, List.length_cons, List.length_nil, List.length_take, List.length_drop, List.length_set]; omega)) (by first | omega | (simp only [upFrom_length, upB_length, List.length_append, List.length_cons, List.length_nil, List.length_take, List.length_drop, List.length_set]; omega))) ?_)
    | (with_reducible refine Ev.bind (eqTokens_self _ _ (by first | omega | (simp only [upFrom_length, upB_length, List.length_append, List.length_cons, List.length_nil, List.length_take, List.length_drop, List.length_set]; omega)) (by first | omega | (simp only [upFrom_length, upB_length, List.length_append, List.length_cons, List.length_nil, List.length_take, List.length_drop, List.length_set]; omega))) ?_)
    | (with_reducible refine Ev.bind (markTokens_ev _ _ _ (by first | omega | (simp only [upFrom_length, upB_length, List.length_append, List.length_cons, List.length_nil, List.length_take, List.length_drop, List.length_set]; omega)) (by first | omega | (simp only [upFrom_length, upB_length, List.length_append, List.length_cons, List.length_nil, List.length_take, List.length_drop, List.length_set]; omega)) (by first | omega | (simp only [upFrom_length, upB_length, List.length_append, List.length_cons, List.length_nil, List.length_take, List.length_drop, List.length_set]; omega)) (by first | omega | (simp only [upFrom_length, upB_length, List.length_append, List.length_cons, List.length_nil, List.length_take, List.length_drop, List.length_set]; omega))) ?_)
    | (with_reducible refine Ev.bind (heldTokens_ev _ _ _ (by first | omega | (simp only [upFrom_length, upB_length, List.length_append, List.length_cons, List.length_nil, List.length_take, List.length_drop, List.length_set]; omega)) (by first | omega | (simp only [upFrom_length, upB_length, List.length_append, List.length_cons, List.length_nil, List.length_take, List.length_drop, List.length_set]; omega)) (by first | omega | (simp only [upFrom_length, upB_length, List.length_append, List.length_cons, List.length_nil, List.length_take, List.length_drop, List.length_set]; omega)) (by first | omega | (simp only [upFrom_length, upB_length, List.length_append, List.length_cons, List.length_nil, List.length_take, List.length_drop, List.length_set]; omega))) ?_)
    | (with_reducible refine Ev.bind (toIntS_ev _ (by first | omega | (simp only [upFrom_length, upB_length, List.length_append, List.length_cons, List.length_nil, List.length_take, List.length_drop, List.length_set]; omega))) ?_)
    | (with_reducible refine Ev.bind (eqIntS_self _ (by first | omega | (simp only [upFrom_length, upB_length, List.length_append, List.length_cons, List.length_nil, List.length_take, List.length_drop, List.length_set]; omega))) ?_)
    | (with_reducible refine Ev.bind (markIntS_ev _ _ (by first | omega | (simp only [upFrom_length, upB_length, List.length_append, List.length_cons, List.length_nil, List.length_take, List.length_drop, List.length_set]; omega)) (by first | omega | (simp only [upFrom_length, upB_length, List.length_append, List.length_cons, List.length_nil, List.length_take, List.length_drop, List.length_set]; omega)) (by first | omega | (simp only [upFrom_length, upB_length, List.length_append, List.length_cons, List.length_nil, List.length_take, List.length_drop, List.length_set]; omega))) ?_)
    | (with_reducible refine Ev.bind (heldIntS_ev _ _ (by first | omega | (simp only [upFrom_length, upB_length, List.length_append, List.length_cons, List.length_nil, List.length_take, List.length_drop, List.length_set]; omega)) (by first | omega | (simp only [upFrom_length, upB_length, List.length_append, List.length_cons, List.length_nil, List.length_take, List.length_drop, List.length_set]; omega)) (by first | omega | (simp only [upFrom_length, upB_length, List.length_append, List.length_cons, List.length_nil, List.length_take, List.length_drop, List.length_set]; omega))) ?_)
    | (with_reducible refine Ev.bind (hs) ?_)
    | (with_reducible refine Ev.bind (hi) ?_)
    | (refine Ev_ifpos (by first | rfl | omega) ?_)
    | (refine Ev_ifneg (by first | omega | decide) ?_)
    | (refine Ev_ifneg (by simp only [bne_self_eq_false]; decide) ?_)
    | (refine Ev_ifpos (by simp) ?_)
    | (refine Ev_ifneg (by simp) ?_)
    | (refine Ev.step (fun _ => rfl) ?_; simp only [laws_FnExactCancel.j0])
    | (refine Ev.step (fun _ => rfl) ?_; simp only [laws_FnExactCancel.j1])
    | (refine Ev.step (fun _ => rfl) ?_; simp only [laws_FnExactCancel.j2]))
end Go.Proofs.Ytghmhekjdjdleaa.Pure
