/- The law FnExactTokensOk as a statement on numbers and lists; conditions: those of the statement. -/
import Derived.Test.YtghmhekjdjdleaaQK
import Derived.Test.YtghmhekjdjdleaaStatFnExactTokensOk
namespace Go.Proofs.Ytghmhekjdjdleaa.Pure
open Go.RowKit Go.Proofs.Ytghmhekjdjdleaa.Z Go.Proofs.YtghmhekjdjdleaaW.PrintWords Go.Proofs.YtghmhekjdjdleaaW.PrintLast Go.Proofs.Ytghmhekjdjdleaa.Q
set_option linter.unusedVariables false
set_option linter.unusedSimpArgs false
theorem FnExactTokensOk : laws_FnExactTokensOk.Pure := by
  intro l0_0 l0_1 h0 hw0 h1
  refine Ev.rounds (g := fun k => laws_FnExactTokensOk.f k l0_0 l0_1) ?_
  simp only [laws_FnExactTokensOk.f]
  obtain ⟨v, hv, hc⟩ := szTokens_cases l0_0 l0_1 h0 h1
  simp only [hv, Option.bind_some]
  rcases hc with hc | ⟨hc, hlen⟩
  · exact Ev_ifpos hc (Ev.now _)
  refine Ev_ifneg (by omega) ?_
  repeat (first
    | (dsimp only)
    | (with_reducible exact Ev.now _)
    | (with_reducible refine Ev.bind (toTokens_ev _ _ (by first | omega | (simp only [upFrom_length, upB_length, List.length_append, List.length_cons, List.length_nil, List.length_take, List.length_drop, List.length_set]; omega)) (by first | omega | (simp only [upFrom_length, upB_length, List.length_append, List.length_cons, List.length_nil, List.length_take, List.length_drop, List.length_set]; omega))) ?_)
    | (with_reducible refine Ev.bind (eqTokens_self _ _ (by first | omega | (simp only [upFrom_length, upB_length, List.length_append, List.length_cons, List.length_nil, List.length_take, List.length_drop, List.length_set]; omega)) (by first | omega | (simp only [upFrom_length, upB_length, List.length_append, List.length_cons, List.length_nil, List.length_take, List.length_drop, List.length_set]; omega))) ?_)
    | (with_reducible refine Ev.bind (markTokens_ev _ _ _ (by first | omega | (simp only [upFrom_length, upB_length, List.length_append, List.length_cons, List.length_nil, List.length_take, List.length_drop, List.length_set]; omega)) (by first | omega | (simp only [upFrom_length, upB_length, List.length_append, List.length_cons, List.length_nil, List.length_take, List.length_drop, List.length_set]; omega)) (by first | omega | (simp only [upFrom_length, upB_length, List.length_append, List.length_cons, List.length_nil, List.length_take, List.length_drop, List.length_set]; omega)) (by first | omega | (simp only [upFrom_length, upB_length, List.length_append, List.length_cons, List.length_nil, List.length_take, List.length_drop, List.length_set]; omega))) ?_)
    | (with_reducible refine Ev.bind (heldTokens_ev _ _ _ (by first | omega | (simp only [upFrom_length, upB_length, List.length_append, List.length_cons, List.length_nil, List.length_take, List.length_drop, List.length_set]; omega)) (by first | omega | (simp only [upFrom_length, upB_length, List.length_append, List.length_cons, List.length_nil, List.length_take, List.length_drop, List.length_set]; omega)) (by first | omega | (simp only [upFrom_length, upB_length, List.length_append, List.length_cons, List.length_nil, List.length_take, List.length_drop, List.length_set]; omega)) (by first | omega | (simp only [upFrom_length, upB_length, List.length_append, List.length_cons, List.length_nil, List.length_take, List.length_drop, List.length_set]; omega))) ?_)
    | (with_reducible refine Ev.bind (toIntS_ev _ (by first | omega | (simp only [upFrom_length, upB_length, List.length_append, List.length_cons, List.length_nil, List.length_take, List.length_drop, List.length_set]; omega))) ?_)
    | (with_reducible refine Ev.bind (eqIntS_self _ (by first | omega | (simp only [upFrom_length, upB_length, List.length_append, List.length_cons, List.length_nil, List.length_take, List.length_drop, List.length_set]; omega))) ?_)
    | (with_reducible refine Ev.bind (markIntS_ev _ _ (by first | omega | (simp only [upFrom_length, upB_length, List.length_append, List.length_cons, List.length_nil, List.length_take, List.length_drop, List.length_set]; omega)) (by first | omega | (simp only [upFrom_length, upB_length, List.length_append, List.length_cons, List.length_nil, List.length_take, List.length_drop, List.length_set]; omega)) (by first | omega | (simp only [upFrom_length, upB_length, List.length_append, List.length_cons, List.length_nil, List.length_take, List.length_drop, List.length_set]; omega))) ?_)
    | (with_reducible refine Ev.bind (heldIntS_ev _ _ (by first | omega | (simp only [upFrom_length, upB_length, List.length_append, List.length_cons, List.length_nil, List.length_take, List.length_drop, List.length_set]; omega)) (by first | omega | (simp only [upFrom_length, upB_length, List.length_append, List.length_cons, List.length_nil, List.length_take, List.length_drop, List.length_set]; omega)) (by first | omega | (simp only [upFrom_length, upB_length, List.length_append, List.length_cons, List.length_nil, List.length_take, List.length_drop, List.length_set]; omega))) ?_)
    | (with_reducible refine Ev.bind (specTok_ev _ _) ?_)
    | (with_reducible refine Ev.bind (implTok_ev _ _) ?_)
    | (refine Ev_ifpos (by first | rfl | omega) ?_)
    | (refine Ev_ifneg (by first | omega | decide) ?_)
    | (refine Ev_ifneg (by simp only [bne_self_eq_false]; decide) ?_)
    | (refine Ev_ifpos (by simp) ?_)
    | (refine Ev_ifneg (by simp) ?_))
end Go.Proofs.Ytghmhekjdjdleaa.Pure
