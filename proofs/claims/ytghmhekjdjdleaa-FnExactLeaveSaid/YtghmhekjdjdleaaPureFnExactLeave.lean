/- The law FnExactLeave, as a statement on numbers and lists: leaving a line tells the same in the program and in the reference, and what is told shares nothing. Conditions: those of the statement. -/
import Derived.Test.YtghmhekjdjdleaaQFnExactLeave
import Derived.Test.YtghmhekjdjdleaaStatFnExactLeave
namespace Go.Proofs.Ytghmhekjdjdleaa.Pure
open Go.RowKit Go.Proofs.Ytghmhekjdjdleaa.Z Go.Proofs.YtghmhekjdjdleaaW.PrintWords Go.Proofs.YtghmhekjdjdleaaW.PrintLast Go.Proofs.Ytghmhekjdjdleaa.Q
set_option linter.unusedVariables false
set_option linter.unusedSimpArgs false
theorem FnExactLeave : laws_FnExactLeave.Pure := by
  intro l0 a1 hm hw hw1
  refine Ev.rounds (g := fun k => laws_FnExactLeave.f k l0 a1) ?_
  simp only [laws_FnExactLeave.f]
  by_cases hbig : (l0.length : Int) > 1048576
  · exact Ev_ifpos hbig (Ev.now _)
  refine Ev_ifneg hbig ?_
  have hl : l0.length ≤ 1048576 := by omega
  obtain ⟨r, hs, hi, hr⟩ := both_Leave l0 a1 hl
  obtain ⟨r1, r2⟩ := r
  dsimp only at hr
  repeat (first
    | (dsimp only)
    | (with_reducible exact Ev.now _)
    | (with_reducible refine Ev.bind (toIntS_ev _ (by first | omega | (simp only [upFrom_length, upB_length, List.length_append, List.length_cons, List.length_nil, List.length_take, List.length_drop, List.length_set]; omega))) ?_)
    | (with_reducible refine Ev.bind (eqIntS_self _ (by first | omega | (simp only [upFrom_length, upB_length, List.length_append, List.length_cons, List.length_nil, List.length_take, List.length_drop, List.length_set]; omega))) ?_)
    | (with_reducible refine Ev.bind (markIntS_ev _ _ (by first | omega | (simp only [upFrom_length, upB_length, List.length_append, List.length_cons, List.length_nil, List.length_take, List.length_drop, List.length_set]; omega)) (by first | omega | (simp only [upFrom_length, upB_length, List.length_append, List.length_cons, List.length_nil, List.length_take, List.length_drop, List.length_set]; omega)) (by first | omega | (simp only [upFrom_length, upB_length, List.length_append, List.length_cons, List.length_nil, List.length_take, List.length_drop, List.length_set]; omega))) ?_)
    | (with_reducible refine Ev.bind (heldIntS_ev _ _ (by first | omega | (simp only [upFrom_length, upB_length, List.length_append, List.length_cons, List.length_nil, List.length_take, List.length_drop, List.length_set]; omega)) (by first | omega | (simp only [upFrom_length, upB_length, List.length_append, List.length_cons, List.length_nil, List.length_take, List.length_drop, List.length_set]; omega)) (by first | omega | (simp only [upFrom_length, upB_length, List.length_append, List.length_cons, List.length_nil, List.length_take, List.length_drop, List.length_set]; omega))) ?_)
    | (with_reducible refine Ev.bind (hs) ?_)
    | (with_reducible refine Ev.bind (hi) ?_)
    | (refine Ev_ifpos (by first | rfl | omega) ?_)
    | (refine Ev_ifneg (by first | omega | decide) ?_)
    | (refine Ev_ifneg (by simp only [bne_self_eq_false]; decide) ?_)
    | (refine Ev_ifpos (by simp) ?_)
    | (refine Ev_ifneg (by simp) ?_)
    | (refine Ev.step (fun _ => rfl) ?_; simp only [laws_FnExactLeave.j0])
    | (refine Ev.step (fun _ => rfl) ?_; simp only [laws_FnExactLeave.j1])
    | (refine Ev.step (fun _ => rfl) ?_; simp only [laws_FnExactLeave.j2]))
end Go.Proofs.Ytghmhekjdjdleaa.Pure
