/- The law FnExactUnwatch, as a statement on numbers and lists: leaving a cell tells the same in the program and in the reference, and what is told shares nothing. Conditions: those of the statement. -/
import Derived.Test.YtffcphplnilokaaQFnExactUnwatch
import Derived.Test.YtffcphplnilokaaStatFnExactUnwatch
namespace Go.Proofs.Ytffcphplnilokaa.Pure
open Go.RowKit Go.Proofs.Ytffcphplnilokaa.Z Go.Proofs.YtffcphplnilokaaW.PrintWords Go.Proofs.YtffcphplnilokaaW.PrintLast Go.Proofs.Ytffcphplnilokaa.Q
set_option linter.unusedVariables false
set_option linter.unusedSimpArgs false
theorem FnExactUnwatch : laws_FnExactUnwatch.Pure := by
  intro a0_0 a0_1 a0_2 a0_3 a0_4 l0_5 l0_6 a1 h0 h1 ht h3 h5 hw5 h6 hw6 hwa
  have ht' : a0_2.size ≤ 9223372036854775807 := by unfold maxLen at ht; omega
  refine Ev.rounds (g := fun k => laws_FnExactUnwatch.f k a0_0 a0_1 a0_2 a0_3 a0_4 l0_5 l0_6 a1) ?_
  simp only [laws_FnExactUnwatch.f]
  obtain ⟨v, hv, hc⟩ := szCell_cases a0_0 a0_1 a0_2 a0_3 a0_4 l0_5 l0_6 ht' h5 h6
  simp only [hv, Option.bind_some]
  rcases hc with hc | ⟨hc, hlen⟩
  · exact Ev_ifpos hc (Ev.now _)
  refine Ev_ifneg (by omega) ?_
  obtain ⟨r, hs, hi, hr1, hr2⟩ := both_Unwatch a0_0 a0_1 a0_2 a0_3 a0_4 l0_5 l0_6 a1 (by omega) (by omega) (by omega)
  obtain ⟨r1, r2, r3, r4, r5, r6, r7, r8⟩ := r
  dsimp only at hr1 hr2
  repeat (first
    | (dsimp only)
    | (with_reducible exact Ev.now _)
    | (with_reducible refine Ev.bind (toCell_ev _ _ _ _ _ _ _ (by first | omega | (simp only [upFrom_length, upB_length, List.length_append, List.length_cons, List.length_nil, List.length_take, List.length_drop, List.length_set]; omega)) (by first | omega | (simp only [upFrom_length, upB_length, List.length_append, List.length_cons, List.length_nil, List.length_take, List.length_drop, List.length_set]; omega))) ?_)
    | (with_reducible refine Ev.bind (eqCell_self _ _ _ _ _ _ _ (by first | omega | (simp only [upFrom_length, upB_length, List.length_append, List.length_cons, List.length_nil, List.length_take, List.length_drop, List.length_set]; omega)) (by first | omega | (simp only [upFrom_length, upB_length, List.length_append, List.length_cons, List.length_nil, List.length_take, List.length_drop, List.length_set]; omega))) ?_)
    | (with_reducible refine Ev.bind (markCell_ev _ _ _ _ _ _ _ _ (by first | omega | (simp only [upFrom_length, upB_length, List.length_append, List.length_cons, List.length_nil, List.length_take, List.length_drop, List.length_set]; omega)) (by first | omega | (simp only [upFrom_length, upB_length, List.length_append, List.length_cons, List.length_nil, List.length_take, List.length_drop, List.length_set]; omega)) (by first | omega | (simp only [upFrom_length, upB_length, List.length_append, List.length_cons, List.length_nil, List.length_take, List.length_drop, List.length_set]; omega)) (by first | omega | (simp only [upFrom_length, upB_length, List.length_append, List.length_cons, List.length_nil, List.length_take, List.length_drop, List.length_set]; omega))) ?_)
    | (with_reducible refine Ev.bind (heldCell_ev _ _ _ _ _ _ _ _ (by first | omega | (simp only [upFrom_length, upB_length, List.length_append, List.length_cons, List.length_nil, List.length_take, List.length_drop, List.length_set]; omega)) (by first | omega | (simp only [upFrom_length, upB_length, List.length_append, List.length_cons, List.length_nil, List.length_take, List.length_drop, List.length_set]; omega)) (by first | omega | (simp only [upFrom_length, upB_length, List.length_append, List.length_cons, List.length_nil, List.length_take, List.length_drop, List.length_set]; omega)) (by first | omega | (simp only [upFrom_length, upB_length, List.length_append, List.length_cons, List.length_nil, List.length_take, List.length_drop, List.length_set]; omega))) ?_)
    | (with_reducible refine Ev.bind (toIntS_ev _ (by first | omega | (simp only [upFrom_length, upB_length, List.length_append, List.length_cons, List.length_nil, List.length_take, List.length_drop, List.length_set]; omega))) ?_)
    | (with_reducible refine Ev.bind (eqIntS_self _ (by first | omega | (simp only [upFrom_length, upB_length, List.length_append, List.length_cons, List.length_nil, List.length_take, List.length_drop, List.length_set]; omega))) ?_)
    | (with_reducible refine Ev.bind (markIntS_ev _ _ (by first | omega | (simp only [upFrom_length, upB_length, List.length_append, List.length_cons, List.length_nil, List.length_take, List.length_drop, List.length_set]; omega)) (by first | omega | (simp only [upFrom_length, upB_length, List.length_append, List.length_cons, List.length_nil, List.length_take, List.length_drop, List.length_set]; omega)) (by first | omega | (simp only [upFrom_length, upB_length, List.length_append, List.length_cons, List.length_nil, List.length_take, List.length_drop, List.length_set]; omega))) ?_)
    | (with_reducible refine Ev.bind (heldIntS_ev _ _ (by first | omega | (simp only [upFrom_length, upB_length, List.length_append, List.length_cons, List.length_nil, List.length_take, List.length_drop, List.length_set]; omega)) (by first | omega | (simp only [upFrom_length, upB_length, List.length_append, List.length_cons, List.length_nil, List.length_take, List.length_drop, List.length_set]; omega)) (by first | omega | (simp only [upFrom_length, upB_length, List.length_append, List.length_cons, List.length_nil, List.length_take, List.length_drop, List.length_set]; omega))) ?_)
    | (with_reducible refine Ev.bind (hs) ?_)
    | (with_reducible refine Ev.bind (hi) ?_)
    | (with_reducible refine Ev_some (eqMsg_self _ _ _) ?_)
    | (refine Ev_ifpos (by first | rfl | omega) ?_)
    | (refine Ev_ifneg (by first | omega | decide) ?_)
    | (refine Ev_ifneg (by simp only [bne_self_eq_false]; decide) ?_)
    | (refine Ev_ifpos (by simp) ?_)
    | (refine Ev_ifneg (by simp) ?_)
    | (refine Ev.step (fun _ => rfl) ?_; simp only [laws_FnExactUnwatch.j0])
    | (refine Ev.step (fun _ => rfl) ?_; simp only [laws_FnExactUnwatch.j1])
    | (refine Ev.step (fun _ => rfl) ?_; simp only [laws_FnExactUnwatch.j2]))
end Go.Proofs.Ytffcphplnilokaa.Pure
