/- The law FnExactQuitLatch, as a statement on numbers and lists: quitting a latch tells the same in the program and in the reference, and what is told shares nothing. Conditions: those of the statement. -/
import Derived.Test.YtffcphplnilokaaQFnExactQuitLatch
import Derived.Test.YtffcphplnilokaaStatFnExactQuitLatch
namespace Go.Proofs.Ytffcphplnilokaa.Pure
open Go.RowKit Go.Proofs.Ytffcphplnilokaa.Z Go.Proofs.YtffcphplnilokaaW.PrintWords Go.Proofs.YtffcphplnilokaaW.PrintLast Go.Proofs.Ytffcphplnilokaa.Q
set_option linter.unusedVariables false
set_option linter.unusedSimpArgs false
theorem FnExactQuitLatch : laws_FnExactQuitLatch.Pure := by
  intro a0_0 l0_1 l0_2 a1 h0 h1 hw1 h2 hw2 hwa
  refine Ev.rounds (g := fun k => laws_FnExactQuitLatch.f k a0_0 l0_1 l0_2 a1) ?_
  simp only [laws_FnExactQuitLatch.f]
  obtain ⟨v, hv, hc⟩ := szLatch_cases a0_0 l0_1 l0_2 h1 h2
  simp only [hv, Option.bind_some]
  rcases hc with hc | ⟨hc, hlen⟩
  · exact Ev_ifpos hc (Ev.now _)
  refine Ev_ifneg (by omega) ?_
  obtain ⟨r, hs, hi, hr1, hr2⟩ := both_QuitLatch a0_0 l0_1 l0_2 a1 (by omega) (by omega)
  obtain ⟨r1, r2, r3, r4⟩ := r
  dsimp only at hr1 hr2
  repeat (first
    | (dsimp only)
    | (with_reducible exact Ev.now _)
    | (with_reducible refine Ev.bind (toLatch_ev _ _ _ (by first | omega | (simp only [upFrom_length, upB_length, List.length_append, List.length_cons, List.length_nil, List.length_take, List.length_drop, List.length_set]; omega)) (by first | omega | (simp only [upFrom_length, upB_length, List.length_append, List.length_cons, List.length_nil, List.length_take, List.length_drop, List.length_set]; omega))) ?_)
    | (with_reducible refine Ev.bind (eqLatch_self _ _ _ (by first | omega | (simp only [upFrom_length, upB_length, List.length_append, List.length_cons, List.length_nil, List.length_take, List.length_drop, List.length_set]; omega)) (by first | omega | (simp only [upFrom_length, upB_length, List.length_append, List.length_cons, List.length_nil, List.length_take, List.length_drop, List.length_set]; omega))) ?_)
    | (with_reducible refine Ev.bind (markLatch_ev _ _ _ _ (by first | omega | (simp only [upFrom_length, upB_length, List.length_append, List.length_cons, List.length_nil, List.length_take, List.length_drop, List.length_set]; omega)) (by first | omega | (simp only [upFrom_length, upB_length, List.length_append, List.length_cons, List.length_nil, List.length_take, List.length_drop, List.length_set]; omega)) (by first | omega | (simp only [upFrom_length, upB_length, List.length_append, List.length_cons, List.length_nil, List.length_take, List.length_drop, List.length_set]; omega)) (by first | omega | (simp only [upFrom_length, upB_length, List.length_append, List.length_cons, List.length_nil, List.length_take, List.length_drop, List.length_set]; omega))) ?_)
    | (with_reducible refine Ev.bind (heldLatch_ev _ _ _ _ (by first | omega | (simp only [upFrom_length, upB_length, List.length_append, List.length_cons, List.length_nil, List.length_take, List.length_drop, List.length_set]; omega)) (by first | omega | (simp only [upFrom_length, upB_length, List.length_append, List.length_cons, List.length_nil, List.length_take, List.length_drop, List.length_set]; omega)) (by first | omega | (simp only [upFrom_length, upB_length, List.length_append, List.length_cons, List.length_nil, List.length_take, List.length_drop, List.length_set]; omega)) (by first | omega | (simp only [upFrom_length, upB_length, List.length_append, List.length_cons, List.length_nil, List.length_take, List.length_drop, List.length_set]; omega))) ?_)
    | (with_reducible refine Ev.bind (toIntS_ev _ (by first | omega | (simp only [upFrom_length, upB_length, List.length_append, List.length_cons, List.length_nil, List.length_take, List.length_drop, List.length_set]; omega))) ?_)
    | (with_reducible refine Ev.bind (eqIntS_self _ (by first | omega | (simp only [upFrom_length, upB_length, List.length_append, List.length_cons, List.length_nil, List.length_take, List.length_drop, List.length_set]; omega))) ?_)
    | (with_reducible refine Ev.bind (markIntS_ev _ _ (by first | omega | (simp only [upFrom_length, upB_length, List.length_append, List.length_cons, List.length_nil, List.length_take, List.length_drop, List.length_set]; omega)) (by first | omega | (simp only [upFrom_length, upB_length, List.length_append, List.length_cons, List.length_nil, List.length_take, List.length_drop, List.length_set]; omega)) (by first | omega | (simp only [upFrom_length, upB_length, List.length_append, List.length_cons, List.length_nil, List.length_take, List.length_drop, List.length_set]; omega))) ?_)
    | (with_reducible refine Ev.bind (heldIntS_ev _ _ (by first | omega | (simp only [upFrom_length, upB_length, List.length_append, List.length_cons, List.length_nil, List.length_take, List.length_drop, List.length_set]; omega)) (by first | omega | (simp only [upFrom_length, upB_length, List.length_append, List.length_cons, List.length_nil, List.length_take, List.length_drop, List.length_set]; omega)) (by first | omega | (simp only [upFrom_length, upB_length, List.length_append, List.length_cons, List.length_nil, List.length_take, List.length_drop, List.length_set]; omega))) ?_)
    | (with_reducible refine Ev.bind (hs) ?_)
    | (with_reducible refine Ev.bind (hi) ?_)
    | (refine Ev_ifpos (by first | rfl | omega) ?_)
    | (refine Ev_ifneg (by first | omega | decide) ?_)
    | (refine Ev_ifneg (by simp only [bne_self_eq_false]; decide) ?_)
    | (refine Ev_ifpos (by simp) ?_)
    | (refine Ev_ifneg (by simp) ?_)
    | (refine Ev.step (fun _ => rfl) ?_; simp only [laws_FnExactQuitLatch.j0])
    | (refine Ev.step (fun _ => rfl) ?_; simp only [laws_FnExactQuitLatch.j1])
    | (refine Ev.step (fun _ => rfl) ?_; simp only [laws_FnExactQuitLatch.j2]))
end Go.Proofs.Ytffcphplnilokaa.Pure
