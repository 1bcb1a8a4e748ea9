/- The law FnExactSetTimer, as a statement on numbers and lists: setting a timer leaves the same in the program and in the reference, and what is told shares nothing. Conditions: those of the statement. -/
import Derived.Test.YtfgjfheiekhmlaaQFnExactSetTimer
import Derived.Test.YtfgjfheiekhmlaaStatFnExactSetTimer
namespace Go.Proofs.Ytfgjfheiekhmlaa.Pure
open Go.RowKit Go.Proofs.Ytfgjfheiekhmlaa.Z Go.Proofs.YtfgjfheiekhmlaaW.PrintWords Go.Proofs.YtfgjfheiekhmlaaW.PrintLast Go.Proofs.Ytfgjfheiekhmlaa.Q
set_option linter.unusedVariables false
set_option linter.unusedSimpArgs false
theorem FnExactSetTimer : laws_FnExactSetTimer.Pure := by
  intro a0_0 l0_1 a1 a2 h0 h1 hw1 hwa hwb
  refine Ev.rounds (g := fun k => laws_FnExactSetTimer.f k a0_0 l0_1 a1 a2) ?_
  simp only [laws_FnExactSetTimer.f]
  obtain ⟨v, hv, hc⟩ := szClock_cases a0_0 l0_1 h1
  simp only [hv, Option.bind_some]
  rcases hc with hc | ⟨hc, hlen⟩
  · exact Ev_ifpos hc (Ev.now _)
  refine Ev_ifneg (by omega) ?_
  have hT := toT_length l0_1
  obtain ⟨r, hs, hi, hr1⟩ := both_SetTimer a0_0 (toT l0_1) a1 a2 (by omega)
  obtain ⟨r1, r2, r3⟩ := r
  dsimp only at hr1
  repeat (first
    | (dsimp only)
    | (with_reducible exact Ev.now _)
    | (with_reducible refine Ev.bind (toClock_ev _ _ (by first | omega | (simp only [upFrom_length, upB_length, List.length_append, List.length_cons, List.length_nil, List.length_take, List.length_drop, List.length_set]; omega) | (simp only [upFrom_length, upG_length, toG_length, List.length_append, List.length_map, List.length_cons, List.length_nil]; omega))) ?_)
    | (with_reducible refine Ev.bind (eqClock_self _ _ (by first | omega | (simp only [upFrom_length, upB_length, List.length_append, List.length_cons, List.length_nil, List.length_take, List.length_drop, List.length_set]; omega) | (simp only [upFrom_length, upG_length, toG_length, List.length_append, List.length_map, List.length_cons, List.length_nil]; omega))) ?_)
    | (with_reducible refine Ev.bind (toIntS_ev _ (by first | omega | (simp only [upFrom_length, upB_length, List.length_append, List.length_cons, List.length_nil, List.length_take, List.length_drop, List.length_set]; omega) | (simp only [upFrom_length, upG_length, toG_length, List.length_append, List.length_map, List.length_cons, List.length_nil]; omega))) ?_)
    | (with_reducible refine Ev.bind (eqIntS_self _ (by first | omega | (simp only [upFrom_length, upB_length, List.length_append, List.length_cons, List.length_nil, List.length_take, List.length_drop, List.length_set]; omega) | (simp only [upFrom_length, upG_length, toG_length, List.length_append, List.length_map, List.length_cons, List.length_nil]; omega))) ?_)
    | (with_reducible refine Ev.bind (markIntS_ev _ _ (by first | omega | (simp only [upFrom_length, upB_length, List.length_append, List.length_cons, List.length_nil, List.length_take, List.length_drop, List.length_set]; omega) | (simp only [upFrom_length, upG_length, toG_length, List.length_append, List.length_map, List.length_cons, List.length_nil]; omega)) (by first | omega | (simp only [upFrom_length, upB_length, List.length_append, List.length_cons, List.length_nil, List.length_take, List.length_drop, List.length_set]; omega) | (simp only [upFrom_length, upG_length, toG_length, List.length_append, List.length_map, List.length_cons, List.length_nil]; omega)) (by first | omega | (simp only [upFrom_length, upB_length, List.length_append, List.length_cons, List.length_nil, List.length_take, List.length_drop, List.length_set]; omega) | (simp only [upFrom_length, upG_length, toG_length, List.length_append, List.length_map, List.length_cons, List.length_nil]; omega))) ?_)
    | (with_reducible refine Ev.bind (heldIntS_ev _ _ (by first | omega | (simp only [upFrom_length, upB_length, List.length_append, List.length_cons, List.length_nil, List.length_take, List.length_drop, List.length_set]; omega) | (simp only [upFrom_length, upG_length, toG_length, List.length_append, List.length_map, List.length_cons, List.length_nil]; omega)) (by first | omega | (simp only [upFrom_length, upB_length, List.length_append, List.length_cons, List.length_nil, List.length_take, List.length_drop, List.length_set]; omega) | (simp only [upFrom_length, upG_length, toG_length, List.length_append, List.length_map, List.length_cons, List.length_nil]; omega)) (by first | omega | (simp only [upFrom_length, upB_length, List.length_append, List.length_cons, List.length_nil, List.length_take, List.length_drop, List.length_set]; omega) | (simp only [upFrom_length, upG_length, toG_length, List.length_append, List.length_map, List.length_cons, List.length_nil]; omega))) ?_)
    | (with_reducible refine Ev.bind (markClock_ev _ _ _ (by first | omega | (simp only [upFrom_length, upB_length, List.length_append, List.length_cons, List.length_nil, List.length_take, List.length_drop, List.length_set]; omega) | (simp only [upFrom_length, upG_length, toG_length, List.length_append, List.length_map, List.length_cons, List.length_nil]; omega)) (by first | omega | (simp only [upFrom_length, upB_length, List.length_append, List.length_cons, List.length_nil, List.length_take, List.length_drop, List.length_set]; omega) | (simp only [upFrom_length, upG_length, toG_length, List.length_append, List.length_map, List.length_cons, List.length_nil]; omega)) (by first | omega | (simp only [upFrom_length, upB_length, List.length_append, List.length_cons, List.length_nil, List.length_take, List.length_drop, List.length_set]; omega) | (simp only [upFrom_length, upG_length, toG_length, List.length_append, List.length_map, List.length_cons, List.length_nil]; omega))) ?_)
    | (with_reducible refine Ev.bind (heldClock_ev _ _ _ (by first | omega | (simp only [upFrom_length, upB_length, List.length_append, List.length_cons, List.length_nil, List.length_take, List.length_drop, List.length_set]; omega) | (simp only [upFrom_length, upG_length, toG_length, List.length_append, List.length_map, List.length_cons, List.length_nil]; omega)) (by first | omega | (simp only [upFrom_length, upB_length, List.length_append, List.length_cons, List.length_nil, List.length_take, List.length_drop, List.length_set]; omega) | (simp only [upFrom_length, upG_length, toG_length, List.length_append, List.length_map, List.length_cons, List.length_nil]; omega)) (by first | omega | (simp only [upFrom_length, upB_length, List.length_append, List.length_cons, List.length_nil, List.length_take, List.length_drop, List.length_set]; omega) | (simp only [upFrom_length, upG_length, toG_length, List.length_append, List.length_map, List.length_cons, List.length_nil]; omega))) ?_)
    | (with_reducible refine Ev.bind (hs) ?_)
    | (with_reducible refine Ev.bind (hi) ?_)
    | (refine Ev_ifpos (by first | rfl | omega) ?_)
    | (refine Ev_ifneg (by first | omega | decide) ?_)
    | (refine Ev_ifneg (by simp only [bne_self_eq_false]; decide) ?_)
    | (refine Ev_ifpos (by simp) ?_)
    | (refine Ev_ifneg (by simp) ?_)
    | (refine Ev.step (fun _ => rfl) ?_; simp only [laws_FnExactSetTimer.j0])
    | (refine Ev.step (fun _ => rfl) ?_; simp only [laws_FnExactSetTimer.j1])
    | (refine Ev.step (fun _ => rfl) ?_; simp only [laws_FnExactSetTimer.j2]))
end Go.Proofs.Ytfgjfheiekhmlaa.Pure
