/- The law FnExactMsgLess, as a statement on numbers and lists: the program's and the reference's order of messages are one. Conditions: those of the statement. -/
import Derived.Test.YtalehmhjddnmoaaQFnExactMsgLess
import Derived.Test.YtalehmhjddnmoaaStatFnExactMsgLess
namespace Go.Proofs.Ytalehmhjddnmoaa.Pure
open Go.RowKit Go.Proofs.Ytalehmhjddnmoaa.Z Go.Proofs.YtalehmhjddnmoaaW.PrintWords Go.Proofs.YtalehmhjddnmoaaW.PrintLast Go.Proofs.Ytalehmhjddnmoaa.Q
set_option linter.unusedVariables false
set_option linter.unusedSimpArgs false
theorem FnExactMsgLess : laws_FnExactMsgLess.Pure := by
  intro a b t a' b' t' h0 h1 ht h2 h3 ht'
  have g0 : t.size ≤ 9223372036854775807 := by unfold maxLen at ht; omega
  have g1 : t'.size ≤ 9223372036854775807 := by unfold maxLen at ht'; omega
  refine Ev.rounds (g := fun k => laws_FnExactMsgLess.f k a b t a' b' t') ?_
  simp only [laws_FnExactMsgLess.f, szMsg_eq a b t 1048576 (by omega) (by omega) g0, Option.bind_some]
  by_cases hc : (1048576 : Int) < t.size
  · simp only [if_pos hc]
    exact Ev_ifpos (by omega) (Ev.now _)
  simp only [if_neg hc]
  refine Ev_ifneg (by omega) ?_
  simp only [szMsg_eq a' b' t' (1048576 - t.size) (by omega) (by omega) g1, Option.bind_some]
  by_cases hd : (1048576 : Int) - t.size < t'.size
  · simp only [if_pos hd]
    exact Ev_ifpos (by omega) (Ev.now _)
  simp only [if_neg hd]
  refine Ev_ifneg (by omega) ?_
  repeat (first
    | (dsimp only)
    | (with_reducible exact Ev.now _)
    | (with_reducible refine Ev.bind (specMsgLess_ev _ _ _ _ _ _ (by first | omega | (simp only [upFrom_length, upB_length, List.length_append, List.length_cons, List.length_nil, List.length_take, List.length_drop, List.length_set]; omega) | (simp only [upFrom_length, upG_length, toG_length, List.length_append, List.length_map, List.length_cons, List.length_nil]; omega)) (by first | omega | (simp only [upFrom_length, upB_length, List.length_append, List.length_cons, List.length_nil, List.length_take, List.length_drop, List.length_set]; omega) | (simp only [upFrom_length, upG_length, toG_length, List.length_append, List.length_map, List.length_cons, List.length_nil]; omega))) ?_)
    | (with_reducible refine Ev.bind (implMsgLess_ev _ _ _ _ _ _ (by first | omega | (simp only [upFrom_length, upB_length, List.length_append, List.length_cons, List.length_nil, List.length_take, List.length_drop, List.length_set]; omega) | (simp only [upFrom_length, upG_length, toG_length, List.length_append, List.length_map, List.length_cons, List.length_nil]; omega)) (by first | omega | (simp only [upFrom_length, upB_length, List.length_append, List.length_cons, List.length_nil, List.length_take, List.length_drop, List.length_set]; omega) | (simp only [upFrom_length, upG_length, toG_length, List.length_append, List.length_map, List.length_cons, List.length_nil]; omega))) ?_)
    | (with_reducible refine Ev_some (toMsg_eq _ _ _) ?_)
    | (with_reducible refine Ev_some (eqMsg_self _ _ _) ?_)
    | (refine Ev_ifpos (by first | rfl | omega) ?_)
    | (refine Ev_ifneg (by first | omega | decide) ?_)
    | (refine Ev_ifneg (by simp only [bne_self_eq_false]; decide) ?_)
    | (refine Ev_ifpos (by simp) ?_)
    | (refine Ev_ifneg (by simp) ?_))
end Go.Proofs.Ytalehmhjddnmoaa.Pure
