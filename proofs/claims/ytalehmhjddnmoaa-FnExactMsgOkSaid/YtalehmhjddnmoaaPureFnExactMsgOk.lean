/- The law FnExactMsgOk, as a statement on numbers and lists: the program's and the reference's test of a message are one. Conditions: those of the statement. -/
import Derived.Test.YtalehmhjddnmoaaQFnExactMsgOk
import Derived.Test.YtalehmhjddnmoaaStatFnExactMsgOk
namespace Go.Proofs.Ytalehmhjddnmoaa.Pure
open Go.RowKit Go.Proofs.Ytalehmhjddnmoaa.Z Go.Proofs.YtalehmhjddnmoaaW.PrintWords Go.Proofs.YtalehmhjddnmoaaW.PrintLast Go.Proofs.Ytalehmhjddnmoaa.Q
set_option linter.unusedVariables false
set_option linter.unusedSimpArgs false
theorem FnExactMsgOk : laws_FnExactMsgOk.Pure := by
  intro a b t h0 h1 ht
  have ht' : t.size ≤ 9223372036854775807 := by unfold maxLen at ht; omega
  refine Ev.rounds (g := fun k => laws_FnExactMsgOk.f k a b t) ?_
  simp only [laws_FnExactMsgOk.f, szMsg_eq a b t 1048576 (by omega) (by omega) ht', Option.bind_some]
  by_cases hc : (1048576 : Int) < t.size
  · simp only [if_pos hc]
    exact Ev_ifpos (by omega) (Ev.now _)
  simp only [if_neg hc]
  refine Ev_ifneg (by omega) ?_
  repeat (first
    | (dsimp only)
    | (with_reducible exact Ev.now _)
    | (with_reducible refine Ev.bind (specMsgOk_ev _ _ _ (by first | omega | (simp only [upFrom_length, upB_length, List.length_append, List.length_cons, List.length_nil, List.length_take, List.length_drop, List.length_set]; omega) | (simp only [upFrom_length, upG_length, toG_length, List.length_append, List.length_map, List.length_cons, List.length_nil]; omega))) ?_)
    | (with_reducible refine Ev.bind (implMsgOk_ev _ _ _ (by first | omega | (simp only [upFrom_length, upB_length, List.length_append, List.length_cons, List.length_nil, List.length_take, List.length_drop, List.length_set]; omega) | (simp only [upFrom_length, upG_length, toG_length, List.length_append, List.length_map, List.length_cons, List.length_nil]; omega))) ?_)
    | (with_reducible refine Ev_some (toMsg_eq _ _ _) ?_)
    | (with_reducible refine Ev_some (eqMsg_self _ _ _) ?_)
    | (refine Ev_ifpos (by first | rfl | omega) ?_)
    | (refine Ev_ifneg (by first | omega | decide) ?_)
    | (refine Ev_ifneg (by simp only [bne_self_eq_false]; decide) ?_)
    | (refine Ev_ifpos (by simp) ?_)
    | (refine Ev_ifneg (by simp) ?_))
end Go.Proofs.Ytalehmhjddnmoaa.Pure
