/- The law FnExactMsgText, as a statement on numbers and lists: a message's text is told alike. Conditions: those of the statement. -/
import Derived.Test.YtalehmhjddnmoaaQFnExactMsgText
import Derived.Test.YtalehmhjddnmoaaStatFnExactMsgText
namespace Go.Proofs.Ytalehmhjddnmoaa.Pure
open Go.RowKit Go.Proofs.Ytalehmhjddnmoaa.Z Go.Proofs.YtalehmhjddnmoaaW.PrintWords Go.Proofs.YtalehmhjddnmoaaW.PrintLast Go.Proofs.Ytalehmhjddnmoaa.Q
set_option linter.unusedVariables false
set_option linter.unusedSimpArgs false
theorem FnExactMsgText : laws_FnExactMsgText.Pure := by
  intro a b t h0 h1 ht
  have ht' : t.size ≤ 9223372036854775807 := by unfold maxLen at ht; omega
  refine Ev.rounds (g := fun k => laws_FnExactMsgText.f k a b t) ?_
  simp only [laws_FnExactMsgText.f, szMsg_eq a b t 1048576 (by omega) (by omega) ht', Option.bind_some, toMsg_eq]
  by_cases hc : (1048576 : Int) < t.size
  · simp only [if_pos hc]
    exact Ev_ifpos (by omega) (Ev.now _)
  simp only [if_neg hc]
  refine Ev_ifneg (by omega) ?_
  refine Ev.bind (specMsgText_ev a b t (by omega)) ?_
  refine Ev.bind (implMsgText_ev a b t (by omega)) ?_
  exact Ev_ifpos rfl (Ev.now _)
end Go.Proofs.Ytalehmhjddnmoaa.Pure
