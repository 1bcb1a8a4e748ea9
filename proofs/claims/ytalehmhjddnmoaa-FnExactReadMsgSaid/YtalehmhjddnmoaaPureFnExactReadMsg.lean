/- The law FnExactReadMsg, as a statement on numbers and lists: a message's text is read alike. Conditions: those of the statement. -/
import Derived.Test.YtalehmhjddnmoaaQFnExactReadMsg
import Derived.Test.YtalehmhjddnmoaaStatFnExactReadMsg
namespace Go.Proofs.Ytalehmhjddnmoaa.Pure
open Go.RowKit Go.Proofs.Ytalehmhjddnmoaa.Z Go.Proofs.YtalehmhjddnmoaaW.PrintWords Go.Proofs.YtalehmhjddnmoaaW.PrintLast Go.Proofs.Ytalehmhjddnmoaa.Q
set_option linter.unusedVariables false
set_option linter.unusedSimpArgs false
theorem FnExactReadMsg : laws_FnExactReadMsg.Pure := by
  intro s ht
  refine Ev.rounds (g := fun k => laws_FnExactReadMsg.f k s) ?_
  simp only [laws_FnExactReadMsg.f]
  by_cases hc : (s.size : Int) > 1048576
  · simp only [if_pos hc]
    exact Ev.now _
  simp only [if_neg hc]
  obtain ⟨l, rfl⟩ : ∃ l, s = sB l := ⟨_, sB_of s⟩
  rw [sB_size] at hc
  refine Ev.bind (specReadMsg_ev l (by omega)) ?_
  refine Ev.bind (implReadMsg_ev l (by omega)) ?_
  simp only [eqMsg_self, Option.bind_some, if_true, bne_self_eq_false, if_neg (show ¬ (false = true) by decide)]
  exact Ev.now _
end Go.Proofs.Ytalehmhjddnmoaa.Pure
