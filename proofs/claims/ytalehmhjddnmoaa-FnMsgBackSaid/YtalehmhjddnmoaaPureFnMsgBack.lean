/- The law FnMsgBack, as a statement on numbers and lists: a message's text is read as the message, and back. Conditions: those of the statement. -/
import Derived.Test.YtalehmhjddnmoaaQFnMsgBack
import Derived.Test.YtalehmhjddnmoaaStatFnMsgBack
namespace Go.Proofs.Ytalehmhjddnmoaa.Pure
open Go.RowKit Go.Proofs.Ytalehmhjddnmoaa.Z Go.Proofs.YtalehmhjddnmoaaW.PrintWords Go.Proofs.YtalehmhjddnmoaaW.PrintLast Go.Proofs.Ytalehmhjddnmoaa.Q
set_option linter.unusedVariables false
set_option linter.unusedSimpArgs false
theorem FnMsgBack : laws_FnMsgBack.Pure := by
  intro l0 h0 hw0
  exact Ev.rounds (g := fun k => laws_FnMsgBack.f k l0) (msgBack_ev l0)
end Go.Proofs.Ytalehmhjddnmoaa.Pure
