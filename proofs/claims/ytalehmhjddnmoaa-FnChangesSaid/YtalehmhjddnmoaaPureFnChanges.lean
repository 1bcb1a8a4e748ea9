/- The law FnChanges, as a statement on numbers and lists: changes of messages keep what is said of them. Conditions: those of the statement. -/
import Derived.Test.YtalehmhjddnmoaaQFnChanges
import Derived.Test.YtalehmhjddnmoaaStatFnChanges
namespace Go.Proofs.Ytalehmhjddnmoaa.Pure
open Go.RowKit Go.Proofs.Ytalehmhjddnmoaa.Z Go.Proofs.YtalehmhjddnmoaaW.PrintWords Go.Proofs.YtalehmhjddnmoaaW.PrintLast Go.Proofs.Ytalehmhjddnmoaa.Q
set_option linter.unusedVariables false
set_option linter.unusedSimpArgs false
theorem FnChanges : laws_FnChanges.Pure := by
  intro l0 h0 hw0
  exact Ev.rounds (g := fun k => laws_FnChanges.f k l0) (changes_ev l0)
end Go.Proofs.Ytalehmhjddnmoaa.Pure
