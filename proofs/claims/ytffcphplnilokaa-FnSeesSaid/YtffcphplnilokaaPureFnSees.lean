/- The law FnSees, as a statement on numbers and lists: who watches a cell sees what was put into it. Conditions: those of the statement. -/
import Derived.Test.YtffcphplnilokaaQFnSees
import Derived.Test.YtffcphplnilokaaStatFnSees
namespace Go.Proofs.Ytffcphplnilokaa.Pure
open Go.RowKit Go.Proofs.Ytffcphplnilokaa.Z Go.Proofs.YtffcphplnilokaaW.PrintWords Go.Proofs.YtffcphplnilokaaW.PrintLast Go.Proofs.Ytffcphplnilokaa.Q
set_option linter.unusedVariables false
set_option linter.unusedSimpArgs false
theorem FnSees : laws_FnSees.Pure := by
  intro l0 h0 hw0
  exact Ev.rounds (g := fun k => laws_FnSees.f k l0) (sees_ev l0 hw0)
end Go.Proofs.Ytffcphplnilokaa.Pure
