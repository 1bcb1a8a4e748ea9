/- The law FnOrder, as a statement on numbers and lists: the order of messages is an order. Conditions: those of the statement. -/
import Derived.Test.YtalehmhjddnmoaaQFnOrder
import Derived.Test.YtalehmhjddnmoaaStatFnOrder
namespace Go.Proofs.Ytalehmhjddnmoaa.Pure
open Go.RowKit Go.Proofs.Ytalehmhjddnmoaa.Z Go.Proofs.YtalehmhjddnmoaaW.PrintWords Go.Proofs.YtalehmhjddnmoaaW.PrintLast Go.Proofs.Ytalehmhjddnmoaa.Q
set_option linter.unusedVariables false
set_option linter.unusedSimpArgs false
theorem FnOrder : laws_FnOrder.Pure := by
  intro l0 h0 hw0
  exact Ev.rounds (g := fun k => laws_FnOrder.f k l0) (order_ev l0)
end Go.Proofs.Ytalehmhjddnmoaa.Pure
