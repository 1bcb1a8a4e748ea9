/- The law FnLatch, as a statement on numbers and lists: a latch that is counted down lets its clients go, and those alone. Conditions: those of the statement. -/
import Derived.Test.YtffcphplnilokaaQFnLatch
import Derived.Test.YtffcphplnilokaaStatFnLatch
namespace Go.Proofs.Ytffcphplnilokaa.Pure
open Go.RowKit Go.Proofs.Ytffcphplnilokaa.Z Go.Proofs.YtffcphplnilokaaW.PrintWords Go.Proofs.YtffcphplnilokaaW.PrintLast Go.Proofs.Ytffcphplnilokaa.Q
set_option linter.unusedVariables false
set_option linter.unusedSimpArgs false
theorem FnLatch : laws_FnLatch.Pure := by
  intro l0 h0 hw0
  exact Ev.rounds (g := fun k => laws_FnLatch.f k l0) (latch_ev l0 hw0)
end Go.Proofs.Ytffcphplnilokaa.Pure
