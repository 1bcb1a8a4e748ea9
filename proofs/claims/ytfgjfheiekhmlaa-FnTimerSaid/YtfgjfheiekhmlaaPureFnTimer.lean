/- The law FnTimer, as a statement on numbers and lists: a timer that is set tells its token just at its time; one that is stopped never. Conditions: those of the statement. -/
import Derived.Test.YtfgjfheiekhmlaaQFnTimer
import Derived.Test.YtfgjfheiekhmlaaStatFnTimer
namespace Go.Proofs.Ytfgjfheiekhmlaa.Pure
open Go.RowKit Go.Proofs.Ytfgjfheiekhmlaa.Z Go.Proofs.YtfgjfheiekhmlaaW.PrintWords Go.Proofs.YtfgjfheiekhmlaaW.PrintLast Go.Proofs.Ytfgjfheiekhmlaa.Q
set_option linter.unusedVariables false
set_option linter.unusedSimpArgs false
theorem FnTimer : laws_FnTimer.Pure := by
  intro l0 h0 hw0
  exact Ev.rounds (g := fun k => laws_FnTimer.f k l0) (timer_ev l0)
end Go.Proofs.Ytfgjfheiekhmlaa.Pure
