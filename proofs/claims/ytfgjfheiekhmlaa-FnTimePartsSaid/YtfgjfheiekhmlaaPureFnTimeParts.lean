/- The law FnTimeParts, as a statement on numbers and lists: time that goes by in parts does what it does at once. Conditions: those of the statement. -/
import Derived.Test.YtfgjfheiekhmlaaQFnTimeParts
import Derived.Test.YtfgjfheiekhmlaaStatFnTimeParts
namespace Go.Proofs.Ytfgjfheiekhmlaa.Pure
open Go.RowKit Go.Proofs.Ytfgjfheiekhmlaa.Z Go.Proofs.YtfgjfheiekhmlaaW.PrintWords Go.Proofs.YtfgjfheiekhmlaaW.PrintLast Go.Proofs.Ytfgjfheiekhmlaa.Q
set_option linter.unusedVariables false
set_option linter.unusedSimpArgs false
theorem FnTimeParts : laws_FnTimeParts.Pure := by
  intro l0 h0 hw0
  exact Ev.rounds (g := fun k => laws_FnTimeParts.f k l0) (parts_ev l0 hw0)
end Go.Proofs.Ytfgjfheiekhmlaa.Pure
