/- The law FnExactConstants, as a statement on numbers and lists: the program's and the reference's constants are one. Conditions: those of the statement. -/
import Derived.Test.YtalehmhjddnmoaaStatFnExactConstants
namespace Go.Proofs.Ytalehmhjddnmoaa.Pure
open Go.RowKit Go.Proofs.Ytalehmhjddnmoaa.Z Go.Proofs.YtalehmhjddnmoaaW.PrintWords Go.Proofs.YtalehmhjddnmoaaW.PrintLast
set_option linter.unusedVariables false
set_option linter.unusedSimpArgs false
theorem FnExactConstants : laws_FnExactConstants.Pure := rfl
end Go.Proofs.Ytalehmhjddnmoaa.Pure
