/- The law FnAuto, as a statement on numbers and lists: what is raised is taken, held back or told. Conditions: those of the statement. -/
import Derived.Test.YtdagpmnadapbjaaQFnAuto
import Derived.Test.YtdagpmnadapbjaaStatFnAuto
namespace Go.Proofs.Ytdagpmnadapbjaa.Pure
open Go.RowKit Go.Proofs.Ytdagpmnadapbjaa.Z Go.Proofs.YtdagpmnadapbjaaW.PrintWords Go.Proofs.YtdagpmnadapbjaaW.PrintLast Go.Proofs.Ytdagpmnadapbjaa.Q
set_option linter.unusedVariables false
set_option linter.unusedSimpArgs false
theorem FnAuto : laws_FnAuto.Pure := by
  intro l0 h0 hw0
  exact Ev.rounds (g := fun k => laws_FnAuto.f k l0) (auto_ev l0 hw0)
end Go.Proofs.Ytdagpmnadapbjaa.Pure
