/- Words for what the printer lacks: what lies behind an own row's end may be written, cleared and cut; conditions: those of each theorem. -/
import Derived.Test.YtghmhekjdjdleaaWWords
import Derived.Test.YtghmhekjdjdleaaWLast
import Derived.Test.YtghmhekjdjdleaaWMore
import Derived.Laws.IdiomCopy
import Derived.WalkSpells
import Derived.Lib.SliceRun
namespace Go.Proofs.YtghmhekjdjdleaaW.PrintWords
open Go.RowKit Go.Proofs.YtghmhekjdjdleaaW.PrintLast Go.Proofs.YtghmhekjdjdleaaW.PrintMore
namespace Kd
section
variable {α : Type} {d : Kd α} {e base g i c : Nat} {ok : Nat → Prop} {w : World} {xs : List α}
end
end Kd
end Go.Proofs.YtghmhekjdjdleaaW.PrintWords
