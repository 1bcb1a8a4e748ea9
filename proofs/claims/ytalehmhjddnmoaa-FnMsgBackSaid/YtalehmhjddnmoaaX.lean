/- Words for what the printer lacks: what lies behind an own row's end may be written, cleared and cut; conditions: those of each theorem. -/
import Derived.Test.YtalehmhjddnmoaaWWords
import Derived.Test.YtalehmhjddnmoaaWLast
import Derived.Test.YtalehmhjddnmoaaWMore
import Derived.Laws.IdiomCopy
import Derived.WalkSpells
import Derived.Lib.SliceRun
namespace Go.Proofs.YtalehmhjddnmoaaW.PrintWords
open Go.RowKit Go.Proofs.YtalehmhjddnmoaaW.PrintLast Go.Proofs.YtalehmhjddnmoaaW.PrintMore
namespace Kd
section
variable {α : Type} {d : Kd α} {e base g i c : Nat} {ok : Nat → Prop} {w : World} {xs : List α}
end
end Kd
end Go.Proofs.YtalehmhjddnmoaaW.PrintWords
