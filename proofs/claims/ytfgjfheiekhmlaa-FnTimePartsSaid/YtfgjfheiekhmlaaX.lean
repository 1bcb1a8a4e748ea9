import Derived.Test.YtfgjfheiekhmlaaWWords
import Derived.Test.YtfgjfheiekhmlaaWLast
import Derived.Test.YtfgjfheiekhmlaaWMore
import Derived.Laws.IdiomCopy
import Derived.WalkSpells
import Derived.Lib.SliceRun
namespace Go.Proofs.YtfgjfheiekhmlaaW.PrintWords
open Go.RowKit Go.Proofs.YtfgjfheiekhmlaaW.PrintLast Go.Proofs.YtfgjfheiekhmlaaW.PrintMore
namespace Kd
section
variable {α : Type} {d : Kd α} {e base g i c : Nat} {ok : Nat → Prop} {w : World} {xs : List α}
end
end Kd
end Go.Proofs.YtfgjfheiekhmlaaW.PrintWords
