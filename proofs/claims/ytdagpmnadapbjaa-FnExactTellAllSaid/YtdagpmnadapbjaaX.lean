import Derived.Test.YtdagpmnadapbjaaWWords
import Derived.Test.YtdagpmnadapbjaaWLast
import Derived.Test.YtdagpmnadapbjaaWMore
import Derived.Laws.IdiomCopy
import Derived.WalkSpells
import Derived.Lib.SliceRun
namespace Go.Proofs.YtdagpmnadapbjaaW.PrintWords
open Go.RowKit Go.Proofs.YtdagpmnadapbjaaW.PrintLast Go.Proofs.YtdagpmnadapbjaaW.PrintMore
namespace Kd
section
variable {α : Type} {d : Kd α} {e base g i c : Nat} {ok : Nat → Prop} {w : World} {xs : List α}
end
end Kd
theorem cell_dr {w : World} {n : Nat} {a : Addr} {v : Value} (h : w.cell? a = some v) : (w.drewN n).cell? a = some v := h
end Go.Proofs.YtdagpmnadapbjaaW.PrintWords
