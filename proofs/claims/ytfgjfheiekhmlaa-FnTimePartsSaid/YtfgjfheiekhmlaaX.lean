/- Words for what the printer lacks: what lies behind an own row's end may be written, cleared and cut; conditions: those of each theorem. -/
import Derived.Test.YtfgjfheiekhmlaaWWords
import Derived.Test.YtfgjfheiekhmlaaWLast
import Derived.Test.YtfgjfheiekhmlaaWMore
import Derived.Test.YtfgjfheiekhmlaaWTab
import Derived.Laws.IdiomCopy
import Derived.WalkSpells
import Derived.Lib.SliceRun
namespace Go.Proofs.YtfgjfheiekhmlaaW.PrintWords
open Go.RowKit Go.Proofs.YtfgjfheiekhmlaaW.PrintLast Go.Proofs.YtfgjfheiekhmlaaW.PrintMore
namespace Kd
section
variable {α : Type} {d : Kd α} {e base g i c : Nat} {ok : Nat → Prop} {w : World} {xs : List α}
theorem Q_reok {ok1 : Nat → Prop} {v : Value} (hE : d.E = []) (h : d.Q e w base ok1 v xs) (hok : ∀ k, v.ownBlock = some k → ok k) : d.Q e w base ok v xs := Q_mono (Q_tight hE h) (fun k hk => hok k hk.symm)
end
end Kd
end Go.Proofs.YtfgjfheiekhmlaaW.PrintWords
