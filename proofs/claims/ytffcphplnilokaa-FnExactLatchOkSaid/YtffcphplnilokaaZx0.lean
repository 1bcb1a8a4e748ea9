/- Parts of the proofs that Go functions come to just the answers of Lean functions; conditions: those of each theorem. -/
import Derived.Test.YtffcphplnilokaaProg
import Derived.Below
import Derived.Deep.Draws
import Derived.Deep.AppendLies
import Derived.Maps.AppendAt
import Derived.OwnWalk
import Derived.Laws.BytesArg
import Derived.Laws.MakeOwn
import Derived.Laws.OwnMore
import Derived.Deep.OwnRows
import Derived.Tactics
import Derived.Lib.ConvBytes
import Derived.Laws.Slices
import Derived.WalkKit
import Derived.KernelRfl
import Derived.RowKit3
import Derived.Deep.LoopGhost
import Derived.Deep.QuietTactic
import Derived.BigQuiet
import Derived.WideLaws
import Derived.Deep.DeepCutAuto
import Derived.Deep.CutBlock
import Derived.Deep.RegionHeld3
import Derived.Laws.Rows
import Derived.Lib.AppendStr
import Derived.ArgAppend
import Derived.Laws.IdiomCopy
import Derived.OrdersHeld
import Derived.Laws.BitsLemmas
import Derived.RowKit
import Derived.WalkSpells
import Derived.Lib.LazyBuf
import Derived.Lib.Bytealg
import Derived.Test.YtffcphplnilokaaWWords
import Derived.Test.YtffcphplnilokaaWLast
import Derived.Test.YtffcphplnilokaaWTab
import Derived.Test.YtffcphplnilokaaWApart
import Derived.Test.YtffcphplnilokaaWArr
import Derived.Test.YtffcphplnilokaaWZeros
import Derived.Test.YtffcphplnilokaaWFoot
import Derived.Test.YtffcphplnilokaaWKept
import Derived.Test.YtffcphplnilokaaWShare
import Derived.Test.YtffcphplnilokaaWN
import Derived.Laws.StructEq
import Derived.Test.YtffcphplnilokaaWRepsOne
import Derived.Test.YtffcphplnilokaaWGuard
import Derived.Test.YtffcphplnilokaaWMore
import Derived.Test.YtffcphplnilokaaV
import Derived.Test.YtffcphplnilokaaX
namespace Go.Proofs.Ytffcphplnilokaa.Z
open Go.RowKit Go.Proofs.YtffcphplnilokaaW.PrintWords Go.Proofs.YtffcphplnilokaaW.PrintLast Go.Proofs.YtffcphplnilokaaW.PrintMore
attribute [local go_sem] max2_int min2_int max_two min_two max_three min_three max_four min_four   -- for this text's walks alone
set_option linter.unusedVariables false
set_option linter.unusedSimpArgs false
def errW : Option Int → Value
  | none => .nilIface
  | some c => .iface 0 (.int .i64 c)
theorem errW_none : errW none = .nilIface := rfl
theorem errW_some (c : Int) : errW (some c) = .iface 0 (.int .i64 c) := rfl
theorem info3 : (Try.prog.info? 3).map (fun i => (i.zero, i.size, i.bytes)) = some (some (.int .i64 0), 1, 8) := by kernel_rfl
end Go.Proofs.Ytffcphplnilokaa.Z
