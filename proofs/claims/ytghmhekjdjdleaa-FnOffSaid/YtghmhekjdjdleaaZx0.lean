/- Parts of the proofs that Go functions come to just the answers of Lean functions; conditions: those of each theorem. -/
import Derived.Test.YtghmhekjdjdleaaProg
import Derived.Below
import Derived.Deep.Draws
import Derived.Deep.AppendLies
import Derived.Maps.AppendAt
import Derived.OwnWalk
import Derived.Laws.BytesArg
import Derived.Laws.MakeOwn
import Derived.Laws.OwnMore
import Derived.Deep.OwnRows
import Derived.Tactics
import Derived.Lib.ConvBytes
import Derived.Laws.Slices
import Derived.WalkKit
import Derived.KernelRfl
import Derived.RowKit3
import Derived.Deep.LoopGhost
import Derived.Deep.QuietTactic
import Derived.BigQuiet
import Derived.WideLaws
import Derived.Deep.DeepCutAuto
import Derived.Deep.CutBlock
import Derived.Deep.RegionHeld3
import Derived.Laws.Rows
import Derived.Lib.AppendStr
import Derived.ArgAppend
import Derived.Laws.IdiomCopy
import Derived.OrdersHeld
import Derived.Laws.BitsLemmas
import Derived.RowKit
import Derived.WalkSpells
import Derived.Lib.LazyBuf
import Derived.Test.YtghmhekjdjdleaaWWords
import Derived.Test.YtghmhekjdjdleaaWLast
import Derived.Test.YtghmhekjdjdleaaWTab
import Derived.Test.YtghmhekjdjdleaaWQPut
import Derived.Test.YtghmhekjdjdleaaWApart
import Derived.Test.YtghmhekjdjdleaaWFoot
import Derived.Test.YtghmhekjdjdleaaWKept
import Derived.Test.YtghmhekjdjdleaaWShare
import Derived.Test.YtghmhekjdjdleaaWN
import Derived.Laws.StructEq
import Derived.Test.YtghmhekjdjdleaaWRepsOne
import Derived.Test.YtghmhekjdjdleaaWGuard
import Derived.Test.YtghmhekjdjdleaaWMore
import Derived.Test.YtghmhekjdjdleaaV
import Derived.Test.YtghmhekjdjdleaaX
namespace Go.Proofs.Ytghmhekjdjdleaa.Z
open Go.RowKit Go.Proofs.YtghmhekjdjdleaaW.PrintWords Go.Proofs.YtghmhekjdjdleaaW.PrintLast Go.Proofs.YtghmhekjdjdleaaW.PrintMore
attribute [local go_sem] max2_int min2_int max_two min_two max_three min_three max_four min_four   -- for this text's walks alone
set_option linter.unusedVariables false
set_option linter.unusedSimpArgs false
def errW : Option Int → Value
  | none => .nilIface
  | some c => .iface 0 (.int .i64 c)
theorem errW_none : errW none = .nilIface := rfl
theorem errW_some (c : Int) : errW (some c) = .iface 0 (.int .i64 c) := rfl
theorem info3 : (Try.prog.info? 3).map (fun i => (i.zero, i.size, i.bytes)) = some (some (.int .i64 0), 1, 8) := by kernel_rfl
theorem info4 : (Try.prog.info? 4).map (fun i => (i.zero, i.size, i.bytes)) = some (some (.bool false), 1, 1) := by kernel_rfl
end Go.Proofs.Ytghmhekjdjdleaa.Z
