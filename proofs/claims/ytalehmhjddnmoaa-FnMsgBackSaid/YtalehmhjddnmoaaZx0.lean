/- Parts of the proofs that Go functions come to just the answers of Lean functions; conditions: those of each theorem. -/
import Derived.Test.YtalehmhjddnmoaaProg
import Derived.Below
import Derived.Deep.Draws
import Derived.Deep.AppendLies
import Derived.Maps.AppendAt
import Derived.OwnWalk
import Derived.Laws.BytesArg
import Derived.Laws.MakeOwn
import Derived.Laws.OwnMore
import Derived.Deep.OwnRows
import Derived.Tactics
import Derived.Lib.ConvBytes
import Derived.Laws.Slices
import Derived.WalkKit
import Derived.KernelRfl
import Derived.RowKit3
import Derived.Deep.LoopGhost
import Derived.Deep.QuietTactic
import Derived.BigQuiet
import Derived.WideLaws
import Derived.Deep.DeepCutAuto
import Derived.Deep.CutBlock
import Derived.Deep.RegionHeld3
import Derived.Laws.Rows
import Derived.Lib.AppendStr
import Derived.ArgAppend
import Derived.Laws.IdiomCopy
import Derived.OrdersHeld
import Derived.Laws.BitsLemmas
import Derived.RowKit
import Derived.WalkSpells
import Derived.Lib.LazyBuf
import Derived.Lib.Bytealg
import Derived.Test.YtalehmhjddnmoaaWWords
import Derived.Test.YtalehmhjddnmoaaWLast
import Derived.Test.YtalehmhjddnmoaaWApart
import Derived.Test.YtalehmhjddnmoaaWFoot
import Derived.Test.YtalehmhjddnmoaaWKept
import Derived.Test.YtalehmhjddnmoaaWShare
import Derived.Test.YtalehmhjddnmoaaWN
import Derived.Test.YtalehmhjddnmoaaWEqStruct
import Derived.Test.YtalehmhjddnmoaaWRepsOne
import Derived.Test.YtalehmhjddnmoaaWGuard
import Derived.Test.YtalehmhjddnmoaaWMore
import Derived.Test.YtalehmhjddnmoaaV
import Derived.Test.YtalehmhjddnmoaaX
namespace Go.Proofs.Ytalehmhjddnmoaa.Z
open Go.RowKit Go.Proofs.YtalehmhjddnmoaaW.PrintWords Go.Proofs.YtalehmhjddnmoaaW.PrintLast Go.Proofs.YtalehmhjddnmoaaW.PrintMore
attribute [local go_sem] max2_int min2_int max_two min_two max_three min_three max_four min_four   -- for this text's walks alone
set_option linter.unusedVariables false
set_option linter.unusedSimpArgs false
def errW : Option Int → Value
  | none => .nilIface
  | some c => .iface 0 (.int .i64 c)
theorem errW_none : errW none = .nilIface := rfl
theorem errW_some (c : Int) : errW (some c) = .iface 0 (.int .i64 c) := rfl
end Go.Proofs.Ytalehmhjddnmoaa.Z
