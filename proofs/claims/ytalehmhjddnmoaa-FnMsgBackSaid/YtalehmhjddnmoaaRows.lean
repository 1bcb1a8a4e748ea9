/-
  No cell of these rows narrows 'for every input' (looked for: loops, veiled, ifaces, maps, wideKeys, modest, calm, conditions, laid).
  DERIVED. THE GIVEN ROWS OF THIS SEAT. 9 by the template 'for every input the law returns true; each argument reads behind the call as it read before'; 0 by the template 'total and deterministic' (their statements: YtalehmhjddnmoaaTotals.lean).
  GIVEN WITH THE SEED: the statements are not yours to turn. If you find one false, say at which input.
  Laid BY PROGRAM, IN A SANDBOX (cutbox-rows.mjs): the forced cells as the released guide's own fill.sh prints them over the translation f25baa50d90751c2… (all of the seat's roots in one cut). By AI agents, Wed Nov 11 2026. No macro, syntax, notation, axiom, sorry.
-/
import Derived.Test.YtalehmhjddnmoaaChecked
import GoSem.Claim
import GoSem.ClaimJoined
import GoSem.ClaimMapViews
import Derived.JoinedTies
import Derived.KernelRfl
namespace Go.Proofs.Ytalehmhjddnmoaa
/- THE CELL 'sum', in the pinned program and in every row, IS THE sha256 OF THE DUMP (.gsa) THAT YtalehmhjddnmoaaProg.lean LOADS. Nothing in Lean hashes anything: it is a label: what it is worth is what the hold of that sum in a sandbox is worth. -/
noncomputable def Try.pinned : Pinned := { name := "ytalehmhjddnmoaa", sum := "f25baa50d90751c2881d68fcbce619ba8ea97e8d712aa9126bf089932041eeea", checked := Try.checked }
namespace Rows
def none {H : Type} : Left H := { results := [], args := [] }

/-- 'laws.FnExactConstants': WHATEVER THE INPUT: true; the input reads as it did. -/
def fnExactConstantsSpec : ChangeSpec := { name := "fnExactConstants", fn := fun _ => fun
  | [] => { results := [.lit (.bool true)], args := [] }
  | _ => none }
def fnExactConstantsRow : OpenClaim := { program := "ytalehmhjddnmoaa", sum := "f25baa50d90751c2881d68fcbce619ba8ea97e8d712aa9126bf089932041eeea", func := "loop.example/g00098/laws.FnExactConstants", spec := "fnExactConstants", apart := false }
def FnExactConstantsSaid : Prop := fnExactConstantsRow.holds Try.pinned (OpenSpec.ofChange fnExactConstantsSpec)

/-- ITS FALSE NEIGHBOUR: 'it returns false'. Refute it at one input. -/
def fnExactConstantsWrong : ChangeSpec := { name := "fnExactConstants", fn := fun _ => fun
  | [] => { results := [.lit (.bool false)], args := [] }
  | _ => none }
def FnExactConstantsWrongFalsely : Prop := fnExactConstantsRow.holds Try.pinned (OpenSpec.ofChange fnExactConstantsWrong)

/-- 'laws.FnExactMsgOk': WHATEVER THE INPUT: true; the input reads as it did. -/
def fnExactMsgOkSpec : ChangeSpec := { name := "fnExactMsgOk", fn := fun _ => fun
  | [d] => { results := [.lit (.bool true)], args := [d] }
  | _ => none }
def fnExactMsgOkRow : OpenClaim := { program := "ytalehmhjddnmoaa", sum := "f25baa50d90751c2881d68fcbce619ba8ea97e8d712aa9126bf089932041eeea", func := "loop.example/g00098/laws.FnExactMsgOk", spec := "fnExactMsgOk", apart := false }
def FnExactMsgOkSaid : Prop := fnExactMsgOkRow.holds Try.pinned (OpenSpec.ofChange fnExactMsgOkSpec)

/-- ITS FALSE NEIGHBOUR: 'it returns false'. Refute it at one input. -/
def fnExactMsgOkWrong : ChangeSpec := { name := "fnExactMsgOk", fn := fun _ => fun
  | [d] => { results := [.lit (.bool false)], args := [d] }
  | _ => none }
def FnExactMsgOkWrongFalsely : Prop := fnExactMsgOkRow.holds Try.pinned (OpenSpec.ofChange fnExactMsgOkWrong)

/-- 'laws.FnExactMsgText': WHATEVER THE INPUT: true; the input reads as it did. -/
def fnExactMsgTextSpec : ChangeSpec := { name := "fnExactMsgText", fn := fun _ => fun
  | [d] => { results := [.lit (.bool true)], args := [d] }
  | _ => none }
def fnExactMsgTextRow : OpenClaim := { program := "ytalehmhjddnmoaa", sum := "f25baa50d90751c2881d68fcbce619ba8ea97e8d712aa9126bf089932041eeea", func := "loop.example/g00098/laws.FnExactMsgText", spec := "fnExactMsgText", recurses := true, apart := false }
def FnExactMsgTextSaid : Prop := fnExactMsgTextRow.holds Try.pinned (OpenSpec.ofChange fnExactMsgTextSpec)

/-- ITS FALSE NEIGHBOUR: 'it returns false'. Refute it at one input. -/
def fnExactMsgTextWrong : ChangeSpec := { name := "fnExactMsgText", fn := fun _ => fun
  | [d] => { results := [.lit (.bool false)], args := [d] }
  | _ => none }
def FnExactMsgTextWrongFalsely : Prop := fnExactMsgTextRow.holds Try.pinned (OpenSpec.ofChange fnExactMsgTextWrong)

/-- 'laws.FnExactMsgLess': WHATEVER THE INPUT: true; the input reads as it did. -/
def fnExactMsgLessSpec : ChangeSpec := { name := "fnExactMsgLess", fn := fun _ => fun
  | [d1, d2] => { results := [.lit (.bool true)], args := [d1, d2] }
  | _ => none }
def fnExactMsgLessRow : OpenClaim := { program := "ytalehmhjddnmoaa", sum := "f25baa50d90751c2881d68fcbce619ba8ea97e8d712aa9126bf089932041eeea", func := "loop.example/g00098/laws.FnExactMsgLess", spec := "fnExactMsgLess", inPlace := ["internal/bytealg.abigen_runtime_cmpstring"], apart := false }
def FnExactMsgLessSaid : Prop := fnExactMsgLessRow.holds Try.pinned (OpenSpec.ofChange fnExactMsgLessSpec)

/-- ITS FALSE NEIGHBOUR: 'it returns false'. Refute it at one input. -/
def fnExactMsgLessWrong : ChangeSpec := { name := "fnExactMsgLess", fn := fun _ => fun
  | [d1, d2] => { results := [.lit (.bool false)], args := [d1, d2] }
  | _ => none }
def FnExactMsgLessWrongFalsely : Prop := fnExactMsgLessRow.holds Try.pinned (OpenSpec.ofChange fnExactMsgLessWrong)

/-- 'laws.FnExactReadMsg': WHATEVER THE INPUT: true; the input reads as it did. -/
def fnExactReadMsgSpec : ChangeSpec := { name := "fnExactReadMsg", fn := fun _ => fun
  | [d] => { results := [.lit (.bool true)], args := [d] }
  | _ => none }
def fnExactReadMsgRow : OpenClaim := { program := "ytalehmhjddnmoaa", sum := "f25baa50d90751c2881d68fcbce619ba8ea97e8d712aa9126bf089932041eeea", func := "loop.example/g00098/laws.FnExactReadMsg", spec := "fnExactReadMsg", recurses := true, apart := false }
def FnExactReadMsgSaid : Prop := fnExactReadMsgRow.holds Try.pinned (OpenSpec.ofChange fnExactReadMsgSpec)

/-- ITS FALSE NEIGHBOUR: 'it returns false'. Refute it at one input. -/
def fnExactReadMsgWrong : ChangeSpec := { name := "fnExactReadMsg", fn := fun _ => fun
  | [d] => { results := [.lit (.bool false)], args := [d] }
  | _ => none }
def FnExactReadMsgWrongFalsely : Prop := fnExactReadMsgRow.holds Try.pinned (OpenSpec.ofChange fnExactReadMsgWrong)

/-- 'laws.FnOrder': WHATEVER THE INPUT: true; the input reads as it did. -/
def fnOrderSpec : ChangeSpec := { name := "fnOrder", fn := fun _ => fun
  | [d] => { results := [.lit (.bool true)], args := [d] }
  | _ => none }
def fnOrderRow : OpenClaim := { program := "ytalehmhjddnmoaa", sum := "f25baa50d90751c2881d68fcbce619ba8ea97e8d712aa9126bf089932041eeea", func := "loop.example/g00098/laws.FnOrder", spec := "fnOrder", inPlace := ["internal/bytealg.abigen_runtime_cmpstring"], apart := false }
def FnOrderSaid : Prop := fnOrderRow.holds Try.pinned (OpenSpec.ofChange fnOrderSpec)

/-- ITS FALSE NEIGHBOUR: 'it returns false'. Refute it at one input. -/
def fnOrderWrong : ChangeSpec := { name := "fnOrder", fn := fun _ => fun
  | [d] => { results := [.lit (.bool false)], args := [d] }
  | _ => none }
def FnOrderWrongFalsely : Prop := fnOrderRow.holds Try.pinned (OpenSpec.ofChange fnOrderWrong)

/-- 'laws.FnExactChanged': WHATEVER THE INPUT: true; the input reads as it did. -/
def fnExactChangedSpec : ChangeSpec := { name := "fnExactChanged", fn := fun _ => fun
  | [d1, d2] => { results := [.lit (.bool true)], args := [d1, d2] }
  | _ => none }
def fnExactChangedRow : OpenClaim := { program := "ytalehmhjddnmoaa", sum := "f25baa50d90751c2881d68fcbce619ba8ea97e8d712aa9126bf089932041eeea", func := "loop.example/g00098/laws.FnExactChanged", spec := "fnExactChanged", inPlace := ["internal/bytealg.abigen_runtime_cmpstring"], apart := false }
def FnExactChangedSaid : Prop := fnExactChangedRow.holds Try.pinned (OpenSpec.ofChange fnExactChangedSpec)

/-- ITS FALSE NEIGHBOUR: 'it returns false'. Refute it at one input. -/
def fnExactChangedWrong : ChangeSpec := { name := "fnExactChanged", fn := fun _ => fun
  | [d1, d2] => { results := [.lit (.bool false)], args := [d1, d2] }
  | _ => none }
def FnExactChangedWrongFalsely : Prop := fnExactChangedRow.holds Try.pinned (OpenSpec.ofChange fnExactChangedWrong)

/-- 'laws.FnMsgBack': WHATEVER THE INPUT: true; the input reads as it did. -/
def fnMsgBackSpec : ChangeSpec := { name := "fnMsgBack", fn := fun _ => fun
  | [d] => { results := [.lit (.bool true)], args := [d] }
  | _ => none }
def fnMsgBackRow : OpenClaim := { program := "ytalehmhjddnmoaa", sum := "f25baa50d90751c2881d68fcbce619ba8ea97e8d712aa9126bf089932041eeea", func := "loop.example/g00098/laws.FnMsgBack", spec := "fnMsgBack", recurses := true, apart := false }
def FnMsgBackSaid : Prop := fnMsgBackRow.holds Try.pinned (OpenSpec.ofChange fnMsgBackSpec)

/-- ITS FALSE NEIGHBOUR: 'it returns false'. Refute it at one input. -/
def fnMsgBackWrong : ChangeSpec := { name := "fnMsgBack", fn := fun _ => fun
  | [d] => { results := [.lit (.bool false)], args := [d] }
  | _ => none }
def FnMsgBackWrongFalsely : Prop := fnMsgBackRow.holds Try.pinned (OpenSpec.ofChange fnMsgBackWrong)

/-- 'laws.FnChanges': WHATEVER THE INPUT: true; the input reads as it did. -/
def fnChangesSpec : ChangeSpec := { name := "fnChanges", fn := fun _ => fun
  | [d] => { results := [.lit (.bool true)], args := [d] }
  | _ => none }
def fnChangesRow : OpenClaim := { program := "ytalehmhjddnmoaa", sum := "f25baa50d90751c2881d68fcbce619ba8ea97e8d712aa9126bf089932041eeea", func := "loop.example/g00098/laws.FnChanges", spec := "fnChanges", inPlace := ["internal/bytealg.abigen_runtime_cmpstring"], apart := false }
def FnChangesSaid : Prop := fnChangesRow.holds Try.pinned (OpenSpec.ofChange fnChangesSpec)

/-- ITS FALSE NEIGHBOUR: 'it returns false'. Refute it at one input. -/
def fnChangesWrong : ChangeSpec := { name := "fnChanges", fn := fun _ => fun
  | [d] => { results := [.lit (.bool false)], args := [d] }
  | _ => none }
def FnChangesWrongFalsely : Prop := fnChangesRow.holds Try.pinned (OpenSpec.ofChange fnChangesWrong)

/- THE SECOND FORM. 'bulk': how many values and letters a reading holds, each counted each time it is reached (what is shared counts as often as it is met; a slice's spare places count too). A statement '..UptoSaid' is the law's where the arguments, and the package variables that the reading takes, are together of bulk at most 1048576: NARROWER than '..Said'. Prove '..Said' where nothing that the law and all that it calls make is longer than what came in: it says more and counts as full. Else prove '..UptoSaid'. A law counts once. -/
mutual
def uptoBulk {H : Type} : DataW H → Nat
  | .lit (.string bytes) => bytes.length + 1
  | .lit _ => 1
  | .nil => 1
  | .ptr d => uptoBulk d + 1
  | .slice elems spare => uptoBulkAll elems + uptoBulkAll spare + 1
  | .agg parts => uptoBulkAll parts + 1
  | .iface _ d => uptoBulk d + 1
  | .map entries => uptoBulkEntries entries + 1
  | .held _ => 1
def uptoBulkAll {H : Type} : List (DataW H) → Nat
  | [] => 0
  | d :: r => uptoBulk d + uptoBulkAll r
def uptoBulkEntries {H : Type} : List (Lit × DataW H) → Nat
  | [] => 0
  | x :: r => uptoBulkEntry x + uptoBulkEntries r
def uptoBulkEntry {H : Type} : Lit × DataW H → Nat
  | (.string bytes, d) => bytes.length + uptoBulk d + 1
  | (_, d) => uptoBulk d + 1
 end
def uptoSmall : (H : Type) → List (DataW H) → Bool := fun _ ds => decide (uptoBulkAll ds ≤ 1048576)
def OpenSpec.upto (s : _root_.Go.ChangeSpec) : _root_.Go.OpenSpec := { _root_.Go.OpenSpec.ofChange s with cond := some uptoSmall }

/-- 'laws.FnExactConstants', WHERE WHAT IT READS IS OF BULK AT MOST 1048576: true; the input reads as it did. -/
def fnExactConstantsUptoRow : OpenClaim := { program := "ytalehmhjddnmoaa", sum := "f25baa50d90751c2881d68fcbce619ba8ea97e8d712aa9126bf089932041eeea", func := "loop.example/g00098/laws.FnExactConstants", spec := "fnExactConstants", apart := false, narrowed := true }
def FnExactConstantsUptoSaid : Prop := fnExactConstantsUptoRow.holds Try.pinned (OpenSpec.upto fnExactConstantsSpec)

/-- 'laws.FnExactMsgOk', WHERE WHAT IT READS IS OF BULK AT MOST 1048576: true; the input reads as it did. -/
def fnExactMsgOkUptoRow : OpenClaim := { program := "ytalehmhjddnmoaa", sum := "f25baa50d90751c2881d68fcbce619ba8ea97e8d712aa9126bf089932041eeea", func := "loop.example/g00098/laws.FnExactMsgOk", spec := "fnExactMsgOk", apart := false, narrowed := true }
def FnExactMsgOkUptoSaid : Prop := fnExactMsgOkUptoRow.holds Try.pinned (OpenSpec.upto fnExactMsgOkSpec)

/-- 'laws.FnExactMsgText', WHERE WHAT IT READS IS OF BULK AT MOST 1048576: true; the input reads as it did. -/
def fnExactMsgTextUptoRow : OpenClaim := { program := "ytalehmhjddnmoaa", sum := "f25baa50d90751c2881d68fcbce619ba8ea97e8d712aa9126bf089932041eeea", func := "loop.example/g00098/laws.FnExactMsgText", spec := "fnExactMsgText", recurses := true, apart := false, narrowed := true }
def FnExactMsgTextUptoSaid : Prop := fnExactMsgTextUptoRow.holds Try.pinned (OpenSpec.upto fnExactMsgTextSpec)

/-- 'laws.FnExactMsgLess', WHERE WHAT IT READS IS OF BULK AT MOST 1048576: true; the input reads as it did. -/
def fnExactMsgLessUptoRow : OpenClaim := { program := "ytalehmhjddnmoaa", sum := "f25baa50d90751c2881d68fcbce619ba8ea97e8d712aa9126bf089932041eeea", func := "loop.example/g00098/laws.FnExactMsgLess", spec := "fnExactMsgLess", inPlace := ["internal/bytealg.abigen_runtime_cmpstring"], apart := false, narrowed := true }
def FnExactMsgLessUptoSaid : Prop := fnExactMsgLessUptoRow.holds Try.pinned (OpenSpec.upto fnExactMsgLessSpec)

/-- 'laws.FnExactReadMsg', WHERE WHAT IT READS IS OF BULK AT MOST 1048576: true; the input reads as it did. -/
def fnExactReadMsgUptoRow : OpenClaim := { program := "ytalehmhjddnmoaa", sum := "f25baa50d90751c2881d68fcbce619ba8ea97e8d712aa9126bf089932041eeea", func := "loop.example/g00098/laws.FnExactReadMsg", spec := "fnExactReadMsg", recurses := true, apart := false, narrowed := true }
def FnExactReadMsgUptoSaid : Prop := fnExactReadMsgUptoRow.holds Try.pinned (OpenSpec.upto fnExactReadMsgSpec)

/-- 'laws.FnOrder', WHERE WHAT IT READS IS OF BULK AT MOST 1048576: true; the input reads as it did. -/
def fnOrderUptoRow : OpenClaim := { program := "ytalehmhjddnmoaa", sum := "f25baa50d90751c2881d68fcbce619ba8ea97e8d712aa9126bf089932041eeea", func := "loop.example/g00098/laws.FnOrder", spec := "fnOrder", inPlace := ["internal/bytealg.abigen_runtime_cmpstring"], apart := false, narrowed := true }
def FnOrderUptoSaid : Prop := fnOrderUptoRow.holds Try.pinned (OpenSpec.upto fnOrderSpec)

/-- 'laws.FnExactChanged', WHERE WHAT IT READS IS OF BULK AT MOST 1048576: true; the input reads as it did. -/
def fnExactChangedUptoRow : OpenClaim := { program := "ytalehmhjddnmoaa", sum := "f25baa50d90751c2881d68fcbce619ba8ea97e8d712aa9126bf089932041eeea", func := "loop.example/g00098/laws.FnExactChanged", spec := "fnExactChanged", inPlace := ["internal/bytealg.abigen_runtime_cmpstring"], apart := false, narrowed := true }
def FnExactChangedUptoSaid : Prop := fnExactChangedUptoRow.holds Try.pinned (OpenSpec.upto fnExactChangedSpec)

/-- 'laws.FnMsgBack', WHERE WHAT IT READS IS OF BULK AT MOST 1048576: true; the input reads as it did. -/
def fnMsgBackUptoRow : OpenClaim := { program := "ytalehmhjddnmoaa", sum := "f25baa50d90751c2881d68fcbce619ba8ea97e8d712aa9126bf089932041eeea", func := "loop.example/g00098/laws.FnMsgBack", spec := "fnMsgBack", recurses := true, apart := false, narrowed := true }
def FnMsgBackUptoSaid : Prop := fnMsgBackUptoRow.holds Try.pinned (OpenSpec.upto fnMsgBackSpec)

/-- 'laws.FnChanges', WHERE WHAT IT READS IS OF BULK AT MOST 1048576: true; the input reads as it did. -/
def fnChangesUptoRow : OpenClaim := { program := "ytalehmhjddnmoaa", sum := "f25baa50d90751c2881d68fcbce619ba8ea97e8d712aa9126bf089932041eeea", func := "loop.example/g00098/laws.FnChanges", spec := "fnChanges", inPlace := ["internal/bytealg.abigen_runtime_cmpstring"], apart := false, narrowed := true }
def FnChangesUptoSaid : Prop := fnChangesUptoRow.holds Try.pinned (OpenSpec.upto fnChangesSpec)

end Rows
end Go.Proofs.Ytalehmhjddnmoaa
