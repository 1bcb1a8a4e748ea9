/-
  No cell of these rows narrows 'for every input' (looked for: loops, veiled, ifaces, maps, wideKeys, modest, calm, conditions, laid).
  DERIVED. THE GIVEN ROWS OF THIS SEAT. 12 by the template 'for every input the law returns true; each argument reads behind the call as it read before'; 0 by the template 'total and deterministic' (their statements: YtghmhekjdjdleaaTotals.lean).
  GIVEN WITH THE SEED: the statements are not yours to turn. If you find one false, say at which input.
  Laid BY PROGRAM, IN A SANDBOX (cutbox-rows.mjs): the forced cells as the released guide's own fill.sh prints them over the translation 270e6f675ceaf151… (all of the seat's roots in one cut). By AI agents, Wed Nov 11 2026. No macro, syntax, notation, axiom, sorry.
-/
import Derived.Test.YtghmhekjdjdleaaChecked
import GoSem.Claim
import GoSem.ClaimJoined
import GoSem.ClaimMapViews
import Derived.JoinedTies
import Derived.KernelRfl
namespace Go.Proofs.Ytghmhekjdjdleaa
/- THE CELL 'sum', in the pinned program and in every row, IS THE sha256 OF THE DUMP (.gsa) THAT YtghmhekjdjdleaaProg.lean LOADS. Nothing in Lean hashes anything: it is a label: what it is worth is what the hold of that sum in a sandbox is worth. -/
noncomputable def Try.pinned : Pinned := { name := "ytghmhekjdjdleaa", sum := "270e6f675ceaf151445180ff4009041130601fc5715e77519b91a5c3ccaad6c5", checked := Try.checked }
namespace Rows
def none {H : Type} : Left H := { results := [], args := [] }

/-- 'laws.FnExactPlaceOf': WHATEVER THE INPUT: true; the input reads as it did. -/
def fnExactPlaceOfSpec : ChangeSpec := { name := "fnExactPlaceOf", fn := fun _ => fun
  | [d1, d2] => { results := [.lit (.bool true)], args := [d1, d2] }
  | _ => none }
def fnExactPlaceOfRow : OpenClaim := { program := "ytghmhekjdjdleaa", sum := "270e6f675ceaf151445180ff4009041130601fc5715e77519b91a5c3ccaad6c5", func := "loop.example/g00098/laws.FnExactPlaceOf", spec := "fnExactPlaceOf", apart := false }
def FnExactPlaceOfSaid : Prop := fnExactPlaceOfRow.holds Try.pinned (OpenSpec.ofChange fnExactPlaceOfSpec)

/-- ITS FALSE NEIGHBOUR: 'it returns false'. Refute it at one input. -/
def fnExactPlaceOfWrong : ChangeSpec := { name := "fnExactPlaceOf", fn := fun _ => fun
  | [d1, d2] => { results := [.lit (.bool false)], args := [d1, d2] }
  | _ => none }
def FnExactPlaceOfWrongFalsely : Prop := fnExactPlaceOfRow.holds Try.pinned (OpenSpec.ofChange fnExactPlaceOfWrong)

/-- 'laws.FnExactLineOk': WHATEVER THE INPUT: true; the input reads as it did. -/
def fnExactLineOkSpec : ChangeSpec := { name := "fnExactLineOk", fn := fun _ => fun
  | [d] => { results := [.lit (.bool true)], args := [d] }
  | _ => none }
def fnExactLineOkRow : OpenClaim := { program := "ytghmhekjdjdleaa", sum := "270e6f675ceaf151445180ff4009041130601fc5715e77519b91a5c3ccaad6c5", func := "loop.example/g00098/laws.FnExactLineOk", spec := "fnExactLineOk", apart := false }
def FnExactLineOkSaid : Prop := fnExactLineOkRow.holds Try.pinned (OpenSpec.ofChange fnExactLineOkSpec)

/-- ITS FALSE NEIGHBOUR: 'it returns false'. Refute it at one input. -/
def fnExactLineOkWrong : ChangeSpec := { name := "fnExactLineOk", fn := fun _ => fun
  | [d] => { results := [.lit (.bool false)], args := [d] }
  | _ => none }
def FnExactLineOkWrongFalsely : Prop := fnExactLineOkRow.holds Try.pinned (OpenSpec.ofChange fnExactLineOkWrong)

/-- 'laws.FnExactTokensOk': WHATEVER THE INPUT: true; the input reads as it did. -/
def fnExactTokensOkSpec : ChangeSpec := { name := "fnExactTokensOk", fn := fun _ => fun
  | [d] => { results := [.lit (.bool true)], args := [d] }
  | _ => none }
def fnExactTokensOkRow : OpenClaim := { program := "ytghmhekjdjdleaa", sum := "270e6f675ceaf151445180ff4009041130601fc5715e77519b91a5c3ccaad6c5", func := "loop.example/g00098/laws.FnExactTokensOk", spec := "fnExactTokensOk", apart := false }
def FnExactTokensOkSaid : Prop := fnExactTokensOkRow.holds Try.pinned (OpenSpec.ofChange fnExactTokensOkSpec)

/-- ITS FALSE NEIGHBOUR: 'it returns false'. Refute it at one input. -/
def fnExactTokensOkWrong : ChangeSpec := { name := "fnExactTokensOk", fn := fun _ => fun
  | [d] => { results := [.lit (.bool false)], args := [d] }
  | _ => none }
def FnExactTokensOkWrongFalsely : Prop := fnExactTokensOkRow.holds Try.pinned (OpenSpec.ofChange fnExactTokensOkWrong)

/-- 'laws.FnExactWake': WHATEVER THE INPUT: true; the input reads as it did. -/
def fnExactWakeSpec : ChangeSpec := { name := "fnExactWake", fn := fun _ => fun
  | [d1, d2] => { results := [.lit (.bool true)], args := [d1, d2] }
  | _ => none }
def fnExactWakeRow : OpenClaim := { program := "ytghmhekjdjdleaa", sum := "270e6f675ceaf151445180ff4009041130601fc5715e77519b91a5c3ccaad6c5", func := "loop.example/g00098/laws.FnExactWake", spec := "fnExactWake", apart := false }
def FnExactWakeSaid : Prop := fnExactWakeRow.holds Try.pinned (OpenSpec.ofChange fnExactWakeSpec)

/-- ITS FALSE NEIGHBOUR: 'it returns false'. Refute it at one input. -/
def fnExactWakeWrong : ChangeSpec := { name := "fnExactWake", fn := fun _ => fun
  | [d1, d2] => { results := [.lit (.bool false)], args := [d1, d2] }
  | _ => none }
def FnExactWakeWrongFalsely : Prop := fnExactWakeRow.holds Try.pinned (OpenSpec.ofChange fnExactWakeWrong)

/-- 'laws.FnExactIsOff': WHATEVER THE INPUT: true; the input reads as it did. -/
def fnExactIsOffSpec : ChangeSpec := { name := "fnExactIsOff", fn := fun _ => fun
  | [d1, d2] => { results := [.lit (.bool true)], args := [d1, d2] }
  | _ => none }
def fnExactIsOffRow : OpenClaim := { program := "ytghmhekjdjdleaa", sum := "270e6f675ceaf151445180ff4009041130601fc5715e77519b91a5c3ccaad6c5", func := "loop.example/g00098/laws.FnExactIsOff", spec := "fnExactIsOff", apart := false }
def FnExactIsOffSaid : Prop := fnExactIsOffRow.holds Try.pinned (OpenSpec.ofChange fnExactIsOffSpec)

/-- ITS FALSE NEIGHBOUR: 'it returns false'. Refute it at one input. -/
def fnExactIsOffWrong : ChangeSpec := { name := "fnExactIsOff", fn := fun _ => fun
  | [d1, d2] => { results := [.lit (.bool false)], args := [d1, d2] }
  | _ => none }
def FnExactIsOffWrongFalsely : Prop := fnExactIsOffRow.holds Try.pinned (OpenSpec.ofChange fnExactIsOffWrong)

/-- 'laws.FnExactJoin': WHATEVER THE INPUT: true; the input reads as it did. -/
def fnExactJoinSpec : ChangeSpec := { name := "fnExactJoin", fn := fun _ => fun
  | [d1, d2] => { results := [.lit (.bool true)], args := [d1, d2] }
  | _ => none }
def fnExactJoinRow : OpenClaim := { program := "ytghmhekjdjdleaa", sum := "270e6f675ceaf151445180ff4009041130601fc5715e77519b91a5c3ccaad6c5", func := "loop.example/g00098/laws.FnExactJoin", spec := "fnExactJoin", apart := false }
def FnExactJoinSaid : Prop := fnExactJoinRow.holds Try.pinned (OpenSpec.ofChange fnExactJoinSpec)

/-- ITS FALSE NEIGHBOUR: 'it returns false'. Refute it at one input. -/
def fnExactJoinWrong : ChangeSpec := { name := "fnExactJoin", fn := fun _ => fun
  | [d1, d2] => { results := [.lit (.bool false)], args := [d1, d2] }
  | _ => none }
def FnExactJoinWrongFalsely : Prop := fnExactJoinRow.holds Try.pinned (OpenSpec.ofChange fnExactJoinWrong)

/-- 'laws.FnExactLeave': WHATEVER THE INPUT: true; the input reads as it did. -/
def fnExactLeaveSpec : ChangeSpec := { name := "fnExactLeave", fn := fun _ => fun
  | [d1, d2] => { results := [.lit (.bool true)], args := [d1, d2] }
  | _ => none }
def fnExactLeaveRow : OpenClaim := { program := "ytghmhekjdjdleaa", sum := "270e6f675ceaf151445180ff4009041130601fc5715e77519b91a5c3ccaad6c5", func := "loop.example/g00098/laws.FnExactLeave", spec := "fnExactLeave", unfollowed := true, recurses := true, apart := false }
def FnExactLeaveSaid : Prop := fnExactLeaveRow.holds Try.pinned (OpenSpec.ofChange fnExactLeaveSpec)

/-- ITS FALSE NEIGHBOUR: 'it returns false'. Refute it at one input. -/
def fnExactLeaveWrong : ChangeSpec := { name := "fnExactLeave", fn := fun _ => fun
  | [d1, d2] => { results := [.lit (.bool false)], args := [d1, d2] }
  | _ => none }
def FnExactLeaveWrongFalsely : Prop := fnExactLeaveRow.holds Try.pinned (OpenSpec.ofChange fnExactLeaveWrong)

/-- 'laws.FnExactUnder': WHATEVER THE INPUT: true; the input reads as it did. -/
def fnExactUnderSpec : ChangeSpec := { name := "fnExactUnder", fn := fun _ => fun
  | [d1, d2] => { results := [.lit (.bool true)], args := [d1, d2] }
  | _ => none }
def fnExactUnderRow : OpenClaim := { program := "ytghmhekjdjdleaa", sum := "270e6f675ceaf151445180ff4009041130601fc5715e77519b91a5c3ccaad6c5", func := "loop.example/g00098/laws.FnExactUnder", spec := "fnExactUnder", apart := false }
def FnExactUnderSaid : Prop := fnExactUnderRow.holds Try.pinned (OpenSpec.ofChange fnExactUnderSpec)

/-- ITS FALSE NEIGHBOUR: 'it returns false'. Refute it at one input. -/
def fnExactUnderWrong : ChangeSpec := { name := "fnExactUnder", fn := fun _ => fun
  | [d1, d2] => { results := [.lit (.bool false)], args := [d1, d2] }
  | _ => none }
def FnExactUnderWrongFalsely : Prop := fnExactUnderRow.holds Try.pinned (OpenSpec.ofChange fnExactUnderWrong)

/-- 'laws.FnExactNewToken': WHATEVER THE INPUT: true; the input reads as it did. -/
def fnExactNewTokenSpec : ChangeSpec := { name := "fnExactNewToken", fn := fun _ => fun
  | [d1, d2] => { results := [.lit (.bool true)], args := [d1, d2] }
  | _ => none }
def fnExactNewTokenRow : OpenClaim := { program := "ytghmhekjdjdleaa", sum := "270e6f675ceaf151445180ff4009041130601fc5715e77519b91a5c3ccaad6c5", func := "loop.example/g00098/laws.FnExactNewToken", spec := "fnExactNewToken", apart := false }
def FnExactNewTokenSaid : Prop := fnExactNewTokenRow.holds Try.pinned (OpenSpec.ofChange fnExactNewTokenSpec)

/-- ITS FALSE NEIGHBOUR: 'it returns false'. Refute it at one input. -/
def fnExactNewTokenWrong : ChangeSpec := { name := "fnExactNewToken", fn := fun _ => fun
  | [d1, d2] => { results := [.lit (.bool false)], args := [d1, d2] }
  | _ => none }
def FnExactNewTokenWrongFalsely : Prop := fnExactNewTokenRow.holds Try.pinned (OpenSpec.ofChange fnExactNewTokenWrong)

/-- 'laws.FnFirstCome': WHATEVER THE INPUT: true; the input reads as it did. -/
def fnFirstComeSpec : ChangeSpec := { name := "fnFirstCome", fn := fun _ => fun
  | [d] => { results := [.lit (.bool true)], args := [d] }
  | _ => none }
def fnFirstComeRow : OpenClaim := { program := "ytghmhekjdjdleaa", sum := "270e6f675ceaf151445180ff4009041130601fc5715e77519b91a5c3ccaad6c5", func := "loop.example/g00098/laws.FnFirstCome", spec := "fnFirstCome", unfollowed := true, recurses := true, apart := false }
def FnFirstComeSaid : Prop := fnFirstComeRow.holds Try.pinned (OpenSpec.ofChange fnFirstComeSpec)

/-- ITS FALSE NEIGHBOUR: 'it returns false'. Refute it at one input. -/
def fnFirstComeWrong : ChangeSpec := { name := "fnFirstCome", fn := fun _ => fun
  | [d] => { results := [.lit (.bool false)], args := [d] }
  | _ => none }
def FnFirstComeWrongFalsely : Prop := fnFirstComeRow.holds Try.pinned (OpenSpec.ofChange fnFirstComeWrong)

/-- 'laws.FnExactCancel': WHATEVER THE INPUT: true; the input reads as it did. -/
def fnExactCancelSpec : ChangeSpec := { name := "fnExactCancel", fn := fun _ => fun
  | [d1, d2] => { results := [.lit (.bool true)], args := [d1, d2] }
  | _ => none }
def fnExactCancelRow : OpenClaim := { program := "ytghmhekjdjdleaa", sum := "270e6f675ceaf151445180ff4009041130601fc5715e77519b91a5c3ccaad6c5", func := "loop.example/g00098/laws.FnExactCancel", spec := "fnExactCancel", apart := false }
def FnExactCancelSaid : Prop := fnExactCancelRow.holds Try.pinned (OpenSpec.ofChange fnExactCancelSpec)

/-- ITS FALSE NEIGHBOUR: 'it returns false'. Refute it at one input. -/
def fnExactCancelWrong : ChangeSpec := { name := "fnExactCancel", fn := fun _ => fun
  | [d1, d2] => { results := [.lit (.bool false)], args := [d1, d2] }
  | _ => none }
def FnExactCancelWrongFalsely : Prop := fnExactCancelRow.holds Try.pinned (OpenSpec.ofChange fnExactCancelWrong)

/-- 'laws.FnOff': WHATEVER THE INPUT: true; the input reads as it did. -/
def fnOffSpec : ChangeSpec := { name := "fnOff", fn := fun _ => fun
  | [d] => { results := [.lit (.bool true)], args := [d] }
  | _ => none }
def fnOffRow : OpenClaim := { program := "ytghmhekjdjdleaa", sum := "270e6f675ceaf151445180ff4009041130601fc5715e77519b91a5c3ccaad6c5", func := "loop.example/g00098/laws.FnOff", spec := "fnOff", apart := false }
def FnOffSaid : Prop := fnOffRow.holds Try.pinned (OpenSpec.ofChange fnOffSpec)

/-- ITS FALSE NEIGHBOUR: 'it returns false'. Refute it at one input. -/
def fnOffWrong : ChangeSpec := { name := "fnOff", fn := fun _ => fun
  | [d] => { results := [.lit (.bool false)], args := [d] }
  | _ => none }
def FnOffWrongFalsely : Prop := fnOffRow.holds Try.pinned (OpenSpec.ofChange fnOffWrong)

/- THE SECOND FORM. 'bulk': how many values and letters a reading holds, each counted each time it is reached (what is shared counts as often as it is met; a slice's spare places count too). A statement '..UptoSaid' is the law's where the arguments, and the package variables that the reading takes, are together of bulk at most 1048576: NARROWER than '..Said'. Prove '..Said' where nothing that the law and all that it calls make is longer than what came in: it says more and counts as full. Else prove '..UptoSaid'. A law counts once. -/
mutual
def uptoBulk {H : Type} : DataW H → Nat
  | .lit (.string bytes) => bytes.length + 1
  | .lit _ => 1
  | .nil => 1
  | .ptr d => uptoBulk d + 1
  | .slice elems spare => uptoBulkAll elems + uptoBulkAll spare + 1
  | .agg parts => uptoBulkAll parts + 1
  | .iface _ d => uptoBulk d + 1
  | .map entries => uptoBulkEntries entries + 1
  | .held _ => 1
def uptoBulkAll {H : Type} : List (DataW H) → Nat
  | [] => 0
  | d :: r => uptoBulk d + uptoBulkAll r
def uptoBulkEntries {H : Type} : List (Lit × DataW H) → Nat
  | [] => 0
  | x :: r => uptoBulkEntry x + uptoBulkEntries r
def uptoBulkEntry {H : Type} : Lit × DataW H → Nat
  | (.string bytes, d) => bytes.length + uptoBulk d + 1
  | (_, d) => uptoBulk d + 1
 end
def uptoSmall : (H : Type) → List (DataW H) → Bool := fun _ ds => decide (uptoBulkAll ds ≤ 1048576)
def OpenSpec.upto (s : _root_.Go.ChangeSpec) : _root_.Go.OpenSpec := { _root_.Go.OpenSpec.ofChange s with cond := some uptoSmall }

/-- 'laws.FnExactPlaceOf', WHERE WHAT IT READS IS OF BULK AT MOST 1048576: true; the input reads as it did. -/
def fnExactPlaceOfUptoRow : OpenClaim := { program := "ytghmhekjdjdleaa", sum := "270e6f675ceaf151445180ff4009041130601fc5715e77519b91a5c3ccaad6c5", func := "loop.example/g00098/laws.FnExactPlaceOf", spec := "fnExactPlaceOf", apart := false, narrowed := true }
def FnExactPlaceOfUptoSaid : Prop := fnExactPlaceOfUptoRow.holds Try.pinned (OpenSpec.upto fnExactPlaceOfSpec)

/-- 'laws.FnExactLineOk', WHERE WHAT IT READS IS OF BULK AT MOST 1048576: true; the input reads as it did. -/
def fnExactLineOkUptoRow : OpenClaim := { program := "ytghmhekjdjdleaa", sum := "270e6f675ceaf151445180ff4009041130601fc5715e77519b91a5c3ccaad6c5", func := "loop.example/g00098/laws.FnExactLineOk", spec := "fnExactLineOk", apart := false, narrowed := true }
def FnExactLineOkUptoSaid : Prop := fnExactLineOkUptoRow.holds Try.pinned (OpenSpec.upto fnExactLineOkSpec)

/-- 'laws.FnExactTokensOk', WHERE WHAT IT READS IS OF BULK AT MOST 1048576: true; the input reads as it did. -/
def fnExactTokensOkUptoRow : OpenClaim := { program := "ytghmhekjdjdleaa", sum := "270e6f675ceaf151445180ff4009041130601fc5715e77519b91a5c3ccaad6c5", func := "loop.example/g00098/laws.FnExactTokensOk", spec := "fnExactTokensOk", apart := false, narrowed := true }
def FnExactTokensOkUptoSaid : Prop := fnExactTokensOkUptoRow.holds Try.pinned (OpenSpec.upto fnExactTokensOkSpec)

/-- 'laws.FnExactWake', WHERE WHAT IT READS IS OF BULK AT MOST 1048576: true; the input reads as it did. -/
def fnExactWakeUptoRow : OpenClaim := { program := "ytghmhekjdjdleaa", sum := "270e6f675ceaf151445180ff4009041130601fc5715e77519b91a5c3ccaad6c5", func := "loop.example/g00098/laws.FnExactWake", spec := "fnExactWake", apart := false, narrowed := true }
def FnExactWakeUptoSaid : Prop := fnExactWakeUptoRow.holds Try.pinned (OpenSpec.upto fnExactWakeSpec)

/-- 'laws.FnExactIsOff', WHERE WHAT IT READS IS OF BULK AT MOST 1048576: true; the input reads as it did. -/
def fnExactIsOffUptoRow : OpenClaim := { program := "ytghmhekjdjdleaa", sum := "270e6f675ceaf151445180ff4009041130601fc5715e77519b91a5c3ccaad6c5", func := "loop.example/g00098/laws.FnExactIsOff", spec := "fnExactIsOff", apart := false, narrowed := true }
def FnExactIsOffUptoSaid : Prop := fnExactIsOffUptoRow.holds Try.pinned (OpenSpec.upto fnExactIsOffSpec)

/-- 'laws.FnExactJoin', WHERE WHAT IT READS IS OF BULK AT MOST 1048576: true; the input reads as it did. -/
def fnExactJoinUptoRow : OpenClaim := { program := "ytghmhekjdjdleaa", sum := "270e6f675ceaf151445180ff4009041130601fc5715e77519b91a5c3ccaad6c5", func := "loop.example/g00098/laws.FnExactJoin", spec := "fnExactJoin", apart := false, narrowed := true }
def FnExactJoinUptoSaid : Prop := fnExactJoinUptoRow.holds Try.pinned (OpenSpec.upto fnExactJoinSpec)

/-- 'laws.FnExactLeave', WHERE WHAT IT READS IS OF BULK AT MOST 1048576: true; the input reads as it did. -/
def fnExactLeaveUptoRow : OpenClaim := { program := "ytghmhekjdjdleaa", sum := "270e6f675ceaf151445180ff4009041130601fc5715e77519b91a5c3ccaad6c5", func := "loop.example/g00098/laws.FnExactLeave", spec := "fnExactLeave", unfollowed := true, recurses := true, apart := false, narrowed := true }
def FnExactLeaveUptoSaid : Prop := fnExactLeaveUptoRow.holds Try.pinned (OpenSpec.upto fnExactLeaveSpec)

/-- 'laws.FnExactUnder', WHERE WHAT IT READS IS OF BULK AT MOST 1048576: true; the input reads as it did. -/
def fnExactUnderUptoRow : OpenClaim := { program := "ytghmhekjdjdleaa", sum := "270e6f675ceaf151445180ff4009041130601fc5715e77519b91a5c3ccaad6c5", func := "loop.example/g00098/laws.FnExactUnder", spec := "fnExactUnder", apart := false, narrowed := true }
def FnExactUnderUptoSaid : Prop := fnExactUnderUptoRow.holds Try.pinned (OpenSpec.upto fnExactUnderSpec)

/-- 'laws.FnExactNewToken', WHERE WHAT IT READS IS OF BULK AT MOST 1048576: true; the input reads as it did. -/
def fnExactNewTokenUptoRow : OpenClaim := { program := "ytghmhekjdjdleaa", sum := "270e6f675ceaf151445180ff4009041130601fc5715e77519b91a5c3ccaad6c5", func := "loop.example/g00098/laws.FnExactNewToken", spec := "fnExactNewToken", apart := false, narrowed := true }
def FnExactNewTokenUptoSaid : Prop := fnExactNewTokenUptoRow.holds Try.pinned (OpenSpec.upto fnExactNewTokenSpec)

/-- 'laws.FnFirstCome', WHERE WHAT IT READS IS OF BULK AT MOST 1048576: true; the input reads as it did. -/
def fnFirstComeUptoRow : OpenClaim := { program := "ytghmhekjdjdleaa", sum := "270e6f675ceaf151445180ff4009041130601fc5715e77519b91a5c3ccaad6c5", func := "loop.example/g00098/laws.FnFirstCome", spec := "fnFirstCome", unfollowed := true, recurses := true, apart := false, narrowed := true }
def FnFirstComeUptoSaid : Prop := fnFirstComeUptoRow.holds Try.pinned (OpenSpec.upto fnFirstComeSpec)

/-- 'laws.FnExactCancel', WHERE WHAT IT READS IS OF BULK AT MOST 1048576: true; the input reads as it did. -/
def fnExactCancelUptoRow : OpenClaim := { program := "ytghmhekjdjdleaa", sum := "270e6f675ceaf151445180ff4009041130601fc5715e77519b91a5c3ccaad6c5", func := "loop.example/g00098/laws.FnExactCancel", spec := "fnExactCancel", apart := false, narrowed := true }
def FnExactCancelUptoSaid : Prop := fnExactCancelUptoRow.holds Try.pinned (OpenSpec.upto fnExactCancelSpec)

/-- 'laws.FnOff', WHERE WHAT IT READS IS OF BULK AT MOST 1048576: true; the input reads as it did. -/
def fnOffUptoRow : OpenClaim := { program := "ytghmhekjdjdleaa", sum := "270e6f675ceaf151445180ff4009041130601fc5715e77519b91a5c3ccaad6c5", func := "loop.example/g00098/laws.FnOff", spec := "fnOff", apart := false, narrowed := true }
def FnOffUptoSaid : Prop := fnOffUptoRow.holds Try.pinned (OpenSpec.upto fnOffSpec)

end Rows
end Go.Proofs.Ytghmhekjdjdleaa
