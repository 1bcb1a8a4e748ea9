/-
  No cell of these rows narrows 'for every input' (looked for: loops, veiled, ifaces, maps, wideKeys, modest, calm, conditions, laid).
  DERIVED. THE GIVEN ROWS OF THIS SEAT. 12 by the template 'for every input the law returns true; each argument reads behind the call as it read before'; 0 by the template 'total and deterministic' (their statements: YtffcphplnilokaaTotals.lean).
  GIVEN WITH THE SEED: the statements are not yours to turn. If you find one false, say at which input.
  Laid BY PROGRAM, IN A SANDBOX (cutbox-rows.mjs): the forced cells as the released guide's own fill.sh prints them over the translation f3353391ebb9dd30… (all of the seat's roots in one cut). By AI agents, Wed Nov 11 2026. No macro, syntax, notation, axiom, sorry.
-/
import Derived.Test.YtffcphplnilokaaChecked
import GoSem.Claim
import GoSem.ClaimJoined
import GoSem.ClaimMapViews
import Derived.JoinedTies
import Derived.KernelRfl
namespace Go.Proofs.Ytffcphplnilokaa
/- THE CELL 'sum', in the pinned program and in every row, IS THE sha256 OF THE DUMP (.gsa) THAT YtffcphplnilokaaProg.lean LOADS. Nothing in Lean hashes anything: it is a label: what it is worth is what the hold of that sum in a sandbox is worth. -/
noncomputable def Try.pinned : Pinned := { name := "ytffcphplnilokaa", sum := "f3353391ebb9dd30333d7cb3739036b0511a19df355f8343913441429e977184", checked := Try.checked }
namespace Rows
def none {H : Type} : Left H := { results := [], args := [] }

/-- 'laws.FnSees': WHATEVER THE INPUT: true; the input reads as it did. -/
def fnSeesSpec : ChangeSpec := { name := "fnSees", fn := fun _ => fun
  | [d] => { results := [.lit (.bool true)], args := [d] }
  | _ => none }
def fnSeesRow : OpenClaim := { program := "ytffcphplnilokaa", sum := "f3353391ebb9dd30333d7cb3739036b0511a19df355f8343913441429e977184", func := "loop.example/g00098/laws.FnSees", spec := "fnSees", inPlace := ["internal/bytealg.abigen_runtime_cmpstring"], unfollowed := true, recurses := true, apart := false }
def FnSeesSaid : Prop := fnSeesRow.holds Try.pinned (OpenSpec.ofChange fnSeesSpec)

/-- ITS FALSE NEIGHBOUR: 'it returns false'. Refute it at one input. -/
def fnSeesWrong : ChangeSpec := { name := "fnSees", fn := fun _ => fun
  | [d] => { results := [.lit (.bool false)], args := [d] }
  | _ => none }
def FnSeesWrongFalsely : Prop := fnSeesRow.holds Try.pinned (OpenSpec.ofChange fnSeesWrong)

/-- 'laws.FnExactLatchOk': WHATEVER THE INPUT: true; the input reads as it did. -/
def fnExactLatchOkSpec : ChangeSpec := { name := "fnExactLatchOk", fn := fun _ => fun
  | [d] => { results := [.lit (.bool true)], args := [d] }
  | _ => none }
def fnExactLatchOkRow : OpenClaim := { program := "ytffcphplnilokaa", sum := "f3353391ebb9dd30333d7cb3739036b0511a19df355f8343913441429e977184", func := "loop.example/g00098/laws.FnExactLatchOk", spec := "fnExactLatchOk", unfollowed := true, recurses := true, apart := false }
def FnExactLatchOkSaid : Prop := fnExactLatchOkRow.holds Try.pinned (OpenSpec.ofChange fnExactLatchOkSpec)

/-- ITS FALSE NEIGHBOUR: 'it returns false'. Refute it at one input. -/
def fnExactLatchOkWrong : ChangeSpec := { name := "fnExactLatchOk", fn := fun _ => fun
  | [d] => { results := [.lit (.bool false)], args := [d] }
  | _ => none }
def FnExactLatchOkWrongFalsely : Prop := fnExactLatchOkRow.holds Try.pinned (OpenSpec.ofChange fnExactLatchOkWrong)

/-- 'laws.FnLatch': WHATEVER THE INPUT: true; the input reads as it did. -/
def fnLatchSpec : ChangeSpec := { name := "fnLatch", fn := fun _ => fun
  | [d] => { results := [.lit (.bool true)], args := [d] }
  | _ => none }
def fnLatchRow : OpenClaim := { program := "ytffcphplnilokaa", sum := "f3353391ebb9dd30333d7cb3739036b0511a19df355f8343913441429e977184", func := "loop.example/g00098/laws.FnLatch", spec := "fnLatch", unfollowed := true, recurses := true, apart := false }
def FnLatchSaid : Prop := fnLatchRow.holds Try.pinned (OpenSpec.ofChange fnLatchSpec)

/-- ITS FALSE NEIGHBOUR: 'it returns false'. Refute it at one input. -/
def fnLatchWrong : ChangeSpec := { name := "fnLatch", fn := fun _ => fun
  | [d] => { results := [.lit (.bool false)], args := [d] }
  | _ => none }
def FnLatchWrongFalsely : Prop := fnLatchRow.holds Try.pinned (OpenSpec.ofChange fnLatchWrong)

/-- 'laws.FnExactCellOk': WHATEVER THE INPUT: true; the input reads as it did. -/
def fnExactCellOkSpec : ChangeSpec := { name := "fnExactCellOk", fn := fun _ => fun
  | [d] => { results := [.lit (.bool true)], args := [d] }
  | _ => none }
def fnExactCellOkRow : OpenClaim := { program := "ytffcphplnilokaa", sum := "f3353391ebb9dd30333d7cb3739036b0511a19df355f8343913441429e977184", func := "loop.example/g00098/laws.FnExactCellOk", spec := "fnExactCellOk", unfollowed := true, recurses := true, apart := false }
def FnExactCellOkSaid : Prop := fnExactCellOkRow.holds Try.pinned (OpenSpec.ofChange fnExactCellOkSpec)

/-- ITS FALSE NEIGHBOUR: 'it returns false'. Refute it at one input. -/
def fnExactCellOkWrong : ChangeSpec := { name := "fnExactCellOk", fn := fun _ => fun
  | [d] => { results := [.lit (.bool false)], args := [d] }
  | _ => none }
def FnExactCellOkWrongFalsely : Prop := fnExactCellOkRow.holds Try.pinned (OpenSpec.ofChange fnExactCellOkWrong)

/-- 'laws.FnExactStandAt': WHATEVER THE INPUT: true; the input reads as it did. -/
def fnExactStandAtSpec : ChangeSpec := { name := "fnExactStandAt", fn := fun _ => fun
  | [d1, d2] => { results := [.lit (.bool true)], args := [d1, d2] }
  | _ => none }
def fnExactStandAtRow : OpenClaim := { program := "ytffcphplnilokaa", sum := "f3353391ebb9dd30333d7cb3739036b0511a19df355f8343913441429e977184", func := "loop.example/g00098/laws.FnExactStandAt", spec := "fnExactStandAt", unfollowed := true, recurses := true, apart := false }
def FnExactStandAtSaid : Prop := fnExactStandAtRow.holds Try.pinned (OpenSpec.ofChange fnExactStandAtSpec)

/-- ITS FALSE NEIGHBOUR: 'it returns false'. Refute it at one input. -/
def fnExactStandAtWrong : ChangeSpec := { name := "fnExactStandAt", fn := fun _ => fun
  | [d1, d2] => { results := [.lit (.bool false)], args := [d1, d2] }
  | _ => none }
def FnExactStandAtWrongFalsely : Prop := fnExactStandAtRow.holds Try.pinned (OpenSpec.ofChange fnExactStandAtWrong)

/-- 'laws.FnExactLook': WHATEVER THE INPUT: true; the input reads as it did. -/
def fnExactLookSpec : ChangeSpec := { name := "fnExactLook", fn := fun _ => fun
  | [d] => { results := [.lit (.bool true)], args := [d] }
  | _ => none }
def fnExactLookRow : OpenClaim := { program := "ytffcphplnilokaa", sum := "f3353391ebb9dd30333d7cb3739036b0511a19df355f8343913441429e977184", func := "loop.example/g00098/laws.FnExactLook", spec := "fnExactLook", unfollowed := true, recurses := true, apart := false }
def FnExactLookSaid : Prop := fnExactLookRow.holds Try.pinned (OpenSpec.ofChange fnExactLookSpec)

/-- ITS FALSE NEIGHBOUR: 'it returns false'. Refute it at one input. -/
def fnExactLookWrong : ChangeSpec := { name := "fnExactLook", fn := fun _ => fun
  | [d] => { results := [.lit (.bool false)], args := [d] }
  | _ => none }
def FnExactLookWrongFalsely : Prop := fnExactLookRow.holds Try.pinned (OpenSpec.ofChange fnExactLookWrong)

/-- 'laws.FnExactQuitLatch': WHATEVER THE INPUT: true; the input reads as it did. -/
def fnExactQuitLatchSpec : ChangeSpec := { name := "fnExactQuitLatch", fn := fun _ => fun
  | [d1, d2] => { results := [.lit (.bool true)], args := [d1, d2] }
  | _ => none }
def fnExactQuitLatchRow : OpenClaim := { program := "ytffcphplnilokaa", sum := "f3353391ebb9dd30333d7cb3739036b0511a19df355f8343913441429e977184", func := "loop.example/g00098/laws.FnExactQuitLatch", spec := "fnExactQuitLatch", unfollowed := true, recurses := true, apart := false }
def FnExactQuitLatchSaid : Prop := fnExactQuitLatchRow.holds Try.pinned (OpenSpec.ofChange fnExactQuitLatchSpec)

/-- ITS FALSE NEIGHBOUR: 'it returns false'. Refute it at one input. -/
def fnExactQuitLatchWrong : ChangeSpec := { name := "fnExactQuitLatch", fn := fun _ => fun
  | [d1, d2] => { results := [.lit (.bool false)], args := [d1, d2] }
  | _ => none }
def FnExactQuitLatchWrongFalsely : Prop := fnExactQuitLatchRow.holds Try.pinned (OpenSpec.ofChange fnExactQuitLatchWrong)

/-- 'laws.FnExactPassLatch': WHATEVER THE INPUT: true; the input reads as it did. -/
def fnExactPassLatchSpec : ChangeSpec := { name := "fnExactPassLatch", fn := fun _ => fun
  | [d1, d2] => { results := [.lit (.bool true)], args := [d1, d2] }
  | _ => none }
def fnExactPassLatchRow : OpenClaim := { program := "ytffcphplnilokaa", sum := "f3353391ebb9dd30333d7cb3739036b0511a19df355f8343913441429e977184", func := "loop.example/g00098/laws.FnExactPassLatch", spec := "fnExactPassLatch", unfollowed := true, recurses := true, apart := false }
def FnExactPassLatchSaid : Prop := fnExactPassLatchRow.holds Try.pinned (OpenSpec.ofChange fnExactPassLatchSpec)

/-- ITS FALSE NEIGHBOUR: 'it returns false'. Refute it at one input. -/
def fnExactPassLatchWrong : ChangeSpec := { name := "fnExactPassLatch", fn := fun _ => fun
  | [d1, d2] => { results := [.lit (.bool false)], args := [d1, d2] }
  | _ => none }
def FnExactPassLatchWrongFalsely : Prop := fnExactPassLatchRow.holds Try.pinned (OpenSpec.ofChange fnExactPassLatchWrong)

/-- 'laws.FnExactCountDown': WHATEVER THE INPUT: true; the input reads as it did. -/
def fnExactCountDownSpec : ChangeSpec := { name := "fnExactCountDown", fn := fun _ => fun
  | [d1, d2] => { results := [.lit (.bool true)], args := [d1, d2] }
  | _ => none }
def fnExactCountDownRow : OpenClaim := { program := "ytffcphplnilokaa", sum := "f3353391ebb9dd30333d7cb3739036b0511a19df355f8343913441429e977184", func := "loop.example/g00098/laws.FnExactCountDown", spec := "fnExactCountDown", unfollowed := true, recurses := true, apart := false }
def FnExactCountDownSaid : Prop := fnExactCountDownRow.holds Try.pinned (OpenSpec.ofChange fnExactCountDownSpec)

/-- ITS FALSE NEIGHBOUR: 'it returns false'. Refute it at one input. -/
def fnExactCountDownWrong : ChangeSpec := { name := "fnExactCountDown", fn := fun _ => fun
  | [d1, d2] => { results := [.lit (.bool false)], args := [d1, d2] }
  | _ => none }
def FnExactCountDownWrongFalsely : Prop := fnExactCountDownRow.holds Try.pinned (OpenSpec.ofChange fnExactCountDownWrong)

/-- 'laws.FnExactWatch': WHATEVER THE INPUT: true; the input reads as it did. -/
def fnExactWatchSpec : ChangeSpec := { name := "fnExactWatch", fn := fun _ => fun
  | [d1, d2, d3] => { results := [.lit (.bool true)], args := [d1, d2, d3] }
  | _ => none }
def fnExactWatchRow : OpenClaim := { program := "ytffcphplnilokaa", sum := "f3353391ebb9dd30333d7cb3739036b0511a19df355f8343913441429e977184", func := "loop.example/g00098/laws.FnExactWatch", spec := "fnExactWatch", unfollowed := true, recurses := true, apart := false }
def FnExactWatchSaid : Prop := fnExactWatchRow.holds Try.pinned (OpenSpec.ofChange fnExactWatchSpec)

/-- ITS FALSE NEIGHBOUR: 'it returns false'. Refute it at one input. -/
def fnExactWatchWrong : ChangeSpec := { name := "fnExactWatch", fn := fun _ => fun
  | [d1, d2, d3] => { results := [.lit (.bool false)], args := [d1, d2, d3] }
  | _ => none }
def FnExactWatchWrongFalsely : Prop := fnExactWatchRow.holds Try.pinned (OpenSpec.ofChange fnExactWatchWrong)

/-- 'laws.FnExactUnwatch': WHATEVER THE INPUT: true; the input reads as it did. -/
def fnExactUnwatchSpec : ChangeSpec := { name := "fnExactUnwatch", fn := fun _ => fun
  | [d1, d2] => { results := [.lit (.bool true)], args := [d1, d2] }
  | _ => none }
def fnExactUnwatchRow : OpenClaim := { program := "ytffcphplnilokaa", sum := "f3353391ebb9dd30333d7cb3739036b0511a19df355f8343913441429e977184", func := "loop.example/g00098/laws.FnExactUnwatch", spec := "fnExactUnwatch", unfollowed := true, recurses := true, apart := false }
def FnExactUnwatchSaid : Prop := fnExactUnwatchRow.holds Try.pinned (OpenSpec.ofChange fnExactUnwatchSpec)

/-- ITS FALSE NEIGHBOUR: 'it returns false'. Refute it at one input. -/
def fnExactUnwatchWrong : ChangeSpec := { name := "fnExactUnwatch", fn := fun _ => fun
  | [d1, d2] => { results := [.lit (.bool false)], args := [d1, d2] }
  | _ => none }
def FnExactUnwatchWrongFalsely : Prop := fnExactUnwatchRow.holds Try.pinned (OpenSpec.ofChange fnExactUnwatchWrong)

/-- 'laws.FnExactShut': WHATEVER THE INPUT: true; the input reads as it did. -/
def fnExactShutSpec : ChangeSpec := { name := "fnExactShut", fn := fun _ => fun
  | [d] => { results := [.lit (.bool true)], args := [d] }
  | _ => none }
def fnExactShutRow : OpenClaim := { program := "ytffcphplnilokaa", sum := "f3353391ebb9dd30333d7cb3739036b0511a19df355f8343913441429e977184", func := "loop.example/g00098/laws.FnExactShut", spec := "fnExactShut", unfollowed := true, recurses := true, apart := false }
def FnExactShutSaid : Prop := fnExactShutRow.holds Try.pinned (OpenSpec.ofChange fnExactShutSpec)

/-- ITS FALSE NEIGHBOUR: 'it returns false'. Refute it at one input. -/
def fnExactShutWrong : ChangeSpec := { name := "fnExactShut", fn := fun _ => fun
  | [d] => { results := [.lit (.bool false)], args := [d] }
  | _ => none }
def FnExactShutWrongFalsely : Prop := fnExactShutRow.holds Try.pinned (OpenSpec.ofChange fnExactShutWrong)

/- THE SECOND FORM. 'bulk': how many values and letters a reading holds, each counted each time it is reached (what is shared counts as often as it is met; a slice's spare places count too). A statement '..UptoSaid' is the law's where the arguments, and the package variables that the reading takes, are together of bulk at most 1048576: NARROWER than '..Said'. Prove '..Said' where nothing that the law and all that it calls make is longer than what came in: it says more and counts as full. Else prove '..UptoSaid'. A law counts once. -/
mutual
def uptoBulk {H : Type} : DataW H → Nat
  | .lit (.string bytes) => bytes.length + 1
  | .lit _ => 1
  | .nil => 1
  | .ptr d => uptoBulk d + 1
  | .slice elems spare => uptoBulkAll elems + uptoBulkAll spare + 1
  | .agg parts => uptoBulkAll parts + 1
  | .iface _ d => uptoBulk d + 1
  | .map entries => uptoBulkEntries entries + 1
  | .held _ => 1
def uptoBulkAll {H : Type} : List (DataW H) → Nat
  | [] => 0
  | d :: r => uptoBulk d + uptoBulkAll r
def uptoBulkEntries {H : Type} : List (Lit × DataW H) → Nat
  | [] => 0
  | x :: r => uptoBulkEntry x + uptoBulkEntries r
def uptoBulkEntry {H : Type} : Lit × DataW H → Nat
  | (.string bytes, d) => bytes.length + uptoBulk d + 1
  | (_, d) => uptoBulk d + 1
 end
def uptoSmall : (H : Type) → List (DataW H) → Bool := fun _ ds => decide (uptoBulkAll ds ≤ 1048576)
def OpenSpec.upto (s : _root_.Go.ChangeSpec) : _root_.Go.OpenSpec := { _root_.Go.OpenSpec.ofChange s with cond := some uptoSmall }

/-- 'laws.FnSees', WHERE WHAT IT READS IS OF BULK AT MOST 1048576: true; the input reads as it did. -/
def fnSeesUptoRow : OpenClaim := { program := "ytffcphplnilokaa", sum := "f3353391ebb9dd30333d7cb3739036b0511a19df355f8343913441429e977184", func := "loop.example/g00098/laws.FnSees", spec := "fnSees", inPlace := ["internal/bytealg.abigen_runtime_cmpstring"], unfollowed := true, recurses := true, apart := false, narrowed := true }
def FnSeesUptoSaid : Prop := fnSeesUptoRow.holds Try.pinned (OpenSpec.upto fnSeesSpec)

/-- 'laws.FnExactLatchOk', WHERE WHAT IT READS IS OF BULK AT MOST 1048576: true; the input reads as it did. -/
def fnExactLatchOkUptoRow : OpenClaim := { program := "ytffcphplnilokaa", sum := "f3353391ebb9dd30333d7cb3739036b0511a19df355f8343913441429e977184", func := "loop.example/g00098/laws.FnExactLatchOk", spec := "fnExactLatchOk", unfollowed := true, recurses := true, apart := false, narrowed := true }
def FnExactLatchOkUptoSaid : Prop := fnExactLatchOkUptoRow.holds Try.pinned (OpenSpec.upto fnExactLatchOkSpec)

/-- 'laws.FnLatch', WHERE WHAT IT READS IS OF BULK AT MOST 1048576: true; the input reads as it did. -/
def fnLatchUptoRow : OpenClaim := { program := "ytffcphplnilokaa", sum := "f3353391ebb9dd30333d7cb3739036b0511a19df355f8343913441429e977184", func := "loop.example/g00098/laws.FnLatch", spec := "fnLatch", unfollowed := true, recurses := true, apart := false, narrowed := true }
def FnLatchUptoSaid : Prop := fnLatchUptoRow.holds Try.pinned (OpenSpec.upto fnLatchSpec)

/-- 'laws.FnExactCellOk', WHERE WHAT IT READS IS OF BULK AT MOST 1048576: true; the input reads as it did. -/
def fnExactCellOkUptoRow : OpenClaim := { program := "ytffcphplnilokaa", sum := "f3353391ebb9dd30333d7cb3739036b0511a19df355f8343913441429e977184", func := "loop.example/g00098/laws.FnExactCellOk", spec := "fnExactCellOk", unfollowed := true, recurses := true, apart := false, narrowed := true }
def FnExactCellOkUptoSaid : Prop := fnExactCellOkUptoRow.holds Try.pinned (OpenSpec.upto fnExactCellOkSpec)

/-- 'laws.FnExactStandAt', WHERE WHAT IT READS IS OF BULK AT MOST 1048576: true; the input reads as it did. -/
def fnExactStandAtUptoRow : OpenClaim := { program := "ytffcphplnilokaa", sum := "f3353391ebb9dd30333d7cb3739036b0511a19df355f8343913441429e977184", func := "loop.example/g00098/laws.FnExactStandAt", spec := "fnExactStandAt", unfollowed := true, recurses := true, apart := false, narrowed := true }
def FnExactStandAtUptoSaid : Prop := fnExactStandAtUptoRow.holds Try.pinned (OpenSpec.upto fnExactStandAtSpec)

/-- 'laws.FnExactLook', WHERE WHAT IT READS IS OF BULK AT MOST 1048576: true; the input reads as it did. -/
def fnExactLookUptoRow : OpenClaim := { program := "ytffcphplnilokaa", sum := "f3353391ebb9dd30333d7cb3739036b0511a19df355f8343913441429e977184", func := "loop.example/g00098/laws.FnExactLook", spec := "fnExactLook", unfollowed := true, recurses := true, apart := false, narrowed := true }
def FnExactLookUptoSaid : Prop := fnExactLookUptoRow.holds Try.pinned (OpenSpec.upto fnExactLookSpec)

/-- 'laws.FnExactQuitLatch', WHERE WHAT IT READS IS OF BULK AT MOST 1048576: true; the input reads as it did. -/
def fnExactQuitLatchUptoRow : OpenClaim := { program := "ytffcphplnilokaa", sum := "f3353391ebb9dd30333d7cb3739036b0511a19df355f8343913441429e977184", func := "loop.example/g00098/laws.FnExactQuitLatch", spec := "fnExactQuitLatch", unfollowed := true, recurses := true, apart := false, narrowed := true }
def FnExactQuitLatchUptoSaid : Prop := fnExactQuitLatchUptoRow.holds Try.pinned (OpenSpec.upto fnExactQuitLatchSpec)

/-- 'laws.FnExactPassLatch', WHERE WHAT IT READS IS OF BULK AT MOST 1048576: true; the input reads as it did. -/
def fnExactPassLatchUptoRow : OpenClaim := { program := "ytffcphplnilokaa", sum := "f3353391ebb9dd30333d7cb3739036b0511a19df355f8343913441429e977184", func := "loop.example/g00098/laws.FnExactPassLatch", spec := "fnExactPassLatch", unfollowed := true, recurses := true, apart := false, narrowed := true }
def FnExactPassLatchUptoSaid : Prop := fnExactPassLatchUptoRow.holds Try.pinned (OpenSpec.upto fnExactPassLatchSpec)

/-- 'laws.FnExactCountDown', WHERE WHAT IT READS IS OF BULK AT MOST 1048576: true; the input reads as it did. -/
def fnExactCountDownUptoRow : OpenClaim := { program := "ytffcphplnilokaa", sum := "f3353391ebb9dd30333d7cb3739036b0511a19df355f8343913441429e977184", func := "loop.example/g00098/laws.FnExactCountDown", spec := "fnExactCountDown", unfollowed := true, recurses := true, apart := false, narrowed := true }
def FnExactCountDownUptoSaid : Prop := fnExactCountDownUptoRow.holds Try.pinned (OpenSpec.upto fnExactCountDownSpec)

/-- 'laws.FnExactWatch', WHERE WHAT IT READS IS OF BULK AT MOST 1048576: true; the input reads as it did. -/
def fnExactWatchUptoRow : OpenClaim := { program := "ytffcphplnilokaa", sum := "f3353391ebb9dd30333d7cb3739036b0511a19df355f8343913441429e977184", func := "loop.example/g00098/laws.FnExactWatch", spec := "fnExactWatch", unfollowed := true, recurses := true, apart := false, narrowed := true }
def FnExactWatchUptoSaid : Prop := fnExactWatchUptoRow.holds Try.pinned (OpenSpec.upto fnExactWatchSpec)

/-- 'laws.FnExactUnwatch', WHERE WHAT IT READS IS OF BULK AT MOST 1048576: true; the input reads as it did. -/
def fnExactUnwatchUptoRow : OpenClaim := { program := "ytffcphplnilokaa", sum := "f3353391ebb9dd30333d7cb3739036b0511a19df355f8343913441429e977184", func := "loop.example/g00098/laws.FnExactUnwatch", spec := "fnExactUnwatch", unfollowed := true, recurses := true, apart := false, narrowed := true }
def FnExactUnwatchUptoSaid : Prop := fnExactUnwatchUptoRow.holds Try.pinned (OpenSpec.upto fnExactUnwatchSpec)

/-- 'laws.FnExactShut', WHERE WHAT IT READS IS OF BULK AT MOST 1048576: true; the input reads as it did. -/
def fnExactShutUptoRow : OpenClaim := { program := "ytffcphplnilokaa", sum := "f3353391ebb9dd30333d7cb3739036b0511a19df355f8343913441429e977184", func := "loop.example/g00098/laws.FnExactShut", spec := "fnExactShut", unfollowed := true, recurses := true, apart := false, narrowed := true }
def FnExactShutUptoSaid : Prop := fnExactShutUptoRow.holds Try.pinned (OpenSpec.upto fnExactShutSpec)

end Rows
end Go.Proofs.Ytffcphplnilokaa
