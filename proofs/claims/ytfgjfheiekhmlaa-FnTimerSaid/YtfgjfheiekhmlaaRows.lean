/-
  No cell of these rows narrows 'for every input' (looked for: loops, veiled, ifaces, maps, wideKeys, modest, calm, conditions, laid).
  DERIVED. THE GIVEN ROWS OF THIS SEAT. 6 by the template 'for every input the law returns true; each argument reads behind the call as it read before'; 0 by the template 'total and deterministic' (their statements: YtfgjfheiekhmlaaTotals.lean).
  GIVEN WITH THE SEED: the statements are not yours to turn. If you find one false, say at which input.
  Laid BY PROGRAM, IN A SANDBOX (cutbox-rows.mjs): the forced cells as the released guide's own fill.sh prints them over the translation 1f0241e828f77c6f… (all of the seat's roots in one cut). By AI agents, Wed Nov 11 2026. No macro, syntax, notation, axiom, sorry.
-/
import Derived.Test.YtfgjfheiekhmlaaChecked
import GoSem.Claim
import GoSem.ClaimJoined
import GoSem.ClaimMapViews
import Derived.JoinedTies
import Derived.KernelRfl
namespace Go.Proofs.Ytfgjfheiekhmlaa
/- THE CELL 'sum', in the pinned program and in every row, IS THE sha256 OF THE DUMP (.gsa) THAT YtfgjfheiekhmlaaProg.lean LOADS. Nothing in Lean hashes anything: it is a label: what it is worth is what the hold of that sum in a sandbox is worth. -/
noncomputable def Try.pinned : Pinned := { name := "ytfgjfheiekhmlaa", sum := "1f0241e828f77c6f68fddbbdb898f3fac9f0f4399e755f8b0671daa3de2c7d7b", checked := Try.checked }
namespace Rows
def none {H : Type} : Left H := { results := [], args := [] }

/-- 'laws.FnExactClockOk': WHATEVER THE INPUT: true; the input reads as it did. -/
def fnExactClockOkSpec : ChangeSpec := { name := "fnExactClockOk", fn := fun _ => fun
  | [d] => { results := [.lit (.bool true)], args := [d] }
  | _ => none }
def fnExactClockOkRow : OpenClaim := { program := "ytfgjfheiekhmlaa", sum := "1f0241e828f77c6f68fddbbdb898f3fac9f0f4399e755f8b0671daa3de2c7d7b", func := "loop.example/g00098/laws.FnExactClockOk", spec := "fnExactClockOk", apart := false }
def FnExactClockOkSaid : Prop := fnExactClockOkRow.holds Try.pinned (OpenSpec.ofChange fnExactClockOkSpec)

/-- ITS FALSE NEIGHBOUR: 'it returns false'. Refute it at one input. -/
def fnExactClockOkWrong : ChangeSpec := { name := "fnExactClockOk", fn := fun _ => fun
  | [d] => { results := [.lit (.bool false)], args := [d] }
  | _ => none }
def FnExactClockOkWrongFalsely : Prop := fnExactClockOkRow.holds Try.pinned (OpenSpec.ofChange fnExactClockOkWrong)

/-- 'laws.FnExactStopTimer': WHATEVER THE INPUT: true; the input reads as it did. -/
def fnExactStopTimerSpec : ChangeSpec := { name := "fnExactStopTimer", fn := fun _ => fun
  | [d1, d2] => { results := [.lit (.bool true)], args := [d1, d2] }
  | _ => none }
def fnExactStopTimerRow : OpenClaim := { program := "ytfgjfheiekhmlaa", sum := "1f0241e828f77c6f68fddbbdb898f3fac9f0f4399e755f8b0671daa3de2c7d7b", func := "loop.example/g00098/laws.FnExactStopTimer", spec := "fnExactStopTimer", unfollowed := true, recurses := true, apart := false }
def FnExactStopTimerSaid : Prop := fnExactStopTimerRow.holds Try.pinned (OpenSpec.ofChange fnExactStopTimerSpec)

/-- ITS FALSE NEIGHBOUR: 'it returns false'. Refute it at one input. -/
def fnExactStopTimerWrong : ChangeSpec := { name := "fnExactStopTimer", fn := fun _ => fun
  | [d1, d2] => { results := [.lit (.bool false)], args := [d1, d2] }
  | _ => none }
def FnExactStopTimerWrongFalsely : Prop := fnExactStopTimerRow.holds Try.pinned (OpenSpec.ofChange fnExactStopTimerWrong)

/-- 'laws.FnTimeParts': WHATEVER THE INPUT: true; the input reads as it did. -/
def fnTimePartsSpec : ChangeSpec := { name := "fnTimeParts", fn := fun _ => fun
  | [d] => { results := [.lit (.bool true)], args := [d] }
  | _ => none }
def fnTimePartsRow : OpenClaim := { program := "ytfgjfheiekhmlaa", sum := "1f0241e828f77c6f68fddbbdb898f3fac9f0f4399e755f8b0671daa3de2c7d7b", func := "loop.example/g00098/laws.FnTimeParts", spec := "fnTimeParts", apart := false }
def FnTimePartsSaid : Prop := fnTimePartsRow.holds Try.pinned (OpenSpec.ofChange fnTimePartsSpec)

/-- ITS FALSE NEIGHBOUR: 'it returns false'. Refute it at one input. -/
def fnTimePartsWrong : ChangeSpec := { name := "fnTimeParts", fn := fun _ => fun
  | [d] => { results := [.lit (.bool false)], args := [d] }
  | _ => none }
def FnTimePartsWrongFalsely : Prop := fnTimePartsRow.holds Try.pinned (OpenSpec.ofChange fnTimePartsWrong)

/-- 'laws.FnExactAdvance': WHATEVER THE INPUT: true; the input reads as it did. -/
def fnExactAdvanceSpec : ChangeSpec := { name := "fnExactAdvance", fn := fun _ => fun
  | [d1, d2] => { results := [.lit (.bool true)], args := [d1, d2] }
  | _ => none }
def fnExactAdvanceRow : OpenClaim := { program := "ytfgjfheiekhmlaa", sum := "1f0241e828f77c6f68fddbbdb898f3fac9f0f4399e755f8b0671daa3de2c7d7b", func := "loop.example/g00098/laws.FnExactAdvance", spec := "fnExactAdvance", apart := false }
def FnExactAdvanceSaid : Prop := fnExactAdvanceRow.holds Try.pinned (OpenSpec.ofChange fnExactAdvanceSpec)

/-- ITS FALSE NEIGHBOUR: 'it returns false'. Refute it at one input. -/
def fnExactAdvanceWrong : ChangeSpec := { name := "fnExactAdvance", fn := fun _ => fun
  | [d1, d2] => { results := [.lit (.bool false)], args := [d1, d2] }
  | _ => none }
def FnExactAdvanceWrongFalsely : Prop := fnExactAdvanceRow.holds Try.pinned (OpenSpec.ofChange fnExactAdvanceWrong)

/-- 'laws.FnExactSetTimer': WHATEVER THE INPUT: true; the input reads as it did. -/
def fnExactSetTimerSpec : ChangeSpec := { name := "fnExactSetTimer", fn := fun _ => fun
  | [d1, d2, d3] => { results := [.lit (.bool true)], args := [d1, d2, d3] }
  | _ => none }
def fnExactSetTimerRow : OpenClaim := { program := "ytfgjfheiekhmlaa", sum := "1f0241e828f77c6f68fddbbdb898f3fac9f0f4399e755f8b0671daa3de2c7d7b", func := "loop.example/g00098/laws.FnExactSetTimer", spec := "fnExactSetTimer", inPlace := ["slices.overlaps[loop.example/g00098/impl.Timer]"], unfollowed := true, recurses := true, apart := false }
def FnExactSetTimerSaid : Prop := fnExactSetTimerRow.holds Try.pinned (OpenSpec.ofChange fnExactSetTimerSpec)

/-- ITS FALSE NEIGHBOUR: 'it returns false'. Refute it at one input. -/
def fnExactSetTimerWrong : ChangeSpec := { name := "fnExactSetTimer", fn := fun _ => fun
  | [d1, d2, d3] => { results := [.lit (.bool false)], args := [d1, d2, d3] }
  | _ => none }
def FnExactSetTimerWrongFalsely : Prop := fnExactSetTimerRow.holds Try.pinned (OpenSpec.ofChange fnExactSetTimerWrong)

/-- 'laws.FnTimer': WHATEVER THE INPUT: true; the input reads as it did. -/
def fnTimerSpec : ChangeSpec := { name := "fnTimer", fn := fun _ => fun
  | [d] => { results := [.lit (.bool true)], args := [d] }
  | _ => none }
def fnTimerRow : OpenClaim := { program := "ytfgjfheiekhmlaa", sum := "1f0241e828f77c6f68fddbbdb898f3fac9f0f4399e755f8b0671daa3de2c7d7b", func := "loop.example/g00098/laws.FnTimer", spec := "fnTimer", inPlace := ["slices.overlaps[loop.example/g00098/impl.Timer]"], unfollowed := true, recurses := true, apart := false }
def FnTimerSaid : Prop := fnTimerRow.holds Try.pinned (OpenSpec.ofChange fnTimerSpec)

/-- ITS FALSE NEIGHBOUR: 'it returns false'. Refute it at one input. -/
def fnTimerWrong : ChangeSpec := { name := "fnTimer", fn := fun _ => fun
  | [d] => { results := [.lit (.bool false)], args := [d] }
  | _ => none }
def FnTimerWrongFalsely : Prop := fnTimerRow.holds Try.pinned (OpenSpec.ofChange fnTimerWrong)

/- THE SECOND FORM. 'bulk': how many values and letters a reading holds, each counted each time it is reached (what is shared counts as often as it is met; a slice's spare places count too). A statement '..UptoSaid' is the law's where the arguments, and the package variables that the reading takes, are together of bulk at most 1048576: NARROWER than '..Said'. Prove '..Said' where nothing that the law and all that it calls make is longer than what came in: it says more and counts as full. Else prove '..UptoSaid'. A law counts once. -/
mutual
def uptoBulk {H : Type} : DataW H → Nat
  | .lit (.string bytes) => bytes.length + 1
  | .lit _ => 1
  | .nil => 1
  | .ptr d => uptoBulk d + 1
  | .slice elems spare => uptoBulkAll elems + uptoBulkAll spare + 1
  | .agg parts => uptoBulkAll parts + 1
  | .iface _ d => uptoBulk d + 1
  | .map entries => uptoBulkEntries entries + 1
  | .held _ => 1
def uptoBulkAll {H : Type} : List (DataW H) → Nat
  | [] => 0
  | d :: r => uptoBulk d + uptoBulkAll r
def uptoBulkEntries {H : Type} : List (Lit × DataW H) → Nat
  | [] => 0
  | x :: r => uptoBulkEntry x + uptoBulkEntries r
def uptoBulkEntry {H : Type} : Lit × DataW H → Nat
  | (.string bytes, d) => bytes.length + uptoBulk d + 1
  | (_, d) => uptoBulk d + 1
 end
def uptoSmall : (H : Type) → List (DataW H) → Bool := fun _ ds => decide (uptoBulkAll ds ≤ 1048576)
def OpenSpec.upto (s : _root_.Go.ChangeSpec) : _root_.Go.OpenSpec := { _root_.Go.OpenSpec.ofChange s with cond := some uptoSmall }

/-- 'laws.FnExactClockOk', WHERE WHAT IT READS IS OF BULK AT MOST 1048576: true; the input reads as it did. -/
def fnExactClockOkUptoRow : OpenClaim := { program := "ytfgjfheiekhmlaa", sum := "1f0241e828f77c6f68fddbbdb898f3fac9f0f4399e755f8b0671daa3de2c7d7b", func := "loop.example/g00098/laws.FnExactClockOk", spec := "fnExactClockOk", apart := false, narrowed := true }
def FnExactClockOkUptoSaid : Prop := fnExactClockOkUptoRow.holds Try.pinned (OpenSpec.upto fnExactClockOkSpec)

/-- 'laws.FnExactStopTimer', WHERE WHAT IT READS IS OF BULK AT MOST 1048576: true; the input reads as it did. -/
def fnExactStopTimerUptoRow : OpenClaim := { program := "ytfgjfheiekhmlaa", sum := "1f0241e828f77c6f68fddbbdb898f3fac9f0f4399e755f8b0671daa3de2c7d7b", func := "loop.example/g00098/laws.FnExactStopTimer", spec := "fnExactStopTimer", unfollowed := true, recurses := true, apart := false, narrowed := true }
def FnExactStopTimerUptoSaid : Prop := fnExactStopTimerUptoRow.holds Try.pinned (OpenSpec.upto fnExactStopTimerSpec)

/-- 'laws.FnTimeParts', WHERE WHAT IT READS IS OF BULK AT MOST 1048576: true; the input reads as it did. -/
def fnTimePartsUptoRow : OpenClaim := { program := "ytfgjfheiekhmlaa", sum := "1f0241e828f77c6f68fddbbdb898f3fac9f0f4399e755f8b0671daa3de2c7d7b", func := "loop.example/g00098/laws.FnTimeParts", spec := "fnTimeParts", apart := false, narrowed := true }
def FnTimePartsUptoSaid : Prop := fnTimePartsUptoRow.holds Try.pinned (OpenSpec.upto fnTimePartsSpec)

/-- 'laws.FnExactAdvance', WHERE WHAT IT READS IS OF BULK AT MOST 1048576: true; the input reads as it did. -/
def fnExactAdvanceUptoRow : OpenClaim := { program := "ytfgjfheiekhmlaa", sum := "1f0241e828f77c6f68fddbbdb898f3fac9f0f4399e755f8b0671daa3de2c7d7b", func := "loop.example/g00098/laws.FnExactAdvance", spec := "fnExactAdvance", apart := false, narrowed := true }
def FnExactAdvanceUptoSaid : Prop := fnExactAdvanceUptoRow.holds Try.pinned (OpenSpec.upto fnExactAdvanceSpec)

/-- 'laws.FnExactSetTimer', WHERE WHAT IT READS IS OF BULK AT MOST 1048576: true; the input reads as it did. -/
def fnExactSetTimerUptoRow : OpenClaim := { program := "ytfgjfheiekhmlaa", sum := "1f0241e828f77c6f68fddbbdb898f3fac9f0f4399e755f8b0671daa3de2c7d7b", func := "loop.example/g00098/laws.FnExactSetTimer", spec := "fnExactSetTimer", inPlace := ["slices.overlaps[loop.example/g00098/impl.Timer]"], unfollowed := true, recurses := true, apart := false, narrowed := true }
def FnExactSetTimerUptoSaid : Prop := fnExactSetTimerUptoRow.holds Try.pinned (OpenSpec.upto fnExactSetTimerSpec)

/-- 'laws.FnTimer', WHERE WHAT IT READS IS OF BULK AT MOST 1048576: true; the input reads as it did. -/
def fnTimerUptoRow : OpenClaim := { program := "ytfgjfheiekhmlaa", sum := "1f0241e828f77c6f68fddbbdb898f3fac9f0f4399e755f8b0671daa3de2c7d7b", func := "loop.example/g00098/laws.FnTimer", spec := "fnTimer", inPlace := ["slices.overlaps[loop.example/g00098/impl.Timer]"], unfollowed := true, recurses := true, apart := false, narrowed := true }
def FnTimerUptoSaid : Prop := fnTimerUptoRow.holds Try.pinned (OpenSpec.upto fnTimerSpec)

end Rows
end Go.Proofs.Ytfgjfheiekhmlaa
