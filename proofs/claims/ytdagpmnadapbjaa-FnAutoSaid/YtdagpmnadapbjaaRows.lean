/-
  No cell of these rows narrows 'for every input' (looked for: loops, veiled, ifaces, maps, wideKeys, modest, calm, conditions, laid).
  DERIVED. THE GIVEN ROWS OF THIS SEAT. 11 by the template 'for every input the law returns true; each argument reads behind the call as it read before'; 0 by the template 'total and deterministic' (their statements: YtdagpmnadapbjaaTotals.lean).
  GIVEN WITH THE SEED: the statements are not yours to turn. If you find one false, say at which input.
  Laid BY PROGRAM, IN A SANDBOX (cutbox-rows.mjs): the forced cells as the released guide's own fill.sh prints them over the translation 54bc63d14190675c… (all of the seat's roots in one cut). By AI agents, Wed Nov 11 2026. No macro, syntax, notation, axiom, sorry.
-/
import Derived.Test.YtdagpmnadapbjaaChecked
import GoSem.Claim
import GoSem.ClaimJoined
import GoSem.ClaimMapViews
import Derived.JoinedTies
import Derived.KernelRfl
namespace Go.Proofs.Ytdagpmnadapbjaa
/- THE CELL 'sum', in the pinned program and in every row, IS THE sha256 OF THE DUMP (.gsa) THAT YtdagpmnadapbjaaProg.lean LOADS. Nothing in Lean hashes anything: it is a label: what it is worth is what the hold of that sum in a sandbox is worth. -/
noncomputable def Try.pinned : Pinned := { name := "ytdagpmnadapbjaa", sum := "54bc63d14190675c9e742f3708a5d7e33e21642fcc9425c9a173f94ea5dfcac5", checked := Try.checked }
namespace Rows
def none {H : Type} : Left H := { results := [], args := [] }

/-- 'laws.FnExactEventOk': WHATEVER THE INPUT: true; the input reads as it did. -/
def fnExactEventOkSpec : ChangeSpec := { name := "fnExactEventOk", fn := fun _ => fun
  | [d] => { results := [.lit (.bool true)], args := [d] }
  | _ => none }
def fnExactEventOkRow : OpenClaim := { program := "ytdagpmnadapbjaa", sum := "54bc63d14190675c9e742f3708a5d7e33e21642fcc9425c9a173f94ea5dfcac5", func := "loop.example/g00098/laws.FnExactEventOk", spec := "fnExactEventOk", unfollowed := true, recurses := true, apart := false }
def FnExactEventOkSaid : Prop := fnExactEventOkRow.holds Try.pinned (OpenSpec.ofChange fnExactEventOkSpec)

/-- ITS FALSE NEIGHBOUR: 'it returns false'. Refute it at one input. -/
def fnExactEventOkWrong : ChangeSpec := { name := "fnExactEventOk", fn := fun _ => fun
  | [d] => { results := [.lit (.bool false)], args := [d] }
  | _ => none }
def FnExactEventOkWrongFalsely : Prop := fnExactEventOkRow.holds Try.pinned (OpenSpec.ofChange fnExactEventOkWrong)

/-- 'laws.FnExactNotifyOk': WHATEVER THE INPUT: true; the input reads as it did. -/
def fnExactNotifyOkSpec : ChangeSpec := { name := "fnExactNotifyOk", fn := fun _ => fun
  | [d] => { results := [.lit (.bool true)], args := [d] }
  | _ => none }
def fnExactNotifyOkRow : OpenClaim := { program := "ytdagpmnadapbjaa", sum := "54bc63d14190675c9e742f3708a5d7e33e21642fcc9425c9a173f94ea5dfcac5", func := "loop.example/g00098/laws.FnExactNotifyOk", spec := "fnExactNotifyOk", unfollowed := true, recurses := true, apart := false }
def FnExactNotifyOkSaid : Prop := fnExactNotifyOkRow.holds Try.pinned (OpenSpec.ofChange fnExactNotifyOkSpec)

/-- ITS FALSE NEIGHBOUR: 'it returns false'. Refute it at one input. -/
def fnExactNotifyOkWrong : ChangeSpec := { name := "fnExactNotifyOk", fn := fun _ => fun
  | [d] => { results := [.lit (.bool false)], args := [d] }
  | _ => none }
def FnExactNotifyOkWrongFalsely : Prop := fnExactNotifyOkRow.holds Try.pinned (OpenSpec.ofChange fnExactNotifyOkWrong)

/-- 'laws.FnExactReset': WHATEVER THE INPUT: true; the input reads as it did. -/
def fnExactResetSpec : ChangeSpec := { name := "fnExactReset", fn := fun _ => fun
  | [d] => { results := [.lit (.bool true)], args := [d] }
  | _ => none }
def fnExactResetRow : OpenClaim := { program := "ytdagpmnadapbjaa", sum := "54bc63d14190675c9e742f3708a5d7e33e21642fcc9425c9a173f94ea5dfcac5", func := "loop.example/g00098/laws.FnExactReset", spec := "fnExactReset", unfollowed := true, recurses := true, apart := false }
def FnExactResetSaid : Prop := fnExactResetRow.holds Try.pinned (OpenSpec.ofChange fnExactResetSpec)

/-- ITS FALSE NEIGHBOUR: 'it returns false'. Refute it at one input. -/
def fnExactResetWrong : ChangeSpec := { name := "fnExactReset", fn := fun _ => fun
  | [d] => { results := [.lit (.bool false)], args := [d] }
  | _ => none }
def FnExactResetWrongFalsely : Prop := fnExactResetRow.holds Try.pinned (OpenSpec.ofChange fnExactResetWrong)

/-- 'laws.FnExactStand': WHATEVER THE INPUT: true; the input reads as it did. -/
def fnExactStandSpec : ChangeSpec := { name := "fnExactStand", fn := fun _ => fun
  | [d1, d2] => { results := [.lit (.bool true)], args := [d1, d2] }
  | _ => none }
def fnExactStandRow : OpenClaim := { program := "ytdagpmnadapbjaa", sum := "54bc63d14190675c9e742f3708a5d7e33e21642fcc9425c9a173f94ea5dfcac5", func := "loop.example/g00098/laws.FnExactStand", spec := "fnExactStand", unfollowed := true, recurses := true, apart := false }
def FnExactStandSaid : Prop := fnExactStandRow.holds Try.pinned (OpenSpec.ofChange fnExactStandSpec)

/-- ITS FALSE NEIGHBOUR: 'it returns false'. Refute it at one input. -/
def fnExactStandWrong : ChangeSpec := { name := "fnExactStand", fn := fun _ => fun
  | [d1, d2] => { results := [.lit (.bool false)], args := [d1, d2] }
  | _ => none }
def FnExactStandWrongFalsely : Prop := fnExactStandRow.holds Try.pinned (OpenSpec.ofChange fnExactStandWrong)

/-- 'laws.FnExactGoOn': WHATEVER THE INPUT: true; the input reads as it did. -/
def fnExactGoOnSpec : ChangeSpec := { name := "fnExactGoOn", fn := fun _ => fun
  | [d1, d2] => { results := [.lit (.bool true)], args := [d1, d2] }
  | _ => none }
def fnExactGoOnRow : OpenClaim := { program := "ytdagpmnadapbjaa", sum := "54bc63d14190675c9e742f3708a5d7e33e21642fcc9425c9a173f94ea5dfcac5", func := "loop.example/g00098/laws.FnExactGoOn", spec := "fnExactGoOn", unfollowed := true, recurses := true, apart := false }
def FnExactGoOnSaid : Prop := fnExactGoOnRow.holds Try.pinned (OpenSpec.ofChange fnExactGoOnSpec)

/-- ITS FALSE NEIGHBOUR: 'it returns false'. Refute it at one input. -/
def fnExactGoOnWrong : ChangeSpec := { name := "fnExactGoOn", fn := fun _ => fun
  | [d1, d2] => { results := [.lit (.bool false)], args := [d1, d2] }
  | _ => none }
def FnExactGoOnWrongFalsely : Prop := fnExactGoOnRow.holds Try.pinned (OpenSpec.ofChange fnExactGoOnWrong)

/-- 'laws.FnExactTellAll': WHATEVER THE INPUT: true; the input reads as it did. -/
def fnExactTellAllSpec : ChangeSpec := { name := "fnExactTellAll", fn := fun _ => fun
  | [d] => { results := [.lit (.bool true)], args := [d] }
  | _ => none }
def fnExactTellAllRow : OpenClaim := { program := "ytdagpmnadapbjaa", sum := "54bc63d14190675c9e742f3708a5d7e33e21642fcc9425c9a173f94ea5dfcac5", func := "loop.example/g00098/laws.FnExactTellAll", spec := "fnExactTellAll", unfollowed := true, recurses := true, apart := false }
def FnExactTellAllSaid : Prop := fnExactTellAllRow.holds Try.pinned (OpenSpec.ofChange fnExactTellAllSpec)

/-- ITS FALSE NEIGHBOUR: 'it returns false'. Refute it at one input. -/
def fnExactTellAllWrong : ChangeSpec := { name := "fnExactTellAll", fn := fun _ => fun
  | [d] => { results := [.lit (.bool false)], args := [d] }
  | _ => none }
def FnExactTellAllWrongFalsely : Prop := fnExactTellAllRow.holds Try.pinned (OpenSpec.ofChange fnExactTellAllWrong)

/-- 'laws.FnExactRaise': WHATEVER THE INPUT: true; the input reads as it did. -/
def fnExactRaiseSpec : ChangeSpec := { name := "fnExactRaise", fn := fun _ => fun
  | [d] => { results := [.lit (.bool true)], args := [d] }
  | _ => none }
def fnExactRaiseRow : OpenClaim := { program := "ytdagpmnadapbjaa", sum := "54bc63d14190675c9e742f3708a5d7e33e21642fcc9425c9a173f94ea5dfcac5", func := "loop.example/g00098/laws.FnExactRaise", spec := "fnExactRaise", unfollowed := true, recurses := true, apart := false }
def FnExactRaiseSaid : Prop := fnExactRaiseRow.holds Try.pinned (OpenSpec.ofChange fnExactRaiseSpec)

/-- ITS FALSE NEIGHBOUR: 'it returns false'. Refute it at one input. -/
def fnExactRaiseWrong : ChangeSpec := { name := "fnExactRaise", fn := fun _ => fun
  | [d] => { results := [.lit (.bool false)], args := [d] }
  | _ => none }
def FnExactRaiseWrongFalsely : Prop := fnExactRaiseRow.holds Try.pinned (OpenSpec.ofChange fnExactRaiseWrong)

/-- 'laws.FnExactStepBack': WHATEVER THE INPUT: true; the input reads as it did. -/
def fnExactStepBackSpec : ChangeSpec := { name := "fnExactStepBack", fn := fun _ => fun
  | [d1, d2] => { results := [.lit (.bool true)], args := [d1, d2] }
  | _ => none }
def fnExactStepBackRow : OpenClaim := { program := "ytdagpmnadapbjaa", sum := "54bc63d14190675c9e742f3708a5d7e33e21642fcc9425c9a173f94ea5dfcac5", func := "loop.example/g00098/laws.FnExactStepBack", spec := "fnExactStepBack", unfollowed := true, recurses := true, apart := false }
def FnExactStepBackSaid : Prop := fnExactStepBackRow.holds Try.pinned (OpenSpec.ofChange fnExactStepBackSpec)

/-- ITS FALSE NEIGHBOUR: 'it returns false'. Refute it at one input. -/
def fnExactStepBackWrong : ChangeSpec := { name := "fnExactStepBack", fn := fun _ => fun
  | [d1, d2] => { results := [.lit (.bool false)], args := [d1, d2] }
  | _ => none }
def FnExactStepBackWrongFalsely : Prop := fnExactStepBackRow.holds Try.pinned (OpenSpec.ofChange fnExactStepBackWrong)

/-- 'laws.FnExactAwait': WHATEVER THE INPUT: true; the input reads as it did. -/
def fnExactAwaitSpec : ChangeSpec := { name := "fnExactAwait", fn := fun _ => fun
  | [d1, d2] => { results := [.lit (.bool true)], args := [d1, d2] }
  | _ => none }
def fnExactAwaitRow : OpenClaim := { program := "ytdagpmnadapbjaa", sum := "54bc63d14190675c9e742f3708a5d7e33e21642fcc9425c9a173f94ea5dfcac5", func := "loop.example/g00098/laws.FnExactAwait", spec := "fnExactAwait", unfollowed := true, recurses := true, apart := false }
def FnExactAwaitSaid : Prop := fnExactAwaitRow.holds Try.pinned (OpenSpec.ofChange fnExactAwaitSpec)

/-- ITS FALSE NEIGHBOUR: 'it returns false'. Refute it at one input. -/
def fnExactAwaitWrong : ChangeSpec := { name := "fnExactAwait", fn := fun _ => fun
  | [d1, d2] => { results := [.lit (.bool false)], args := [d1, d2] }
  | _ => none }
def FnExactAwaitWrongFalsely : Prop := fnExactAwaitRow.holds Try.pinned (OpenSpec.ofChange fnExactAwaitWrong)

/-- 'laws.FnAuto': WHATEVER THE INPUT: true; the input reads as it did. -/
def fnAutoSpec : ChangeSpec := { name := "fnAuto", fn := fun _ => fun
  | [d] => { results := [.lit (.bool true)], args := [d] }
  | _ => none }
def fnAutoRow : OpenClaim := { program := "ytdagpmnadapbjaa", sum := "54bc63d14190675c9e742f3708a5d7e33e21642fcc9425c9a173f94ea5dfcac5", func := "loop.example/g00098/laws.FnAuto", spec := "fnAuto", unfollowed := true, recurses := true, apart := false }
def FnAutoSaid : Prop := fnAutoRow.holds Try.pinned (OpenSpec.ofChange fnAutoSpec)

/-- ITS FALSE NEIGHBOUR: 'it returns false'. Refute it at one input. -/
def fnAutoWrong : ChangeSpec := { name := "fnAuto", fn := fun _ => fun
  | [d] => { results := [.lit (.bool false)], args := [d] }
  | _ => none }
def FnAutoWrongFalsely : Prop := fnAutoRow.holds Try.pinned (OpenSpec.ofChange fnAutoWrong)

/-- 'laws.FnExactResume': WHATEVER THE INPUT: true; the input reads as it did. -/
def fnExactResumeSpec : ChangeSpec := { name := "fnExactResume", fn := fun _ => fun
  | [d1, d2] => { results := [.lit (.bool true)], args := [d1, d2] }
  | _ => none }
def fnExactResumeRow : OpenClaim := { program := "ytdagpmnadapbjaa", sum := "54bc63d14190675c9e742f3708a5d7e33e21642fcc9425c9a173f94ea5dfcac5", func := "loop.example/g00098/laws.FnExactResume", spec := "fnExactResume", unfollowed := true, recurses := true, apart := false }
def FnExactResumeSaid : Prop := fnExactResumeRow.holds Try.pinned (OpenSpec.ofChange fnExactResumeSpec)

/-- ITS FALSE NEIGHBOUR: 'it returns false'. Refute it at one input. -/
def fnExactResumeWrong : ChangeSpec := { name := "fnExactResume", fn := fun _ => fun
  | [d1, d2] => { results := [.lit (.bool false)], args := [d1, d2] }
  | _ => none }
def FnExactResumeWrongFalsely : Prop := fnExactResumeRow.holds Try.pinned (OpenSpec.ofChange fnExactResumeWrong)

/- THE SECOND FORM. 'bulk': how many values and letters a reading holds, each counted each time it is reached (what is shared counts as often as it is met; a slice's spare places count too). A statement '..UptoSaid' is the law's where the arguments, and the package variables that the reading takes, are together of bulk at most 1048576: NARROWER than '..Said'. Prove '..Said' where nothing that the law and all that it calls make is longer than what came in: it says more and counts as full. Else prove '..UptoSaid'. A law counts once. -/
mutual
def uptoBulk {H : Type} : DataW H → Nat
  | .lit (.string bytes) => bytes.length + 1
  | .lit _ => 1
  | .nil => 1
  | .ptr d => uptoBulk d + 1
  | .slice elems spare => uptoBulkAll elems + uptoBulkAll spare + 1
  | .agg parts => uptoBulkAll parts + 1
  | .iface _ d => uptoBulk d + 1
  | .map entries => uptoBulkEntries entries + 1
  | .held _ => 1
def uptoBulkAll {H : Type} : List (DataW H) → Nat
  | [] => 0
  | d :: r => uptoBulk d + uptoBulkAll r
def uptoBulkEntries {H : Type} : List (Lit × DataW H) → Nat
  | [] => 0
  | x :: r => uptoBulkEntry x + uptoBulkEntries r
def uptoBulkEntry {H : Type} : Lit × DataW H → Nat
  | (.string bytes, d) => bytes.length + uptoBulk d + 1
  | (_, d) => uptoBulk d + 1
 end
def uptoSmall : (H : Type) → List (DataW H) → Bool := fun _ ds => decide (uptoBulkAll ds ≤ 1048576)
def OpenSpec.upto (s : _root_.Go.ChangeSpec) : _root_.Go.OpenSpec := { _root_.Go.OpenSpec.ofChange s with cond := some uptoSmall }

/-- 'laws.FnExactEventOk', WHERE WHAT IT READS IS OF BULK AT MOST 1048576: true; the input reads as it did. -/
def fnExactEventOkUptoRow : OpenClaim := { program := "ytdagpmnadapbjaa", sum := "54bc63d14190675c9e742f3708a5d7e33e21642fcc9425c9a173f94ea5dfcac5", func := "loop.example/g00098/laws.FnExactEventOk", spec := "fnExactEventOk", unfollowed := true, recurses := true, apart := false, narrowed := true }
def FnExactEventOkUptoSaid : Prop := fnExactEventOkUptoRow.holds Try.pinned (OpenSpec.upto fnExactEventOkSpec)

/-- 'laws.FnExactNotifyOk', WHERE WHAT IT READS IS OF BULK AT MOST 1048576: true; the input reads as it did. -/
def fnExactNotifyOkUptoRow : OpenClaim := { program := "ytdagpmnadapbjaa", sum := "54bc63d14190675c9e742f3708a5d7e33e21642fcc9425c9a173f94ea5dfcac5", func := "loop.example/g00098/laws.FnExactNotifyOk", spec := "fnExactNotifyOk", unfollowed := true, recurses := true, apart := false, narrowed := true }
def FnExactNotifyOkUptoSaid : Prop := fnExactNotifyOkUptoRow.holds Try.pinned (OpenSpec.upto fnExactNotifyOkSpec)

/-- 'laws.FnExactReset', WHERE WHAT IT READS IS OF BULK AT MOST 1048576: true; the input reads as it did. -/
def fnExactResetUptoRow : OpenClaim := { program := "ytdagpmnadapbjaa", sum := "54bc63d14190675c9e742f3708a5d7e33e21642fcc9425c9a173f94ea5dfcac5", func := "loop.example/g00098/laws.FnExactReset", spec := "fnExactReset", unfollowed := true, recurses := true, apart := false, narrowed := true }
def FnExactResetUptoSaid : Prop := fnExactResetUptoRow.holds Try.pinned (OpenSpec.upto fnExactResetSpec)

/-- 'laws.FnExactStand', WHERE WHAT IT READS IS OF BULK AT MOST 1048576: true; the input reads as it did. -/
def fnExactStandUptoRow : OpenClaim := { program := "ytdagpmnadapbjaa", sum := "54bc63d14190675c9e742f3708a5d7e33e21642fcc9425c9a173f94ea5dfcac5", func := "loop.example/g00098/laws.FnExactStand", spec := "fnExactStand", unfollowed := true, recurses := true, apart := false, narrowed := true }
def FnExactStandUptoSaid : Prop := fnExactStandUptoRow.holds Try.pinned (OpenSpec.upto fnExactStandSpec)

/-- 'laws.FnExactGoOn', WHERE WHAT IT READS IS OF BULK AT MOST 1048576: true; the input reads as it did. -/
def fnExactGoOnUptoRow : OpenClaim := { program := "ytdagpmnadapbjaa", sum := "54bc63d14190675c9e742f3708a5d7e33e21642fcc9425c9a173f94ea5dfcac5", func := "loop.example/g00098/laws.FnExactGoOn", spec := "fnExactGoOn", unfollowed := true, recurses := true, apart := false, narrowed := true }
def FnExactGoOnUptoSaid : Prop := fnExactGoOnUptoRow.holds Try.pinned (OpenSpec.upto fnExactGoOnSpec)

/-- 'laws.FnExactTellAll', WHERE WHAT IT READS IS OF BULK AT MOST 1048576: true; the input reads as it did. -/
def fnExactTellAllUptoRow : OpenClaim := { program := "ytdagpmnadapbjaa", sum := "54bc63d14190675c9e742f3708a5d7e33e21642fcc9425c9a173f94ea5dfcac5", func := "loop.example/g00098/laws.FnExactTellAll", spec := "fnExactTellAll", unfollowed := true, recurses := true, apart := false, narrowed := true }
def FnExactTellAllUptoSaid : Prop := fnExactTellAllUptoRow.holds Try.pinned (OpenSpec.upto fnExactTellAllSpec)

/-- 'laws.FnExactRaise', WHERE WHAT IT READS IS OF BULK AT MOST 1048576: true; the input reads as it did. -/
def fnExactRaiseUptoRow : OpenClaim := { program := "ytdagpmnadapbjaa", sum := "54bc63d14190675c9e742f3708a5d7e33e21642fcc9425c9a173f94ea5dfcac5", func := "loop.example/g00098/laws.FnExactRaise", spec := "fnExactRaise", unfollowed := true, recurses := true, apart := false, narrowed := true }
def FnExactRaiseUptoSaid : Prop := fnExactRaiseUptoRow.holds Try.pinned (OpenSpec.upto fnExactRaiseSpec)

/-- 'laws.FnExactStepBack', WHERE WHAT IT READS IS OF BULK AT MOST 1048576: true; the input reads as it did. -/
def fnExactStepBackUptoRow : OpenClaim := { program := "ytdagpmnadapbjaa", sum := "54bc63d14190675c9e742f3708a5d7e33e21642fcc9425c9a173f94ea5dfcac5", func := "loop.example/g00098/laws.FnExactStepBack", spec := "fnExactStepBack", unfollowed := true, recurses := true, apart := false, narrowed := true }
def FnExactStepBackUptoSaid : Prop := fnExactStepBackUptoRow.holds Try.pinned (OpenSpec.upto fnExactStepBackSpec)

/-- 'laws.FnExactAwait', WHERE WHAT IT READS IS OF BULK AT MOST 1048576: true; the input reads as it did. -/
def fnExactAwaitUptoRow : OpenClaim := { program := "ytdagpmnadapbjaa", sum := "54bc63d14190675c9e742f3708a5d7e33e21642fcc9425c9a173f94ea5dfcac5", func := "loop.example/g00098/laws.FnExactAwait", spec := "fnExactAwait", unfollowed := true, recurses := true, apart := false, narrowed := true }
def FnExactAwaitUptoSaid : Prop := fnExactAwaitUptoRow.holds Try.pinned (OpenSpec.upto fnExactAwaitSpec)

/-- 'laws.FnAuto', WHERE WHAT IT READS IS OF BULK AT MOST 1048576: true; the input reads as it did. -/
def fnAutoUptoRow : OpenClaim := { program := "ytdagpmnadapbjaa", sum := "54bc63d14190675c9e742f3708a5d7e33e21642fcc9425c9a173f94ea5dfcac5", func := "loop.example/g00098/laws.FnAuto", spec := "fnAuto", unfollowed := true, recurses := true, apart := false, narrowed := true }
def FnAutoUptoSaid : Prop := fnAutoUptoRow.holds Try.pinned (OpenSpec.upto fnAutoSpec)

/-- 'laws.FnExactResume', WHERE WHAT IT READS IS OF BULK AT MOST 1048576: true; the input reads as it did. -/
def fnExactResumeUptoRow : OpenClaim := { program := "ytdagpmnadapbjaa", sum := "54bc63d14190675c9e742f3708a5d7e33e21642fcc9425c9a173f94ea5dfcac5", func := "loop.example/g00098/laws.FnExactResume", spec := "fnExactResume", unfollowed := true, recurses := true, apart := false, narrowed := true }
def FnExactResumeUptoSaid : Prop := fnExactResumeUptoRow.holds Try.pinned (OpenSpec.upto fnExactResumeSpec)

end Rows
end Go.Proofs.Ytdagpmnadapbjaa
