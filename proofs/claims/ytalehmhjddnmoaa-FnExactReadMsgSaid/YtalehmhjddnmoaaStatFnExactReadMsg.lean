/- Go functions of the translation as Lean functions, each with a proof that its code comes to just these answers (written by a program of this session: the kit's printer, hand-proved functions in between); conditions: those that stand in each theorem. -/
import Derived.Test.YtalehmhjddnmoaaZx39
namespace Go.Proofs.Ytalehmhjddnmoaa.Z
open Go.RowKit Go.Proofs.YtalehmhjddnmoaaW.PrintWords Go.Proofs.YtalehmhjddnmoaaW.PrintLast
/-- THE ONE PURE STATEMENT of laws_FnExactReadMsg. -/
def laws_FnExactReadMsg.Pure : Prop := ∀ (a0 : ByteArray), a0.size ≤ maxLen → ∃ k, laws_FnExactReadMsg.f k a0 = some true
end Go.Proofs.Ytalehmhjddnmoaa.Z
