/- Go functions of the translation as Lean functions, each with a proof that its code comes to just these answers (written by a program of this session: the kit's printer, hand-proved functions in between); conditions: those that stand in each theorem. -/
import Derived.Test.YtfgjfheiekhmlaaZx35
namespace Go.Proofs.Ytfgjfheiekhmlaa.Z
open Go.RowKit Go.Proofs.YtfgjfheiekhmlaaW.PrintWords Go.Proofs.YtfgjfheiekhmlaaW.PrintLast
/-- THE ONE PURE STATEMENT of laws_FnExactAdvance. -/
def laws_FnExactAdvance.Pure : Prop := ∀ (a0_0 : Int) (l0_1 : List (S68)) (a1 : Int), (Lit.int .i64 a0_0).wf = true → l0_1.length ≤ 9223372036854775807 → (∀ x ∈ l0_1, (Lit.int .i64 x.f0).wf = true ∧ (Lit.int .i64 x.f1).wf = true) → (Lit.int .i64 a1).wf = true → ∃ k, laws_FnExactAdvance.f k a0_0 l0_1 a1 = some true
end Go.Proofs.Ytfgjfheiekhmlaa.Z
