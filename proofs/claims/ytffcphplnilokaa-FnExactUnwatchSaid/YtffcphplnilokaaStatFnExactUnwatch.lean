/- Go functions of the translation as Lean functions, each with a proof that its code comes to just these answers (written by a program of this session: the kit's printer, hand-proved functions in between); conditions: those that stand in each theorem. -/
import Derived.Test.YtffcphplnilokaaZx57
namespace Go.Proofs.Ytffcphplnilokaa.Z
open Go.RowKit Go.Proofs.YtffcphplnilokaaW.PrintWords Go.Proofs.YtffcphplnilokaaW.PrintLast
/-- THE ONE PURE STATEMENT of laws_FnExactUnwatch. -/
def laws_FnExactUnwatch.Pure : Prop := ∀ (a0_0 : Int) (a0_1 : Int) (a0_2 : ByteArray) (a0_3 : Int) (a0_4 : Bool) (l0_5 : List Int) (l0_6 : List Int) (a1 : Int), (Lit.int .i64 a0_0).wf = true → (Lit.int .i64 a0_1).wf = true → a0_2.size ≤ maxLen → (Lit.int .i64 a0_3).wf = true → l0_5.length ≤ 9223372036854775807 → (∀ x ∈ l0_5, (Lit.int .i64 x).wf = true) → l0_6.length ≤ 9223372036854775807 → (∀ x ∈ l0_6, (Lit.int .i64 x).wf = true) → (Lit.int .i64 a1).wf = true → ∃ k, laws_FnExactUnwatch.f k a0_0 a0_1 a0_2 a0_3 a0_4 l0_5 l0_6 a1 = some true
end Go.Proofs.Ytffcphplnilokaa.Z
