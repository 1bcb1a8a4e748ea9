/- Go functions of the translation as Lean functions, each with a proof that its code comes to just these answers (written by a program of this session: the kit's printer, hand-proved functions in between); conditions: those that stand in each theorem. -/
import Derived.Test.YtghmhekjdjdleaaZx42
namespace Go.Proofs.Ytghmhekjdjdleaa.Z
open Go.RowKit Go.Proofs.YtghmhekjdjdleaaW.PrintWords Go.Proofs.YtghmhekjdjdleaaW.PrintLast
/-- THE ONE PURE STATEMENT of laws_FnExactCancel. -/
def laws_FnExactCancel.Pure : Prop := ∀ (l0_0 : List Int) (l0_1 : List Bool) (a1 : Int), l0_0.length ≤ 9223372036854775807 → (∀ x ∈ l0_0, (Lit.int .i64 x).wf = true) → l0_1.length ≤ 9223372036854775807 → (Lit.int .i64 a1).wf = true → ∃ k, laws_FnExactCancel.f k l0_0 l0_1 a1 = some true
end Go.Proofs.Ytghmhekjdjdleaa.Z
