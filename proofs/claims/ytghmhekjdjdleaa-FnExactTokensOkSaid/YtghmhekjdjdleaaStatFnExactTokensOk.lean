/- What the law FnExactTokensOk says as a statement on numbers and lists; conditions: none, a statement alone. -/
import Derived.Test.YtghmhekjdjdleaaZx34
namespace Go.Proofs.Ytghmhekjdjdleaa.Z
open Go.RowKit Go.Proofs.YtghmhekjdjdleaaW.PrintWords Go.Proofs.YtghmhekjdjdleaaW.PrintLast
def laws_FnExactTokensOk.Pure : Prop := ∀ (l0_0 : List Int) (l0_1 : List Bool), l0_0.length ≤ 9223372036854775807 → (∀ x ∈ l0_0, (Lit.int .i64 x).wf = true) → l0_1.length ≤ 9223372036854775807 → ∃ k, laws_FnExactTokensOk.f k l0_0 l0_1 = some true
end Go.Proofs.Ytghmhekjdjdleaa.Z
