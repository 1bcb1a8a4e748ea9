/- What the law FnExactLineOk says as a statement on numbers and lists; conditions: none, a statement alone. -/
-- Written by this session's program wip/pp.py (the kit's printer over the translation, hand-proved functions in between). Lean checks it.
import Derived.Test.YtghmhekjdjdleaaZx32
namespace Go.Proofs.Ytghmhekjdjdleaa.Z
open Go.RowKit Go.Proofs.YtghmhekjdjdleaaW.PrintWords Go.Proofs.YtghmhekjdjdleaaW.PrintLast
/-- THE ONE PURE STATEMENT of laws_FnExactLineOk. -/
def laws_FnExactLineOk.Pure : Prop := ∀ (l0 : List Int), l0.length ≤ 9223372036854775807 → (∀ x ∈ l0, (Lit.int .i64 x).wf = true) → ∃ k, laws_FnExactLineOk.f k l0 = some true
end Go.Proofs.Ytghmhekjdjdleaa.Z
