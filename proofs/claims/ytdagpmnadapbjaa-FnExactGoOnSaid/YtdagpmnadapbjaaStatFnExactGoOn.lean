/- Go functions of the translation as Lean functions, each with a proof that its code comes to just these answers (written by a program of this session: the kit's printer, hand-proved functions in between); conditions: those that stand in each theorem. -/
import Derived.Test.YtdagpmnadapbjaaZx56
namespace Go.Proofs.Ytdagpmnadapbjaa.Z
open Go.RowKit Go.Proofs.YtdagpmnadapbjaaW.PrintWords Go.Proofs.YtdagpmnadapbjaaW.PrintLast
/-- THE ONE PURE STATEMENT of laws_FnExactGoOn. -/
def laws_FnExactGoOn.Pure : Prop := ∀ (a0_0 : Bool) (a0_1 : Bool) (l0_2 : List Int) (l0_3 : List Int) (a0_4 : Int) (a0_5 : Int) (a0_6 : Int) (a1 : Int), l0_2.length ≤ 9223372036854775807 → (∀ x ∈ l0_2, (Lit.int .i64 x).wf = true) → l0_3.length ≤ 9223372036854775807 → (∀ x ∈ l0_3, (Lit.int .i64 x).wf = true) → (Lit.int .i64 a0_4).wf = true → (Lit.int .i64 a0_5).wf = true → (Lit.int .i64 a0_6).wf = true → (Lit.int .i64 a1).wf = true → ∃ k, laws_FnExactGoOn.f k a0_0 a0_1 l0_2 l0_3 a0_4 a0_5 a0_6 a1 = some true
end Go.Proofs.Ytdagpmnadapbjaa.Z
