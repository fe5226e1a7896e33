-- written by px.py (a program of this claim's), over the kit's print. Not trusted: Lean checks it.
import Derived.Test.YtjcaiekalobmfaaQ66
namespace Go.Proofs.Ytjcaiekalobmfaa.Q
open Go.RowKit Go.Proofs.YtjcaiekalobmfaaL.PrintWords Go.Proofs.YtjcaiekalobmfaaL.PrintLast Go.Proofs.YtjcaiekalobmfaaL.PrintMore
/-- The one pure statement of the law. -/
def laws_FnExactMethodFlat.Pure : Prop := ∀ (a0 : Int) (l1_0 : List Int) (l1_1 : List (S138)), (Lit.int .i64 a0).wf = true → (l1_0.length ≤ maxLen ∧ ∀ e1 ∈ l1_0, (Lit.int .i64 e1).wf = true) → (l1_1.length ≤ maxLen ∧ ∀ e2 ∈ l1_1, (e2.f0.size ≤ maxLen ∧ (Lit.int .i64 e2.f1).wf = true)) → ∃ k, laws_FnExactMethodFlat.f k a0 l1_0 l1_1 = some true
end Go.Proofs.Ytjcaiekalobmfaa.Q
