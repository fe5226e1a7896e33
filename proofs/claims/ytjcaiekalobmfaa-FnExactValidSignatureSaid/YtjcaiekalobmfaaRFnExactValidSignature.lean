-- written by px.py (a program of this claim's), over the kit's print. Not trusted: Lean checks it.
import Derived.Test.YtjcaiekalobmfaaQ95
namespace Go.Proofs.Ytjcaiekalobmfaa.Q
open Go.RowKit Go.Proofs.YtjcaiekalobmfaaL.PrintWords Go.Proofs.YtjcaiekalobmfaaL.PrintLast Go.Proofs.YtjcaiekalobmfaaL.PrintMore
/-- The one pure statement of the law. -/
def laws_FnExactValidSignature.Pure : Prop := ∀ (l0_0 : List (S150)), (l0_0.length ≤ maxLen ∧ ∀ e1 ∈ l0_0, (e1.f0.size ≤ maxLen ∧ (Lit.int .i64 e1.f1).wf = true ∧ True ∧ (Lit.int .i64 e1.f3).wf = true)) → ∃ k, laws_FnExactValidSignature.f k l0_0 = some true
end Go.Proofs.Ytjcaiekalobmfaa.Q
