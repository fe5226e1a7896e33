-- written by px.py (a program of this claim's), over the kit's print. Not trusted: Lean checks it.
import Derived.Test.YtjcaiekalobmfaaQ9
namespace Go.Proofs.Ytjcaiekalobmfaa.Q
open Go.RowKit Go.Proofs.YtjcaiekalobmfaaL.PrintWords Go.Proofs.YtjcaiekalobmfaaL.PrintLast Go.Proofs.YtjcaiekalobmfaaL.PrintMore
/-- The one pure statement of the law. -/
def laws_FnExactProblemText.Pure : Prop := ∀ (a0_0 : Int) (a0_1 : ByteArray), (Lit.int .i64 a0_0).wf = true → a0_1.size ≤ maxLen → ∃ k, laws_FnExactProblemText.f k a0_0 a0_1 = some true
end Go.Proofs.Ytjcaiekalobmfaa.Q
