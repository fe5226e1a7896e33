-- written by px.py (a program of this claim's), over the kit's print. Not trusted: Lean checks it.
import Derived.Test.YtjcaiekalobmfaaQ16
namespace Go.Proofs.Ytjcaiekalobmfaa.Q
open Go.RowKit Go.Proofs.YtjcaiekalobmfaaL.PrintWords Go.Proofs.YtjcaiekalobmfaaL.PrintLast Go.Proofs.YtjcaiekalobmfaaL.PrintMore
/-- The one pure statement of the law. -/
def laws_FnExactValidShape.Pure : Prop := ∀ (a0_0 : Int) (l0_1 : List ByteArray), (Lit.int .i64 a0_0).wf = true → (l0_1.length ≤ maxLen ∧ ∀ e1 ∈ l0_1, e1.size ≤ maxLen) → ∃ k, laws_FnExactValidShape.f k a0_0 l0_1 = some true
end Go.Proofs.Ytjcaiekalobmfaa.Q
