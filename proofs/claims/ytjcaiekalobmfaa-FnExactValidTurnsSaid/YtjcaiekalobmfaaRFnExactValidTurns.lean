-- written by px.py (a program of this claim's), over the kit's print. Not trusted: Lean checks it.
import Derived.Test.YtjcaiekalobmfaaQ31
namespace Go.Proofs.Ytjcaiekalobmfaa.Q
open Go.RowKit Go.Proofs.YtjcaiekalobmfaaL.PrintWords Go.Proofs.YtjcaiekalobmfaaL.PrintLast Go.Proofs.YtjcaiekalobmfaaL.PrintMore
/-- The one pure statement of the law. -/
def laws_FnExactValidTurns.Pure : Prop := ∀ (l0 : List (S97)), (l0.length ≤ maxLen ∧ ∀ e1 ∈ l0, (e1.f0.size ≤ maxLen ∧ e1.f1.size ≤ maxLen)) → ∃ k, laws_FnExactValidTurns.f k l0 = some true
end Go.Proofs.Ytjcaiekalobmfaa.Q
