-- written by px.py and merge.py (programs of this claim's), over the kit's print. Not trusted: Lean checks it.
import Derived.Test.YtfcpbgedgedalaaM2FnExactThenTurn
namespace Go.Proofs.Ytfcpbgedgedalaa.Q
open Go.RowKit Go.Proofs.YtfcpbgedgedalaaL.PrintWords Go.Proofs.YtfcpbgedgedalaaL.PrintLast Go.Proofs.YtfcpbgedgedalaaL.PrintMore
/-- The one pure statement of the law. -/
def laws_FnExactThenTurn.Pure : Prop := ∀ (l0 : List (S105)) (l1 : List (S105)), (l0.length ≤ maxLen ∧ ∀ e1 ∈ l0, (e1.f0.size ≤ maxLen ∧ e1.f1.size ≤ maxLen)) → (l1.length ≤ maxLen ∧ ∀ e2 ∈ l1, (e2.f0.size ≤ maxLen ∧ e2.f1.size ≤ maxLen)) → ∃ k, laws_FnExactThenTurn.f k l0 l1 = some true
end Go.Proofs.Ytfcpbgedgedalaa.Q
