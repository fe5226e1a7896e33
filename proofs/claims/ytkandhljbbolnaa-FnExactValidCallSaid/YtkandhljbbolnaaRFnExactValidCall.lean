-- written by px.py and merge.py (programs of this claim's), over the kit's print. Not trusted: Lean checks it.
import Derived.Test.YtkandhljbbolnaaM5FnExactValidCall
namespace Go.Proofs.Ytkandhljbbolnaa.Q
open Go.RowKit Go.Proofs.YtkandhljbbolnaaL.PrintWords Go.Proofs.YtkandhljbbolnaaL.PrintLast Go.Proofs.YtkandhljbbolnaaL.PrintMore
/-- The one pure statement of the law. -/
def laws_FnExactValidCall.Pure : Prop := ∀ (l0_0 : List (S155)), (l0_0.length ≤ maxLen ∧ ∀ e1 ∈ l0_0, ((Lit.int .i64 e1.f0).wf = true ∧ e1.f1.size ≤ maxLen ∧ (e1.f2.length ≤ maxLen ∧ ∀ e2 ∈ e1.f2, (Lit.int .i64 e2).wf = true) ∧ (e1.f3.length ≤ maxLen ∧ ∀ e3 ∈ e1.f3, (e3.f0.size ≤ maxLen ∧ (Lit.int .i64 e3.f1).wf = true)))) → ∃ k, laws_FnExactValidCall.f k l0_0 = some true
end Go.Proofs.Ytkandhljbbolnaa.Q
