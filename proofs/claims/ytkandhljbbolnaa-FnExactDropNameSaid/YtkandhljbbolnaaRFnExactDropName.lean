-- written by px.py and merge.py (programs of this claim's), over the kit's print. Not trusted: Lean checks it.
import Derived.Test.YtkandhljbbolnaaM4FnExactDropName
namespace Go.Proofs.Ytkandhljbbolnaa.Q
open Go.RowKit Go.Proofs.YtkandhljbbolnaaL.PrintWords Go.Proofs.YtkandhljbbolnaaL.PrintLast Go.Proofs.YtkandhljbbolnaaL.PrintMore
/-- The one pure statement of the law. -/
def laws_FnExactDropName.Pure : Prop := ∀ (l0_0 : List Int) (l0_1 : List (S134)) (a1 : ByteArray), (l0_0.length ≤ maxLen ∧ ∀ e1 ∈ l0_0, (Lit.int .i64 e1).wf = true) → (l0_1.length ≤ maxLen ∧ ∀ e2 ∈ l0_1, (e2.f0.size ≤ maxLen ∧ (Lit.int .i64 e2.f1).wf = true)) → a1.size ≤ maxLen → ∃ k, laws_FnExactDropName.f k l0_0 l0_1 a1 = some true
end Go.Proofs.Ytkandhljbbolnaa.Q
