-- written by px.py and merge.py (programs of this claim's), over the kit's print. Not trusted: Lean checks it.
import Derived.Test.YtlpmggokgcphiaaM6FnExactWrappedSignature
namespace Go.Proofs.Ytlpmggokgcphiaa.Q
open Go.RowKit Go.Proofs.YtlpmggokgcphiaaL.PrintWords Go.Proofs.YtlpmggokgcphiaaL.PrintLast Go.Proofs.YtlpmggokgcphiaaL.PrintMore
/-- The one pure statement of the law. -/
def laws_FnExactWrappedSignature.Pure : Prop := ∀ (l0_0 : List (S55)) (l1_0 : List (S55)), (l0_0.length ≤ maxLen ∧ ∀ e1 ∈ l0_0, (e1.f0.size ≤ maxLen ∧ (Lit.int .i64 e1.f1).wf = true ∧ True ∧ (Lit.int .i64 e1.f3).wf = true)) → (l1_0.length ≤ maxLen ∧ ∀ e2 ∈ l1_0, (e2.f0.size ≤ maxLen ∧ (Lit.int .i64 e2.f1).wf = true ∧ True ∧ (Lit.int .i64 e2.f3).wf = true)) → ∃ k, laws_FnExactWrappedSignature.f k l0_0 l1_0 = some true
end Go.Proofs.Ytlpmggokgcphiaa.Q
