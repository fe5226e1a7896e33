-- written by px.py and merge.py (programs of this claim's), over the kit's print. Not trusted: Lean checks it.
import Derived.Test.YtlpmggokgcphiaaM5FnExactClearDefault
namespace Go.Proofs.Ytlpmggokgcphiaa.Q
open Go.RowKit Go.Proofs.YtlpmggokgcphiaaL.PrintWords Go.Proofs.YtlpmggokgcphiaaL.PrintLast Go.Proofs.YtlpmggokgcphiaaL.PrintMore
/-- The one pure statement of the law. -/
def laws_FnExactClearDefault.Pure : Prop := ∀ (l0_0 : List (S55)) (a1 : ByteArray), (l0_0.length ≤ maxLen ∧ ∀ e1 ∈ l0_0, (e1.f0.size ≤ maxLen ∧ (Lit.int .i64 e1.f1).wf = true ∧ True ∧ (Lit.int .i64 e1.f3).wf = true)) → a1.size ≤ maxLen → ∃ k, laws_FnExactClearDefault.f k l0_0 a1 = some true
end Go.Proofs.Ytlpmggokgcphiaa.Q
