-- written by px.py and merge.py (programs of this claim's), over the kit's print. Not trusted: Lean checks it.
import Derived.Test.YtlpmggokgcphiaaM8FnExactAddParam
namespace Go.Proofs.Ytlpmggokgcphiaa.Q
open Go.RowKit Go.Proofs.YtlpmggokgcphiaaL.PrintWords Go.Proofs.YtlpmggokgcphiaaL.PrintLast Go.Proofs.YtlpmggokgcphiaaL.PrintMore
/-- The one pure statement of the law. -/
def laws_FnExactAddParam.Pure : Prop := ∀ (l0_0 : List (S55)) (a1_0 : ByteArray) (a1_1 : Int) (a1_2 : Bool) (a1_3 : Int), (l0_0.length ≤ maxLen ∧ ∀ e1 ∈ l0_0, (e1.f0.size ≤ maxLen ∧ (Lit.int .i64 e1.f1).wf = true ∧ True ∧ (Lit.int .i64 e1.f3).wf = true)) → a1_0.size ≤ maxLen → (Lit.int .i64 a1_1).wf = true → True → (Lit.int .i64 a1_3).wf = true → ∃ k, laws_FnExactAddParam.f k l0_0 a1_0 a1_1 a1_2 a1_3 = some true
end Go.Proofs.Ytlpmggokgcphiaa.Q
