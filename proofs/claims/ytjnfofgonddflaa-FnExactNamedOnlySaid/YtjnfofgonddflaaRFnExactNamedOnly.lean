-- written by px.py and merge.py (programs of this claim's), over the kit's print. Not trusted: Lean checks it.
import Derived.Test.YtjnfofgonddflaaM7FnExactNamedOnly
namespace Go.Proofs.Ytjnfofgonddflaa.Q
open Go.RowKit Go.Proofs.YtjnfofgonddflaaL.PrintWords Go.Proofs.YtjnfofgonddflaaL.PrintLast Go.Proofs.YtjnfofgonddflaaL.PrintMore
/-- The one pure statement of the law. -/
def laws_FnExactNamedOnly.Pure : Prop := ∀ (l0_0 : List (S85)), (l0_0.length ≤ maxLen ∧ ∀ e1 ∈ l0_0, (e1.f0.size ≤ maxLen ∧ (Lit.int .i64 e1.f1).wf = true ∧ True ∧ (Lit.int .i64 e1.f3).wf = true)) → ∃ k, laws_FnExactNamedOnly.f k l0_0 = some true
end Go.Proofs.Ytjnfofgonddflaa.Q
