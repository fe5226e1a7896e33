-- written by px.py (a program of this claim's), over the kit's print. Not trusted: Lean checks it.
import Derived.Test.YtkandhljbbolnaaM4FnExactFlatOf
namespace Go.Proofs.Ytkandhljbbolnaa.Q
open Go.RowKit Go.Proofs.YtkandhljbbolnaaL.PrintWords Go.Proofs.YtkandhljbbolnaaL.PrintLast Go.Proofs.YtkandhljbbolnaaL.PrintMore
/-- The one pure statement of the law. -/
def laws_FnExactFlatOf.Pure : Prop := ∀ (a0_0 : Int) (l0_1 : List ByteArray), (Lit.int .i64 a0_0).wf = true → (l0_1.length ≤ maxLen ∧ ∀ e1 ∈ l0_1, e1.size ≤ maxLen) → ∃ k, laws_FnExactFlatOf.f k a0_0 l0_1 = some true
end Go.Proofs.Ytkandhljbbolnaa.Q
