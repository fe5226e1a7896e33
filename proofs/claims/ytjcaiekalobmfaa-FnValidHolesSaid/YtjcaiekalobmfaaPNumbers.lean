import Derived.Test.YtjcaiekalobmfaaLMore
import Derived.Test.YtjcaiekalobmfaaPBase
import Derived.Test.YtjcaiekalobmfaaPBaseR
import Derived.Test.YtjcaiekalobmfaaQ71
namespace Go.Proofs.Ytjcaiekalobmfaa.Pure
open Go.RowKit Go.Proofs.Ytjcaiekalobmfaa.Q Go.Proofs.YtjcaiekalobmfaaL.PrintWords Go.Proofs.YtjcaiekalobmfaaL.PrintLast Go.Proofs.YtjcaiekalobmfaaL.PrintMore
set_option linter.unusedVariables false
set_option linter.unusedSimpArgs false
theorem p_aNumber {l : List Int} (h : Rdr l) (k : Nat) (hk : 1 ≤ k) {p : Int} (hp : 0 ≤ p) (hp' : p ≤ 1000000) : ∃ v, spec_aNumber.f k l p = some (v, p + 1) ∧ val v = true := by
  unfold spec_aNumber.f
  obtain ⟨v, e, hv⟩ := p_one h k hk hp hp' ([1, 2, 3, 0, 5, (-1), 7, 99, (-99)]) (by decide)
  rw [e, Option.bind_some]
  refine ⟨v, rfl, ?_⟩
  simp only [List.mem_cons, List.not_mem_nil, or_false] at hv
  rcases hv with rfl | rfl | rfl | rfl | rfl | rfl | rfl | rfl | rfl <;> rfl
end Go.Proofs.Ytjcaiekalobmfaa.Pure
