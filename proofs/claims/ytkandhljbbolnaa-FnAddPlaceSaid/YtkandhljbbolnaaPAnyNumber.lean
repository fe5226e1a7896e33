import Derived.Test.YtkandhljbbolnaaLMore
import Derived.Test.YtkandhljbbolnaaPBase
import Derived.Test.YtkandhljbbolnaaPNumbers
import Derived.Test.YtkandhljbbolnaaQ31
namespace Go.Proofs.Ytkandhljbbolnaa.Pure
open Go.RowKit Go.Proofs.Ytkandhljbbolnaa.Q Go.Proofs.YtkandhljbbolnaaL.PrintWords Go.Proofs.YtkandhljbbolnaaL.PrintLast Go.Proofs.YtkandhljbbolnaaL.PrintMore
set_option linter.unusedVariables false
set_option linter.unusedSimpArgs false
theorem p_anyNumber {l : List Int} (h : Rdr l) (k : Nat) (hk : 1 ≤ k) {p : Int} (hp : 0 ≤ p) (hp' : p ≤ 999999) : ∃ v, spec_anyNumber.f k l p = some (v, p + 2) ∧ -100 ≤ v ∧ v ≤ 100 := by
  unfold spec_anyNumber.f
  obtain ⟨v, e, _, _⟩ := p_pick h k hk hp (by omega) (n := 16) (by omega)
  have e2 : p + 1 + 1 = p + 2 := by omega
  rw [e, Option.bind_some]
  dsimp only
  split
  · obtain ⟨v, e, hv⟩ := p_one h k hk (p := p + 1) (by omega) (by omega) ([100, (-100)]) (by decide)
    rw [e, Option.bind_some, e2]
    refine ⟨v, rfl, ?_⟩
    simp only [List.mem_cons, List.not_mem_nil, or_false] at hv
    omega
  · obtain ⟨v, e, hv⟩ := p_aNumber h k hk (p := p + 1) (by omega) (by omega)
    rw [e, Option.bind_some, e2]
    refine ⟨v, rfl, ?_⟩
    unfold val at hv
    simp at hv
    omega
end Go.Proofs.Ytkandhljbbolnaa.Pure
