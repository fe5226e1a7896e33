import Derived.Test.YtkandhljbbolnaaLMore
import Derived.Test.YtkandhljbbolnaaPAnyNumber
import Derived.Test.YtkandhljbbolnaaPBase
import Derived.Test.YtkandhljbbolnaaPGoodFlat
import Derived.Test.YtkandhljbbolnaaPLoops
import Derived.Test.YtkandhljbbolnaaPNames
import Derived.Test.YtkandhljbbolnaaPNumbers
import Derived.Test.YtkandhljbbolnaaPPairs
import Derived.Test.YtkandhljbbolnaaPPutPair
import Derived.Test.YtkandhljbbolnaaQ48
namespace Go.Proofs.Ytkandhljbbolnaa.Pure
open Go.RowKit Go.Proofs.Ytkandhljbbolnaa.Q Go.Proofs.YtkandhljbbolnaaL.PrintWords Go.Proofs.YtkandhljbbolnaaL.PrintLast Go.Proofs.YtkandhljbbolnaaL.PrintMore
set_option linter.unusedVariables false
set_option linter.unusedSimpArgs false
theorem p_someFlat {r : List Int} (h : Rdr r) (k : Nat) (hk : 5000000 ≤ k) {p : Int} (hp : 0 ≤ p) (hp' : p ≤ 700000) : ∃ ps l p', spec_someFlat.f k r p = some (ps, l, p') ∧ p ≤ p' ∧ p' ≤ p + 40 ∧ ps.length ≤ 9 ∧ l.length ≤ 4 ∧ ∀ x ∈ l, x.f0.size ≤ 7 := by
  unfold spec_someFlat.f
  obtain ⟨ps, l, p1, e, h1, h2, h3, h4, h5⟩ := p_goodFlat h k hk hp hp'
  rw [e, Option.bind_some]
  dsimp only
  obtain ⟨v, e, _, _⟩ := p_pick h k (by omega) (p := p1) (by omega) (by omega) (n := 24) (by omega)
  rw [e, Option.bind_some]
  dsimp only
  split
  · obtain ⟨v, e, _⟩ := p_one h k (by omega) (p := p1 + 1) (by omega) (by omega) ([100, (-100)]) (by decide)
    rw [e, Option.bind_some]
    dsimp only
    rw [if_pos (by omega)]
    exact ⟨_, _, _, rfl, by omega, by omega, by simp; omega, by omega, h5⟩
  · split
    · obtain ⟨s, e, hs⟩ := p_anyName h k (by omega) (p := p1 + 1) (by omega) (by omega)
      rw [e, Option.bind_some]
      dsimp only
      obtain ⟨v, e, _, _⟩ := p_anyNumber h k (by omega) (p := p1 + 1 + 2) (by omega) (by omega)
      rw [e, Option.bind_some]
      dsimp only
      rw [if_pos (by omega)]
      refine ⟨_, _, _, rfl, by omega, by omega, by omega, by simp; omega, fun x hx => ?_⟩
      simp only [List.mem_append, List.mem_singleton] at hx
      rcases hx with hx | rfl
      · exact h5 x hx
      · exact hs
    · split
      · rw [if_pos (by omega)]
        exact ⟨_, _, _, rfl, by omega, by omega, by simp, by omega, h5⟩
      · exact ⟨_, _, _, rfl, by omega, by omega, by omega, by omega, h5⟩
end Go.Proofs.Ytkandhljbbolnaa.Pure
