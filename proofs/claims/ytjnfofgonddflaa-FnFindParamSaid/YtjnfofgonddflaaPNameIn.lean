import Derived.Test.YtjnfofgonddflaaLMore
import Derived.Test.YtjnfofgonddflaaPBase
import Derived.Test.YtjnfofgonddflaaPDrawSig
import Derived.Test.YtjnfofgonddflaaPLoops
import Derived.Test.YtjnfofgonddflaaPNames
import Derived.Test.YtjnfofgonddflaaPNumbers
import Derived.Test.YtjnfofgonddflaaPSigs
import Derived.Test.YtjnfofgonddflaaPWide
import Derived.Test.YtjnfofgonddflaaQ30
namespace Go.Proofs.Ytjnfofgonddflaa.Pure
open Go.RowKit Go.Proofs.Ytjnfofgonddflaa.Q Go.Proofs.YtjnfofgonddflaaL.PrintWords Go.Proofs.YtjnfofgonddflaaL.PrintLast Go.Proofs.YtjnfofgonddflaaL.PrintMore
set_option linter.unusedVariables false
set_option linter.unusedSimpArgs false
theorem p_nameIn {r : List Int} (h : Rdr r) (k : Nat) (hk : 20000000 ≤ k) {p : Int} (hp : 0 ≤ p) (hp' : p ≤ 500000) : ∃ l s p', spec_nameIn.f k r p = some (l, s, p') ∧ p ≤ p' ∧ p' ≤ p + 110 ∧ l.length ≤ 8 ∧ SmallP l ∧ s.size ≤ 7 := by
  unfold spec_nameIn.f
  obtain ⟨l, q, e, h1, h2, h3, h4⟩ := p_someSig h k hk hp (by omega)
  rw [e, Option.bind_some]
  dsimp only
  split
  · obtain ⟨v, e, _, _⟩ := p_pick h k (by omega) (p := q) (by omega) (by omega) (n := 5) (by omega)
    rw [e, Option.bind_some]
    dsimp only
    split
    · obtain ⟨i, e, hi, hi'⟩ := p_pick h k (by omega) (p := q + 1) (by omega) (by omega) (n := (l.length : Int)) (by omega)
      rw [e, Option.bind_some]
      dsimp only
      obtain ⟨n, rfl⟩ := Int.eq_ofNat_of_zero_le hi
      have hm := h4 _ (getD_mem l paz n (by omega))
      rw [rdpa, if_pos hi, if_pos hi']
      exact ⟨_, _, _, rfl, by omega, by omega, h3, h4, hm⟩
    · obtain ⟨s, e, hs⟩ := p_anyName h k (by omega) (p := q + 1) (by omega) (by omega)
      rw [e, Option.bind_some]
      exact ⟨_, _, _, rfl, by omega, by omega, h3, h4, hs⟩
  · obtain ⟨s, e, hs⟩ := p_anyName h k (by omega) (p := q) (by omega) (by omega)
    rw [e, Option.bind_some]
    exact ⟨_, _, _, rfl, by omega, by omega, h3, h4, hs⟩
end Go.Proofs.Ytjnfofgonddflaa.Pure
