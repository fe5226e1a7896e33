import Derived.Test.YtkandhljbbolnaaLMore
import Derived.Test.YtkandhljbbolnaaPBase
import Derived.Test.YtkandhljbbolnaaPLoops
import Derived.Test.YtkandhljbbolnaaPXEqFlat
import Derived.Test.YtkandhljbbolnaaPXInt
import Derived.Test.YtkandhljbbolnaaPXLoops
import Derived.Test.YtkandhljbbolnaaPXPair
import Derived.Test.YtkandhljbbolnaaQ2
import Derived.Test.YtkandhljbbolnaaQ9
namespace Go.Proofs.Ytkandhljbbolnaa.Pure
open Go.RowKit Go.Proofs.Ytkandhljbbolnaa.Q Go.Proofs.YtkandhljbbolnaaL.PrintWords Go.Proofs.YtkandhljbbolnaaL.PrintLast Go.Proofs.YtkandhljbbolnaaL.PrintMore
set_option linter.unusedVariables false
set_option linter.unusedSimpArgs false
theorem p_szFlat (ps : List Int) (l : List S134) (hp : ps.length ≤ maxLen) (hl : l.length ≤ maxLen) (hs : ∀ x ∈ l, x.f0.size ≤ maxLen) (k : Nat) (hk : 3000000 ≤ k) :
    ∃ r, laws_szFlat.f k ps l 1048576 = some r ∧ (r < 0 ∨ 0 ≤ r ∧ ps.length ≤ 1048576 ∧ l.length ≤ 1048576 ∧ ∀ x ∈ l, x.f0.size ≤ 1048576) := by
  unfold laws_szFlat.f
  obtain ⟨r, hr, hc⟩ := p_szIntS ps hp 1048576 (by omega) (by omega)
  rw [hr, Option.bind_some]
  rcases hc with hc | ⟨c0, c1, c2⟩
  · rw [if_pos hc]
    exact ⟨-1, rfl, .inl (by omega)⟩
  · rw [if_neg (by omega)]
    obtain ⟨q, hq, hd⟩ := p_szPairS l hl hs k hk r c0 c1
    rw [hq, Option.bind_some]
    rcases hd with hd | ⟨d0, d1, d2, d3⟩
    · rw [if_pos hd]
      exact ⟨-1, rfl, .inl (by omega)⟩
    · rw [if_neg (by omega)]
      exact ⟨_, rfl, .inr ⟨d0, c2, d2, d3⟩⟩
theorem p_toFlat (ps : List Int) (l : List S134) (hp : ps.length ≤ 2000000) (hl : l.length ≤ 2000000) (k : Nat) (hk : 3000000 ≤ k) : laws_toFlat.f k ps l = some (ps, l.map cPair) := by
  unfold laws_toFlat.f
  rw [p_toIntS ps hp k hk, Option.bind_some, p_toPairS l hl k hk, Option.bind_some]
/-- What a law's flat call is. -/
theorem cPair_small {l : List S134} (h : ∀ x ∈ l, x.f0.size ≤ 1048576) : ∀ x ∈ l.map cPair, x.f0.size ≤ 2000000 := by
  intro x hx
  obtain ⟨y, hy, rfl⟩ := List.mem_map.1 hx
  exact Nat.le_trans (h y hy) (by omega)
end Go.Proofs.Ytkandhljbbolnaa.Pure
