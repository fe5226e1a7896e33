import Derived.Test.YtjcaiekalobmfaaLMore
import Derived.Test.YtjcaiekalobmfaaPBase
import Derived.Test.YtjcaiekalobmfaaPLoops
import Derived.Test.YtjcaiekalobmfaaPXEqInt
import Derived.Test.YtjcaiekalobmfaaPXInt
import Derived.Test.YtjcaiekalobmfaaPXLoops
import Derived.Test.YtjcaiekalobmfaaPXPair
import Derived.Test.YtjcaiekalobmfaaQ36
import Derived.Test.YtjcaiekalobmfaaQ43
import Derived.Test.YtjcaiekalobmfaaQ61
namespace Go.Proofs.Ytjcaiekalobmfaa.Pure
open Go.RowKit Go.Proofs.Ytjcaiekalobmfaa.Q Go.Proofs.YtjcaiekalobmfaaL.PrintWords Go.Proofs.YtjcaiekalobmfaaL.PrintLast Go.Proofs.YtjcaiekalobmfaaL.PrintMore
set_option linter.unusedVariables false
set_option linter.unusedSimpArgs false
theorem p_szFlat (ps : List Int) (l : List S138) (hp : ps.length ≤ maxLen) (hl : l.length ≤ maxLen) (hs : ∀ x ∈ l, x.f0.size ≤ maxLen) (k : Nat) (hk : 3000000 ≤ k) :
    ∃ r, laws_szFlat.f k ps l 1048576 = some r ∧ (r < 0 ∨ 0 ≤ r ∧ ps.length ≤ 1048576 ∧ l.length ≤ 1048576 ∧ ∀ x ∈ l, x.f0.size ≤ 1048576) := by
  unfold laws_szFlat.f
  obtain ⟨r, hr, hc⟩ := p_szIntS ps hp 1048576 (by omega) (by omega)
  rw [hr, Option.bind_some]
  rcases hc with hc | ⟨c0, c1, c2⟩
  · rw [if_pos hc]
    exact ⟨-1, rfl, .inl (by omega)⟩
  · rw [if_neg (by omega)]
    obtain ⟨q, hq, hd⟩ := p_szPairS l hl hs k hk r c0 c1
    rw [hq, Option.bind_some]
    rcases hd with hd | ⟨d0, d1, d2, d3⟩
    · rw [if_pos hd]
      exact ⟨-1, rfl, .inl (by omega)⟩
    · rw [if_neg (by omega)]
      exact ⟨_, rfl, .inr ⟨d0, c2, d2, d3⟩⟩
theorem p_toFlat (ps : List Int) (l : List S138) (hp : ps.length ≤ 2000000) (hl : l.length ≤ 2000000) (k : Nat) (hk : 3000000 ≤ k) : laws_toFlat.f k ps l = some (ps, l.map cPair) := by
  unfold laws_toFlat.f
  rw [p_toIntS ps hp k hk, Option.bind_some, p_toPairS l hl k hk, Option.bind_some]
theorem p_xeqFlat (ps : List Int) (l : List S116) (hp : ps.length ≤ 2000000) (hl : l.length ≤ 2000000) (k : Nat) (hk : 3000000 ≤ k) : laws_eqFlat.f k ps l ps l = some true := by
  unfold laws_eqFlat.f
  rw [p_eqIntS ps hp k hk, Option.bind_some, if_pos rfl, p_eqPairS l hl k hk, Option.bind_some, if_pos rfl]
/-- What a law's flat call is. -/
theorem cPair_small {l : List S138} (h : ∀ x ∈ l, x.f0.size ≤ 1048576) : ∀ x ∈ l.map cPair, x.f0.size ≤ 2000000 := by
  intro x hx
  obtain ⟨y, hy, rfl⟩ := List.mem_map.1 hx
  exact Nat.le_trans (h y hy) (by omega)
end Go.Proofs.Ytjcaiekalobmfaa.Pure
