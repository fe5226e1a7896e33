import Derived.Test.YtjcaiekalobmfaaLMore
import Derived.Test.YtjcaiekalobmfaaPBase
import Derived.Test.YtjcaiekalobmfaaPLoops
import Derived.Test.YtjcaiekalobmfaaPXEqString
import Derived.Test.YtjcaiekalobmfaaPXLoops
import Derived.Test.YtjcaiekalobmfaaPXString
import Derived.Test.YtjcaiekalobmfaaQ10
import Derived.Test.YtjcaiekalobmfaaQ13
import Derived.Test.YtjcaiekalobmfaaQ15
namespace Go.Proofs.Ytjcaiekalobmfaa.Pure
open Go.RowKit Go.Proofs.Ytjcaiekalobmfaa.Q Go.Proofs.YtjcaiekalobmfaaL.PrintWords Go.Proofs.YtjcaiekalobmfaaL.PrintLast Go.Proofs.YtjcaiekalobmfaaL.PrintMore
set_option linter.unusedVariables false
set_option linter.unusedSimpArgs false
theorem p_szShape (c : Int) (l : List ByteArray) (hl : l.length ≤ maxLen) (hs : ∀ x ∈ l, x.size ≤ maxLen) (k : Nat) (hk : 3000000 ≤ k) :
    ∃ r, laws_szShape.f k c l 1048576 = some r ∧ (r < 0 ∨ 0 ≤ r ∧ l.length ≤ 1048576 ∧ ∀ x ∈ l, x.size ≤ 1048576) := by
  unfold laws_szShape.f
  obtain ⟨r, hr, hc⟩ := p_szStringS l hl hs k hk 1048576 (by omega) (by omega)
  rw [hr, Option.bind_some]
  rcases hc with hc | ⟨c0, _, c1, c2⟩
  · rw [if_pos hc]
    exact ⟨-1, rfl, .inl (by omega)⟩
  · rw [if_neg (by omega)]
    exact ⟨_, rfl, .inr ⟨c0, c1, c2⟩⟩
theorem p_toShape (c : Int) (l : List ByteArray) (hl : l.length ≤ 2000000) (k : Nat) (hk : 3000000 ≤ k) : laws_toShape.f k c l = some (c, l) := by
  unfold laws_toShape.f
  rw [p_toStringS l hl k hk, Option.bind_some]
theorem p_xeqShape (c : Int) (l : List ByteArray) (hl : l.length ≤ 2000000) (k : Nat) (hk : 3000000 ≤ k) : laws_eqShape.f k c l c l = some true := by
  unfold laws_eqShape.f
  rw [if_pos rfl, p_eqStringS l hl k hk, Option.bind_some, if_pos rfl]
end Go.Proofs.Ytjcaiekalobmfaa.Pure
