import Derived.Test.YtjcaiekalobmfaaLMore
import Derived.Test.YtjcaiekalobmfaaPBase
import Derived.Test.YtjcaiekalobmfaaPLoops
import Derived.Test.YtjcaiekalobmfaaPTurns
import Derived.Test.YtjcaiekalobmfaaPWide
import Derived.Test.YtjcaiekalobmfaaPXLoops
import Derived.Test.YtjcaiekalobmfaaPXTurn
import Derived.Test.YtjcaiekalobmfaaQ25
import Derived.Test.YtjcaiekalobmfaaQ28
import Derived.Test.YtjcaiekalobmfaaQ31
import Derived.Test.YtjcaiekalobmfaaRFnExactValidTurns
namespace Go.Proofs.Ytjcaiekalobmfaa.Pure
open Go.RowKit Go.Proofs.Ytjcaiekalobmfaa.Q Go.Proofs.YtjcaiekalobmfaaL.PrintWords Go.Proofs.YtjcaiekalobmfaaL.PrintLast Go.Proofs.YtjcaiekalobmfaaL.PrintMore
set_option linter.unusedVariables false
set_option linter.unusedSimpArgs false
theorem FnExactValidTurns : laws_FnExactValidTurns.Pure := by
  intro l ⟨hl, hs⟩
  obtain ⟨K, hK⟩ : ∃ K : Nat, K = 6000000000000 := ⟨_, rfl⟩
  refine ⟨K, ?_⟩
  unfold laws_FnExactValidTurns.f
  obtain ⟨r, hr, hc⟩ := p_szTurnS l hl hs K (by omega) 1048576 (by omega) (by omega)
  rw [hr, Option.bind_some]
  rcases hc with hc | ⟨c0, _, c1, c2⟩
  · rw [if_pos hc]
  rw [if_neg (by omega), p_toTurnS l (by omega) K (by omega)]
  simp only [Option.bind_some]
  have h1 : (l.map cTurn).length ≤ 1048576 := by rw [List.length_map]; exact c1
  have h2 : ∀ x ∈ l.map cTurn, x.f0.size ≤ 2000000 := by
    intro x hx
    obtain ⟨y, hy, rfl⟩ := List.mem_map.1 hx
    exact Nat.le_trans (c2 y hy).1 (by omega)
  generalize l.map cTurn = ts at h1 h2
  unfold spec_ValidTurns.f
  rw [p_specTurns ts (by omega) h2 K (by omega), p_implTurns ts h2]
  simp only [Option.bind_some]
  rw [p_eqTurnS ts (by omega) K (by omega)]
  simp
end Go.Proofs.Ytjcaiekalobmfaa.Pure
