import Derived.Test.YtjcaiekalobmfaaLMore
import Derived.Test.YtjcaiekalobmfaaPBase
import Derived.Test.YtjcaiekalobmfaaPLoops
import Derived.Test.YtjcaiekalobmfaaPMTurn
import Derived.Test.YtjcaiekalobmfaaPMarkText
import Derived.Test.YtjcaiekalobmfaaPNames
import Derived.Test.YtjcaiekalobmfaaPTurnBackP
import Derived.Test.YtjcaiekalobmfaaPTurns
import Derived.Test.YtjcaiekalobmfaaPTurnsLaw
import Derived.Test.YtjcaiekalobmfaaPWide
import Derived.Test.YtjcaiekalobmfaaPXLoops
import Derived.Test.YtjcaiekalobmfaaPXTurn
import Derived.Test.YtjcaiekalobmfaaQ34
import Derived.Test.YtjcaiekalobmfaaQ69
import Derived.Test.YtjcaiekalobmfaaQ80
import Derived.Test.YtjcaiekalobmfaaRFnExactTurnBack
namespace Go.Proofs.Ytjcaiekalobmfaa.Pure
open Go.RowKit Go.Proofs.Ytjcaiekalobmfaa.Q Go.Proofs.YtjcaiekalobmfaaL.PrintWords Go.Proofs.YtjcaiekalobmfaaL.PrintLast Go.Proofs.YtjcaiekalobmfaaL.PrintMore
set_option linter.unusedVariables false
set_option linter.unusedSimpArgs false
theorem FnExactTurnBack : laws_FnExactTurnBack.Pure := by
  intro l ⟨hl, hs⟩
  obtain ⟨K, hK⟩ : ∃ K : Nat, K = 6000000000000 := ⟨_, rfl⟩
  refine ⟨K, ?_⟩
  unfold laws_FnExactTurnBack.f
  obtain ⟨r, hr, hc⟩ := p_szTurnS l hl hs K (by omega) 1048576 (by omega) (by omega)
  rw [hr, Option.bind_some]
  rcases hc with hc | ⟨c0, _, c1, c2⟩
  · rw [if_pos hc]
  rw [if_neg (by omega), p_toTurnS l (by omega) K (by omega)]
  simp only [Option.bind_some]
  have h1 : (l.map cTurn).length ≤ 1048576 := by rw [List.length_map]; exact c1
  have h2 : ∀ x ∈ l.map cTurn, x.f0.size ≤ 2000000 := by
    intro x hx
    obtain ⟨y, hy, rfl⟩ := List.mem_map.1 hx
    exact Nat.le_trans (c2 y hy).1 (by omega)
  generalize l.map cTurn = ts at h1 h2
  have hT : (if pxTurns ts = true then ts.map sw else []).length ≤ 1048576 := by
    split
    · rw [List.length_map]; omega
    · simp
  rw [p_specTurnBack ts (by omega) h2 K (by omega), p_implTurnBack ts (by omega) h2 K (by omega)]
  simp only [Option.bind_some]
  generalize (if pxTurns ts = true then ts.map sw else []) = rs at hT
  rw [p_eqTurnS rs (by omega) K (by omega), p_eqTurnS ts (by omega) K (by omega), p_markTurnS ts h1 K (by omega) 1 (by omega) (by omega), p_markTurnS rs hT K (by omega) 1 (by omega) (by omega)]
  simp only [Option.bind_some, if_true]
  rw [p_heldTurnS rs.length hT K (by omega) 1 (by omega) (by omega)]
  have n1 : ¬ ((1 : Int) + (2 * rs.length : Nat) < 0) := by omega
  have n2 : ¬ ((1 : Int) + (2 * ts.length : Nat) < 0) := by omega
  simp only [Option.bind_some, if_neg n1, if_neg n2, if_true]
end Go.Proofs.Ytjcaiekalobmfaa.Pure
