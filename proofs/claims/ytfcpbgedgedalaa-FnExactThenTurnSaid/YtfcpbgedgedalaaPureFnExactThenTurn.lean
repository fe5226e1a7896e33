-- written by px.py and merge.py (programs of this claim's), over the kit's print. Not trusted: Lean checks it.
import Derived.Test.YtfcpbgedgedalaaLMore
import Derived.Test.YtfcpbgedgedalaaN0FnExactThenTurn
import Derived.Test.YtfcpbgedgedalaaM0FnExactThenTurn
import Derived.Test.YtfcpbgedgedalaaM1FnExactThenTurn
import Derived.Test.YtfcpbgedgedalaaM2FnExactThenTurn
import Derived.Test.YtfcpbgedgedalaaRFnExactThenTurn
namespace Go.Proofs.Ytfcpbgedgedalaa.Pure
open Go.RowKit Go.Proofs.Ytfcpbgedgedalaa.Q Go.Proofs.YtfcpbgedgedalaaL.PrintWords Go.Proofs.YtfcpbgedgedalaaL.PrintLast Go.Proofs.YtfcpbgedgedalaaL.PrintMore
set_option linter.unusedVariables false
set_option linter.unusedSimpArgs false
theorem FnExactThenTurn : laws_FnExactThenTurn.Pure := by
  intro a b ⟨hl, hs⟩ ⟨hl2, hs2⟩
  obtain ⟨K, hK⟩ : ∃ K : Nat, K = 6000000000000 := ⟨_, rfl⟩
  refine ⟨K, ?_⟩
  unfold laws_FnExactThenTurn.f
  obtain ⟨r, hr, hc⟩ := p_szTurnS a hl hs K (by omega) 1048576 (by omega) (by omega)
  rw [hr, Option.bind_some]
  rcases hc with hc | ⟨c0, c9, c1, c2⟩
  · rw [if_pos hc]
  rw [if_neg (by omega)]
  obtain ⟨r2, hr2, hd⟩ := p_szTurnS b hl2 hs2 K (by omega) r (by omega) (by omega)
  rw [hr2, Option.bind_some]
  rcases hd with hd | ⟨d0, d9, d1, d2⟩
  · rw [if_pos hd]
  rw [if_neg (by omega), p_toTurnS a (by omega) K (by omega), p_toTurnS b (by omega) K (by omega)]
  simp only [Option.bind_some]
  have h1 : (a.map cTurn).length ≤ 1048576 := by rw [List.length_map]; exact c1
  have h2 : ∀ x ∈ a.map cTurn, x.f0.size ≤ 2000000 := by
    intro x hx
    obtain ⟨y, hy, rfl⟩ := List.mem_map.1 hx
    exact Nat.le_trans (c2 y hy).1 (by omega)
  have h3 : (b.map cTurn).length ≤ 1048576 := by rw [List.length_map]; exact d1
  have h4 : ∀ x ∈ b.map cTurn, x.f0.size ≤ 2000000 := by
    intro x hx
    obtain ⟨y, hy, rfl⟩ := List.mem_map.1 hx
    exact Nat.le_trans (d2 y hy).1 (by omega)
  generalize a.map cTurn = ts at h1 h2
  generalize b.map cTurn = us at h3 h4
  have hT := thenT_len ts us
  rw [p_specThen ts us (by omega) (by omega) h2 h4 K (by omega), p_implThen ts us (by omega) (by omega) h2 h4 K (by omega)]
  simp only [Option.bind_some]
  generalize thenT ts us = out at hT
  obtain ⟨rs, ok⟩ := out
  dsimp only at hT ⊢
  replace hT : rs.length ≤ 1048576 := by omega
  rw [p_eqTurnS rs (by omega) K (by omega), p_eqTurnS ts (by omega) K (by omega), p_eqTurnS us (by omega) K (by omega), p_markTurnS ts h1 K (by omega) 1 (by omega) (by omega)]
  simp only [Option.bind_some, if_true, bne_self_eq_false, Bool.false_eq_true, if_false]
  rw [p_markTurnS us h3 K (by omega) _ (by omega) (by omega), p_markTurnS rs hT K (by omega) 1 (by omega) (by omega)]
  simp only [Option.bind_some, if_true]
  rw [p_heldTurnS rs.length hT K (by omega) 1 (by omega) (by omega)]
  have n1 : ¬ ((1 : Int) + (2 * rs.length : Nat) < 0) := by omega
  have n2 : ¬ ((1 : Int) + (2 * ts.length : Nat) + (2 * us.length : Nat) < 0) := by omega
  simp only [Option.bind_some, if_neg n1, if_neg n2, if_true]
end Go.Proofs.Ytfcpbgedgedalaa.Pure
