import Derived.Test.YtjcaiekalobmfaaLMore
import Derived.Test.YtjcaiekalobmfaaPBase
import Derived.Test.YtjcaiekalobmfaaPLoops
import Derived.Test.YtjcaiekalobmfaaPNames
import Derived.Test.YtjcaiekalobmfaaPTurns
import Derived.Test.YtjcaiekalobmfaaPTurnsLaw
import Derived.Test.YtjcaiekalobmfaaPWide
import Derived.Test.YtjcaiekalobmfaaQ34
import Derived.Test.YtjcaiekalobmfaaQ68
import Derived.Test.YtjcaiekalobmfaaQ69
namespace Go.Proofs.Ytjcaiekalobmfaa.Pure
open Go.RowKit Go.Proofs.Ytjcaiekalobmfaa.Q Go.Proofs.YtjcaiekalobmfaaL.PrintWords Go.Proofs.YtjcaiekalobmfaaL.PrintLast Go.Proofs.YtjcaiekalobmfaaL.PrintMore
set_option linter.unusedVariables false
set_option linter.unusedSimpArgs false
theorem specTurnBack_l0 (l : List TU) (hl : l.length ≤ 2000000) : ∀ (d k i : Nat) (acc : List TU), i + d = l.length → acc.length ≤ i → d < k → spec_TurnBack.l0 k l acc (i : Int) = some (acc ++ (l.drop i).map sw) := by
  intro d
  induction d with
  | zero =>
    intro k i acc h ha hk
    obtain ⟨k, rfl⟩ : ∃ m, k = m + 1 := ⟨k - 1, by omega⟩
    simp only [spec_TurnBack.l0]
    rw [if_neg (by omega), List.drop_of_length_le (by omega)]
    simp
  | succ d ih =>
    intro k i acc h ha hk
    obtain ⟨k, rfl⟩ : ∃ m, k = m + 1 := ⟨k - 1, by omega⟩
    simp only [spec_TurnBack.l0]
    rw [if_pos (by omega), if_pos (by omega), if_pos (by omega), wrap_succ (n := l.length) (by omega) (by omega), ih k (i + 1) _ (by omega) (by simp; omega) (by omega), rdtu, drop_getD l tuz i (by omega)]
    simp [sw]
theorem p_specTurnBack (l : List TU) (hl : l.length ≤ 2000000) (hs : ∀ x ∈ l, x.f0.size ≤ 2000000) (k : Nat) (hk : 5000000000000 ≤ k) : spec_TurnBack.f k l = some (if pxTurns l = true then l.map sw else []) := by
  unfold spec_TurnBack.f
  rw [p_specTurns l hl hs k hk, Option.bind_some]
  split
  · have := specTurnBack_l0 l hl l.length k 0 [] (by omega) (by simp) (by omega)
    simpa using this
  · rfl
theorem p_eqTurns_self (l : List TU) (hl : l.length ≤ 2000000) (k : Nat) (hk : 3000000 ≤ k) : laws_equalTurns.f k l l = some true := by
  unfold laws_equalTurns.f
  rw [if_pos rfl]
  have := loop_all0 (fun k i => laws_equalTurns.l0 k l l i) (fun _ => true) true l.length 0 k (by omega) (fun k i _ hi => by
    simp only [laws_equalTurns.l0]
    rw [if_pos (by omega), if_pos (by omega), if_pos (by omega), if_neg (by simp)]
    simp) (fun k _ => by
    simp only [laws_equalTurns.l0]
    rw [if_neg (by omega)]) (by omega)
  rw [this]
  simp
end Go.Proofs.Ytjcaiekalobmfaa.Pure
