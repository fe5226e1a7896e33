import Derived.Test.YtjcaiekalobmfaaLMore
import Derived.Test.YtjcaiekalobmfaaPBase
import Derived.Test.YtjcaiekalobmfaaPLoops
import Derived.Test.YtjcaiekalobmfaaPXLoops
import Derived.Test.YtjcaiekalobmfaaQ36
import Derived.Test.YtjcaiekalobmfaaQ42
namespace Go.Proofs.Ytjcaiekalobmfaa.Pure
open Go.RowKit Go.Proofs.Ytjcaiekalobmfaa.Q Go.Proofs.YtjcaiekalobmfaaL.PrintWords Go.Proofs.YtjcaiekalobmfaaL.PrintLast Go.Proofs.YtjcaiekalobmfaaL.PrintMore
set_option linter.unusedVariables false
set_option linter.unusedSimpArgs false
theorem p_szIntS (l : List Int) (hl : l.length ≤ maxLen) (a : Int) (h0 : 0 ≤ a) (h1 : a ≤ 1048576) :
    ∃ r, laws_szIntS.f l a = some r ∧ (r < 0 ∨ 0 ≤ r ∧ r ≤ a ∧ l.length ≤ 1048576) := by
  unfold maxLen at hl
  unfold laws_szIntS.f
  rw [sub_in h0 h1 hl]
  split
  · exact ⟨-1, rfl, .inl (by omega)⟩
  · exact ⟨_, rfl, .inr ⟨by omega, by omega, by omega⟩⟩
theorem p_toIntS (l : List Int) (hl : l.length ≤ 2000000) (k : Nat) (hk : 3000000 ≤ k) : laws_toIntS.f k l = some l := by
  unfold laws_toIntS.f
  rw [if_pos (by omega), if_pos (by omega)]
  have h := loop_set0 (fun k acc i => laws_toIntS.l0 k l acc i) (fun i => l.getD i 0) l.length 0 k (List.replicate ((l.length : Int)).toNat 0) (by omega) (fun k acc i _ hi ha => ?_) (fun k acc _ => ?_) (by omega) (by simp)
  · rw [h, range_map l 0 (fun x => x), List.map_id']
  · simp only [laws_toIntS.l0]
    rw [if_pos (by omega), if_pos (by omega), if_pos (by omega), rd_nat, Int.toNat_natCast]
  · simp only [laws_toIntS.l0]
    rw [if_neg (by omega)]
end Go.Proofs.Ytjcaiekalobmfaa.Pure
