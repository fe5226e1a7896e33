import Derived.Test.YtkandhljbbolnaaLMore
import Derived.Test.YtkandhljbbolnaaPBase
import Derived.Test.YtkandhljbbolnaaPLoops
import Derived.Test.YtkandhljbbolnaaPXEqPlace
import Derived.Test.YtkandhljbbolnaaPXLoops
import Derived.Test.YtkandhljbbolnaaQ20
import Derived.Test.YtkandhljbbolnaaQ23
namespace Go.Proofs.Ytkandhljbbolnaa.Pure
open Go.RowKit Go.Proofs.Ytkandhljbbolnaa.Q Go.Proofs.YtkandhljbbolnaaL.PrintWords Go.Proofs.YtkandhljbbolnaaL.PrintLast Go.Proofs.YtkandhljbbolnaaL.PrintMore
set_option linter.unusedVariables false
set_option linter.unusedSimpArgs false
def cPlace (x : S143) : S102 := ⟨x.f0, x.f1⟩
theorem rd_placeL (l : List S143) (i : Nat) : rd_T143 l (i : Int) = l.getD i z143 := by
  unfold rd_T143
  rw [Int.toNat_natCast]
theorem p_szPlaceS (l : List S143) (hl : l.length ≤ maxLen) (a : Int) (h0 : 0 ≤ a) (h1 : a ≤ 1048576) :
    ∃ r, laws_szPlaceS.f l a = some r ∧ (r < 0 ∨ 0 ≤ r ∧ r ≤ a ∧ l.length ≤ 1048576) := by
  unfold maxLen at hl
  unfold laws_szPlaceS.f
  rw [sub_in h0 h1 hl]
  split
  · exact ⟨-1, rfl, .inl (by omega)⟩
  · exact ⟨_, rfl, .inr ⟨by omega, by omega, by omega⟩⟩
theorem p_toPlaceS (l : List S143) (hl : l.length ≤ 2000000) (k : Nat) (hk : 3000000 ≤ k) : laws_toPlaceS.f k l = some (l.map cPlace) := by
  unfold laws_toPlaceS.f
  rw [if_pos (by omega), if_pos (by omega)]
  have h := loop_set0 (fun k acc i => laws_toPlaceS.l0 k l acc i) (fun i => cPlace (l.getD i z143)) l.length 0 k (List.replicate ((l.length : Int)).toNat z102) (by omega) (fun k acc i _ hi ha => ?_) (fun k acc _ => ?_) (by omega) (by simp)
  · rw [h, range_map]
  · simp only [laws_toPlaceS.l0]
    rw [if_pos (by omega), if_pos (by omega), rd_placeL]
    unfold laws_toPlace.f
    rw [Option.bind_some, if_pos (by omega), Int.toNat_natCast]
    rfl
  · simp only [laws_toPlaceS.l0]
    rw [if_neg (by omega)]
end Go.Proofs.Ytkandhljbbolnaa.Pure
