import Derived.Test.YtjcaiekalobmfaaLMore
import Derived.Test.YtjcaiekalobmfaaPBase
import Derived.Test.YtjcaiekalobmfaaPLoops
import Derived.Test.YtjcaiekalobmfaaPXLoops
import Derived.Test.YtjcaiekalobmfaaQ22
import Derived.Test.YtjcaiekalobmfaaQ26
import Derived.Test.YtjcaiekalobmfaaQ29
import Derived.Test.YtjcaiekalobmfaaQ30
namespace Go.Proofs.Ytjcaiekalobmfaa.Pure
open Go.RowKit Go.Proofs.Ytjcaiekalobmfaa.Q Go.Proofs.YtjcaiekalobmfaaL.PrintWords Go.Proofs.YtjcaiekalobmfaaL.PrintLast Go.Proofs.YtjcaiekalobmfaaL.PrintMore
set_option linter.unusedVariables false
set_option linter.unusedSimpArgs false
def cTurn (x : S97) : S51 := ⟨x.f0, x.f1⟩
theorem rd_turnL (l : List S97) (i : Nat) : rd_T97 l (i : Int) = l.getD i z97 := by
  unfold rd_T97
  rw [Int.toNat_natCast]
theorem rd_turnI (l : List S51) (i : Nat) : rd_T51 l (i : Int) = l.getD i z51 := by
  unfold rd_T51
  rw [Int.toNat_natCast]
theorem p_szTurnS (l : List S97) (hl : l.length ≤ maxLen) (hs : ∀ x ∈ l, x.f0.size ≤ maxLen ∧ x.f1.size ≤ maxLen) (k : Nat) (hk : 3000000 ≤ k) (a : Int) (h0 : 0 ≤ a) (h1 : a ≤ 1048576) :
    ∃ r, laws_szTurnS.f k l a = some r ∧ (r < 0 ∨ 0 ≤ r ∧ r ≤ a ∧ l.length ≤ 1048576 ∧ ∀ x ∈ l, x.f0.size ≤ 1048576 ∧ x.f1.size ≤ 1048576) := by
  unfold maxLen at hl hs
  unfold laws_szTurnS.f
  rw [sub_in h0 h1 hl]
  split
  · exact ⟨-1, rfl, .inl (by omega)⟩
  · have hh := loop_sz0 (fun k a i => laws_szTurnS.l0 k l a i) l z97 (fun x => x.f0.size ≤ 1048576 ∧ x.f1.size ≤ 1048576) 0 k (a - l.length) hl (fun k a i _ hi g0 g1 => ?_) (fun k a _ => ?_) (by omega) (by omega) (by omega)
    · obtain ⟨r, hr, hc⟩ := hh
      refine ⟨r, hr, ?_⟩
      rcases hc with hc | ⟨c0, c1, c2⟩
      · exact .inl hc
      · exact .inr ⟨c0, by omega, by omega, c2⟩
    · have hm := hs _ (getD_mem l z97 i hi)
      simp only [laws_szTurnS.l0]
      rw [if_pos (by omega), if_pos (by omega), rd_turnL]
      generalize l.getD i z97 = x at hm ⊢
      obtain ⟨s0, s1⟩ := hm
      unfold laws_szTurn.f
      rw [sub_in g0 g1 s0]
      by_cases q0 : a - (x.f0.size : Int) < 0
      · rw [if_pos q0]
        exact .inl rfl
      · skip
        rw [if_neg q0, sub_in (by omega) (by omega) s1]
        by_cases q1 : a - (x.f0.size : Int) - (x.f1.size : Int) < 0
        · rw [if_pos q1]
          exact .inl rfl
        · skip
          rw [if_neg q1, Option.bind_some, if_neg q1]
          exact .inr ⟨_, by omega, by omega, ⟨by omega, by omega⟩, rfl⟩
    · simp only [laws_szTurnS.l0]
      rw [if_neg (by omega)]
theorem p_toTurnS (l : List S97) (hl : l.length ≤ 2000000) (k : Nat) (hk : 3000000 ≤ k) : laws_toTurnS.f k l = some (l.map cTurn) := by
  unfold laws_toTurnS.f
  rw [if_pos (by omega), if_pos (by omega)]
  have h := loop_set0 (fun k acc i => laws_toTurnS.l0 k l acc i) (fun i => cTurn (l.getD i z97)) l.length 0 k (List.replicate ((l.length : Int)).toNat z51) (by omega) (fun k acc i _ hi ha => ?_) (fun k acc _ => ?_) (by omega) (by simp)
  · rw [h, range_map]
  · simp only [laws_toTurnS.l0]
    rw [if_pos (by omega), if_pos (by omega), rd_turnL]
    unfold laws_toTurn.f
    rw [Option.bind_some, if_pos (by omega), Int.toNat_natCast]
    rfl
  · simp only [laws_toTurnS.l0]
    rw [if_neg (by omega)]
theorem p_eqTurnS (l : List S51) (hl : l.length ≤ 2000000) (k : Nat) (hk : 3000000 ≤ k) : laws_eqTurnS.f k l l = some true := by
  unfold laws_eqTurnS.f
  rw [if_pos rfl]
  refine loop_true0 (fun k i => laws_eqTurnS.l0 k l l i) l.length 0 k (by omega) (fun k i _ hi => ?_) (fun k _ => ?_) (by omega)
  · simp only [laws_eqTurnS.l0]
    rw [if_pos (by omega), if_pos (by omega), if_pos (by omega)]
    unfold laws_eqTurn.f
    simp
  · simp only [laws_eqTurnS.l0]
    rw [if_neg (by omega)]
end Go.Proofs.Ytjcaiekalobmfaa.Pure
