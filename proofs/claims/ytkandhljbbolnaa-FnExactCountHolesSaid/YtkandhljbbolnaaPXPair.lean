import Derived.Test.YtkandhljbbolnaaLMore
import Derived.Test.YtkandhljbbolnaaPBase
import Derived.Test.YtkandhljbbolnaaPLoops
import Derived.Test.YtkandhljbbolnaaPXEqPair
import Derived.Test.YtkandhljbbolnaaPXLoops
import Derived.Test.YtkandhljbbolnaaQ2
import Derived.Test.YtkandhljbbolnaaQ8
import Derived.Test.YtkandhljbbolnaaQ9
namespace Go.Proofs.Ytkandhljbbolnaa.Pure
open Go.RowKit Go.Proofs.Ytkandhljbbolnaa.Q Go.Proofs.YtkandhljbbolnaaL.PrintWords Go.Proofs.YtkandhljbbolnaaL.PrintLast Go.Proofs.YtkandhljbbolnaaL.PrintMore
set_option linter.unusedVariables false
set_option linter.unusedSimpArgs false
def cPair (x : S134) : S94 := ⟨x.f0, x.f1⟩
theorem rd_pairL (l : List S134) (i : Nat) : rd_T134 l (i : Int) = l.getD i z134 := by
  unfold rd_T134
  rw [Int.toNat_natCast]
theorem p_szPairS (l : List S134) (hl : l.length ≤ maxLen) (hs : ∀ x ∈ l, x.f0.size ≤ maxLen) (k : Nat) (hk : 3000000 ≤ k) (a : Int) (h0 : 0 ≤ a) (h1 : a ≤ 1048576) :
    ∃ r, laws_szPairS.f k l a = some r ∧ (r < 0 ∨ 0 ≤ r ∧ r ≤ a ∧ l.length ≤ 1048576 ∧ ∀ x ∈ l, x.f0.size ≤ 1048576) := by
  unfold maxLen at hl hs
  unfold laws_szPairS.f
  rw [sub_in h0 h1 hl]
  split
  · exact ⟨-1, rfl, .inl (by omega)⟩
  · have hh := loop_sz0 (fun k a i => laws_szPairS.l0 k l a i) l z134 (fun x => x.f0.size ≤ 1048576) 0 k (a - l.length) hl (fun k a i _ hi g0 g1 => ?_) (fun k a _ => ?_) (by omega) (by omega) (by omega)
    · obtain ⟨r, hr, hc⟩ := hh
      refine ⟨r, hr, ?_⟩
      rcases hc with hc | ⟨c0, c1, c2⟩
      · exact .inl hc
      · exact .inr ⟨c0, by omega, by omega, c2⟩
    · have hm := hs _ (getD_mem l z134 i hi)
      simp only [laws_szPairS.l0]
      rw [if_pos (by omega), if_pos (by omega), rd_pairL]
      generalize l.getD i z134 = x at hm ⊢
      have s0 := hm
      unfold laws_szPair.f
      rw [sub_in g0 g1 s0]
      by_cases q0 : a - (x.f0.size : Int) < 0
      · rw [if_pos q0]
        exact .inl rfl
      · skip
        rw [if_neg q0, Option.bind_some, if_neg q0]
        exact .inr ⟨_, by omega, by omega, by omega, rfl⟩
    · simp only [laws_szPairS.l0]
      rw [if_neg (by omega)]
theorem p_toPairS (l : List S134) (hl : l.length ≤ 2000000) (k : Nat) (hk : 3000000 ≤ k) : laws_toPairS.f k l = some (l.map cPair) := by
  unfold laws_toPairS.f
  rw [if_pos (by omega), if_pos (by omega)]
  have h := loop_set0 (fun k acc i => laws_toPairS.l0 k l acc i) (fun i => cPair (l.getD i z134)) l.length 0 k (List.replicate ((l.length : Int)).toNat z94) (by omega) (fun k acc i _ hi ha => ?_) (fun k acc _ => ?_) (by omega) (by simp)
  · rw [h, range_map]
  · simp only [laws_toPairS.l0]
    rw [if_pos (by omega), if_pos (by omega), rd_pairL]
    unfold laws_toPair.f
    rw [Option.bind_some, if_pos (by omega), Int.toNat_natCast]
    rfl
  · simp only [laws_toPairS.l0]
    rw [if_neg (by omega)]
end Go.Proofs.Ytkandhljbbolnaa.Pure
