import Derived.Test.YtjcaiekalobmfaaLMore
import Derived.Test.YtjcaiekalobmfaaPBase
import Derived.Test.YtjcaiekalobmfaaPLoops
import Derived.Test.YtjcaiekalobmfaaPXLoops
import Derived.Test.YtjcaiekalobmfaaQ10
import Derived.Test.YtjcaiekalobmfaaQ13
namespace Go.Proofs.Ytjcaiekalobmfaa.Pure
open Go.RowKit Go.Proofs.Ytjcaiekalobmfaa.Q Go.Proofs.YtjcaiekalobmfaaL.PrintWords Go.Proofs.YtjcaiekalobmfaaL.PrintLast Go.Proofs.YtjcaiekalobmfaaL.PrintMore
set_option linter.unusedVariables false
set_option linter.unusedSimpArgs false
theorem p_szStringS (l : List ByteArray) (hl : l.length ≤ maxLen) (hs : ∀ x ∈ l, x.size ≤ maxLen) (k : Nat) (hk : 3000000 ≤ k) (a : Int) (h0 : 0 ≤ a) (h1 : a ≤ 1048576) :
    ∃ r, laws_szStringS.f k l a = some r ∧ (r < 0 ∨ 0 ≤ r ∧ r ≤ a ∧ l.length ≤ 1048576 ∧ ∀ x ∈ l, x.size ≤ 1048576) := by
  unfold maxLen at hl hs
  unfold laws_szStringS.f
  rw [sub_in h0 h1 hl]
  split
  · exact ⟨-1, rfl, .inl (by omega)⟩
  · have hh := loop_sz0 (fun k a i => laws_szStringS.l0 k l a i) l ByteArray.empty (fun x => x.size ≤ 1048576) 0 k (a - l.length) hl (fun k a i _ hi g0 g1 => ?_) (fun k a _ => ?_) (by omega) (by omega) (by omega)
    · obtain ⟨r, hr, hc⟩ := hh
      refine ⟨r, hr, ?_⟩
      rcases hc with hc | ⟨c0, c1, c2⟩
      · exact .inl hc
      · exact .inr ⟨c0, by omega, by omega, c2⟩
    · have hm := hs _ (getD_mem l ByteArray.empty i hi)
      simp only [laws_szStringS.l0]
      rw [if_pos (by omega), if_pos (by omega), rdOf_nat]
      generalize l.getD i ByteArray.empty = x at hm ⊢
      rw [sub_in g0 g1 hm]
      by_cases q0 : a - (x.size : Int) < 0
      · rw [if_pos q0]
        exact .inl rfl
      · rw [if_neg q0]
        exact .inr ⟨_, by omega, by omega, by omega, rfl⟩
    · simp only [laws_szStringS.l0]
      rw [if_neg (by omega)]
theorem p_toStringS (l : List ByteArray) (hl : l.length ≤ 2000000) (k : Nat) (hk : 3000000 ≤ k) : laws_toStringS.f k l = some l := by
  unfold laws_toStringS.f
  rw [if_pos (by omega), if_pos (by omega)]
  have h := loop_set0 (fun k acc i => laws_toStringS.l0 k l acc i) (fun i => l.getD i ByteArray.empty) l.length 0 k (List.replicate ((l.length : Int)).toNat (⟨#[]⟩ : ByteArray)) (by omega) (fun k acc i _ hi ha => ?_) (fun k acc _ => ?_) (by omega) (by simp)
  · rw [h, range_map l ByteArray.empty (fun x => x), List.map_id']
  · simp only [laws_toStringS.l0]
    rw [if_pos (by omega), if_pos (by omega), if_pos (by omega), rdOf_nat, Int.toNat_natCast]
  · simp only [laws_toStringS.l0]
    rw [if_neg (by omega)]
end Go.Proofs.Ytjcaiekalobmfaa.Pure
