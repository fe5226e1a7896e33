import Derived.Test.YtjnfofgonddflaaLMore
import Derived.Test.YtjnfofgonddflaaPBase
import Derived.Test.YtjnfofgonddflaaPLoops
import Derived.Test.YtjnfofgonddflaaPXEqParam
import Derived.Test.YtjnfofgonddflaaPXLoops
import Derived.Test.YtjnfofgonddflaaM0FnExactMostPlaces
namespace Go.Proofs.Ytjnfofgonddflaa.Pure
open Go.RowKit Go.Proofs.Ytjnfofgonddflaa.Q Go.Proofs.YtjnfofgonddflaaL.PrintWords Go.Proofs.YtjnfofgonddflaaL.PrintLast Go.Proofs.YtjnfofgonddflaaL.PrintMore
set_option linter.unusedVariables false
set_option linter.unusedSimpArgs false
def cParam (x : S85) : S41 := ⟨x.f0, x.f1, x.f2, x.f3⟩
theorem rd_paramL (l : List S85) (i : Nat) : rd_T85 l (i : Int) = l.getD i z85 := by
  unfold rd_T85
  rw [Int.toNat_natCast]
theorem p_szParamS (l : List S85) (hl : l.length ≤ maxLen) (hs : ∀ x ∈ l, x.f0.size ≤ maxLen) (k : Nat) (hk : 3000000 ≤ k) (a : Int) (h0 : 0 ≤ a) (h1 : a ≤ 1048576) :
    ∃ r, laws_szParamS.f k l a = some r ∧ (r < 0 ∨ 0 ≤ r ∧ r ≤ a ∧ l.length ≤ 1048576 ∧ ∀ x ∈ l, x.f0.size ≤ 1048576) := by
  unfold maxLen at hl hs
  unfold laws_szParamS.f
  rw [sub_in h0 h1 hl]
  split
  · exact ⟨-1, rfl, .inl (by omega)⟩
  · have hh := loop_sz0 (fun k a i => laws_szParamS.l0 k l a i) l z85 (fun x => x.f0.size ≤ 1048576) 0 k (a - l.length) hl (fun k a i _ hi g0 g1 => ?_) (fun k a _ => ?_) (by omega) (by omega) (by omega)
    · obtain ⟨r, hr, hc⟩ := hh
      refine ⟨r, hr, ?_⟩
      rcases hc with hc | ⟨c0, c1, c2⟩
      · exact .inl hc
      · exact .inr ⟨c0, by omega, by omega, c2⟩
    · have hm := hs _ (getD_mem l z85 i hi)
      simp only [laws_szParamS.l0]
      rw [if_pos (by omega), if_pos (by omega), rd_paramL]
      generalize l.getD i z85 = x at hm ⊢
      have s0 := hm
      unfold laws_szParam.f
      rw [sub_in g0 g1 s0]
      by_cases q0 : a - (x.f0.size : Int) < 0
      · rw [if_pos q0]
        exact .inl rfl
      · skip
        rw [if_neg q0, Option.bind_some, if_neg q0]
        exact .inr ⟨_, by omega, by omega, by omega, rfl⟩
    · simp only [laws_szParamS.l0]
      rw [if_neg (by omega)]
theorem p_toParamS (l : List S85) (hl : l.length ≤ 2000000) (k : Nat) (hk : 3000000 ≤ k) : laws_toParamS.f k l = some (l.map cParam) := by
  unfold laws_toParamS.f
  rw [if_pos (by omega), if_pos (by omega)]
  have h := loop_set0 (fun k acc i => laws_toParamS.l0 k l acc i) (fun i => cParam (l.getD i z85)) l.length 0 k (List.replicate ((l.length : Int)).toNat z41) (by omega) (fun k acc i _ hi ha => ?_) (fun k acc _ => ?_) (by omega) (by simp)
  · rw [h, range_map]
  · simp only [laws_toParamS.l0]
    rw [if_pos (by omega), if_pos (by omega), rd_paramL]
    unfold laws_toParam.f
    rw [Option.bind_some, if_pos (by omega), Int.toNat_natCast]
    rfl
  · simp only [laws_toParamS.l0]
    rw [if_neg (by omega)]
end Go.Proofs.Ytjnfofgonddflaa.Pure
