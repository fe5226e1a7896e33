-- written by px.py and merge.py (programs of this claim's), over the kit's print. Not trusted: Lean checks it.
import Derived.Test.YtlpmggokgcphiaaVFnAddParam
import Derived.Test.YtlpmggokgcphiaaN0FnAddParam
import Derived.Test.YtlpmggokgcphiaaM1FnAddParam
import Derived.Test.YtlpmggokgcphiaaM2FnAddParam
import Derived.Test.YtlpmggokgcphiaaM10FnAddParam
import Derived.Test.YtlpmggokgcphiaaM8FnAddParam
import Derived.Test.YtlpmggokgcphiaaM9FnAddParam
import Derived.Test.YtlpmggokgcphiaaM11FnAddParam
namespace Go.Proofs.Ytlpmggokgcphiaa.Pure
open Go.RowKit Go.Proofs.Ytlpmggokgcphiaa.Q Go.Proofs.YtlpmggokgcphiaaL.PrintWords Go.Proofs.YtlpmggokgcphiaaL.PrintLast Go.Proofs.YtlpmggokgcphiaaL.PrintMore
set_option linter.unusedVariables false
set_option linter.unusedSimpArgs false
theorem FnAddParam : laws_FnAddParam.Pure := by
  intro l hl hs hb
  obtain ⟨K, hK⟩ : ∃ K : Nat, K = 30000000 := ⟨_, rfl⟩
  refine ⟨K + 10, ?_⟩
  unfold laws_FnAddParam.f
  by_cases h : (l.length : Int) > 1048576
  · rw [if_pos h]
  rw [if_neg h]
  obtain ⟨m, e, hm⟩ := p_newReader l hb
  have draw : ∃ (ps : List PA) (x : PA), spec_DrawAddParam.f (K + 10) l = some (ps, x.f0, x.f1, x.f2, x.f3) ∧ ps.length ≤ 8 ∧ SmallP ps ∧ x.f0.size ≤ 7 := by
    unfold spec_DrawAddParam.f
    rw [e, Option.bind_some]
    dsimp only
    obtain ⟨s, e1, hs1⟩ := p_of hm (K + 10) (by omega) (p := 0) (by omega) (by omega) [(⟨#[110, 101, 119]⟩ : ByteArray), (⟨#[122]⟩ : ByteArray), (⟨#[97]⟩ : ByteArray), (⟨#[119]⟩ : ByteArray), (⟨#[110, 101, 119]⟩ : ByteArray)] (by simp)
    have hz : s.size ≤ 7 := by
      simp only [List.mem_cons, List.not_mem_nil, or_false] at hs1
      rcases hs1 with rfl | rfl | rfl | rfl | rfl <;> decide
    rw [e1, Option.bind_some]
    dsimp only
    obtain ⟨kd, e2, _⟩ := p_one hm (K + 10) (by omega) (p := 0 + 1) (by omega) (by omega) [0, 1, 2, 3, 4, 1, 3, 5] (by simp)
    rw [e2, Option.bind_some]
    dsimp only
    obtain ⟨v, e3, _, _⟩ := p_pick hm (K + 10) (by omega) (p := 0 + 1 + 1) (by omega) (by omega) (n := 2) (by omega)
    rw [e3, Option.bind_some]
    dsimp only
    split
    · obtain ⟨w, e4, _, _⟩ := p_anyNumber hm (K + 10) (by omega) (p := 0 + 1 + 1 + 1) (by omega) (by omega)
      rw [e4, Option.bind_some]
      dsimp only
      obtain ⟨ps, q, e5, _, _, h3, h4⟩ := p_someSig hm (K + 10) (by omega) (p := 0 + 1 + 1 + 1 + 2) (by omega) (by omega)
      rw [e5, Option.bind_some]
      exact ⟨ps, ⟨s, kd, true, w⟩, rfl, h3, h4, hz⟩
    · obtain ⟨ps, q, e5, _, _, h3, h4⟩ := p_someSig hm (K + 10) (by omega) (p := 0 + 1 + 1 + 1) (by omega) (by omega)
      rw [e5, Option.bind_some]
      exact ⟨ps, ⟨s, kd, false, 0⟩, rfl, h3, h4, hz⟩
  obtain ⟨ps, x, ed, h3, h4, hz⟩ := draw
  rw [ed, Option.bind_some]
  dsimp only
  have hlen := addPa_len ps x
  rw [p_implAddP ps x (by omega) h4.big (by omega) (K + 10) (by omega), Option.bind_some, p_specAddP ps x (by omega) h4.big (by omega) (K + 10) (by omega), Option.bind_some, p_eqSig_self _ (by omega) (K + 10) (by omega), Option.bind_some, if_pos rfl, if_neg (by simp)]
  simp only [laws_FnAddParam.j0]
  by_cases hv : vsig ps = true ∧ vsig (insP ps x (addC ps x.f1 0)) = true
  · obtain ⟨v1, v2⟩ := hv
    have hc := addC_le ps x.f1 0 (by omega)
    have eo : addPa ps x = (insP ps x (addC ps x.f1 0), true) := by
      unfold addPa outP
      rw [if_pos v1, if_pos v2]
    rw [eo] at hlen ⊢
    generalize addC ps x.f1 0 = c at v2 hc hlen
    dsimp only
    have hn := insP_len (x := x) hc
    have small : SmallP (insP ps x c) := insP_all h4 hz
    have m : min c ps.length = c := by omega
    have hat : (insP ps x c).getD c paz = x := by
      unfold insP
      rw [List.getD_eq_getElem?_getD, List.getElem?_append_right (by rw [List.length_take]; omega), List.length_take, m, Nat.sub_self]
      rfl
    have hf : fnd (insP ps x c) x.f0 = (c : Int) := by
      unfold fnd
      rw [if_pos v2]
      have w := idx_self ((okS_iff _).1 v2).names c (by omega)
      rw [(getD_at (insP ps x c) paz c (by omega)).symm.trans hat] at w
      exact w
    have hd : dropP (insP ps x c) x.f0 = (ps, true) := by
      unfold dropP
      rw [hf, if_neg (by omega), Int.toNat_natCast]
      have t1 : (insP ps x c).take c = ps.take c := by
        unfold insP
        rw [List.take_append_of_le_length (by rw [List.length_take]; omega), List.take_take, Nat.min_self]
      have t2 : (insP ps x c).drop (c + 1) = ps.drop c := by
        unfold insP
        apply List.ext_getElem?
        intro j
        have : c + 1 + j - min c ps.length = j + 1 := by omega
        rw [List.getElem?_drop, List.getElem?_append_right (by rw [List.length_take]; omega), List.length_take, this, List.getElem?_cons_succ]
      rw [t1, t2, List.take_append_drop]
    rw [if_neg (by decide), p_implDrop _ _ (by omega) small.big (K + 9) (by omega), Option.bind_some, p_implFindParam _ _ (by omega) small.big (K + 9) (by omega), Option.bind_some, hd, hf]
    dsimp only
    rw [if_pos rfl, p_eqSig_self _ (by omega) (K + 9) (by omega), Option.bind_some, if_pos rfl, if_pos (by omega), if_pos (by omega), if_pos (by omega), rdpa, hat]
    simp
  · have eo : addPa ps x = ([], false) := by
      unfold addPa outP
      split
      · rename_i h1
        rw [if_neg (fun h2 => hv ⟨h1, h2⟩)]
      · rfl
    rw [eo]
    dsimp only
    rw [if_pos (show (!false) = true from rfl), p_eqSig_self _ (by simp) (K + 9) (by omega)]
    rfl
end Go.Proofs.Ytlpmggokgcphiaa.Pure
