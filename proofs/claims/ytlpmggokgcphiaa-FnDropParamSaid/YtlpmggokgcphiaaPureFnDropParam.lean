-- written by px.py and merge.py (programs of this claim's), over the kit's print. Not trusted: Lean checks it.
import Derived.Test.YtlpmggokgcphiaaLMore
import Derived.Test.YtlpmggokgcphiaaN0FnDropParam
import Derived.Test.YtlpmggokgcphiaaM4FnDropParam
import Derived.Test.YtlpmggokgcphiaaM6FnDropParam
import Derived.Test.YtlpmggokgcphiaaM7FnDropParam
namespace Go.Proofs.Ytlpmggokgcphiaa.Pure
open Go.RowKit Go.Proofs.Ytlpmggokgcphiaa.Q Go.Proofs.YtlpmggokgcphiaaL.PrintWords Go.Proofs.YtlpmggokgcphiaaL.PrintLast Go.Proofs.YtlpmggokgcphiaaL.PrintMore
set_option linter.unusedVariables false
set_option linter.unusedSimpArgs false
theorem FnDropParam : laws_FnDropParam.Pure := by
  intro l hl hs hb
  obtain ⟨K, hK⟩ : ∃ K : Nat, K = 30000000 := ⟨_, rfl⟩
  refine ⟨K + 10, ?_⟩
  unfold laws_FnDropParam.f
  by_cases h : (l.length : Int) > 1048576
  · rw [if_pos h]
  rw [if_neg h]
  unfold spec_DrawDropParam.f
  obtain ⟨m, e, hm⟩ := p_newReader l hb
  rw [e, Option.bind_some]
  dsimp only
  obtain ⟨ps, s, p', e, h1, h2, h3, h4, h5⟩ := p_nameIn hm (K + 10) (by omega) (p := 0) (by omega) (by omega)
  rw [e, Option.bind_some, Option.bind_some]
  dsimp only
  have hlen : (dropP ps s).1.length ≤ 100 := by
    unfold dropP
    split
    · simp
    · rw [List.length_append, List.length_take, List.length_drop]; omega
  rw [p_implDrop ps s (by omega) h4.big (K + 10) (by omega), Option.bind_some, p_specDrop ps s (by omega) h4.big (K + 10) (by omega), Option.bind_some, p_eqSig_self _ (by omega) (K + 10) (by omega), Option.bind_some, if_pos rfl, if_neg (by simp)]
  simp only [laws_FnDropParam.j0]
  rcases fnd_range ps s with e | ⟨i, hi, e⟩
  · have ed : dropP ps s = ([], false) := by unfold dropP; rw [e, if_pos (by omega)]
    rw [ed]
    dsimp only
    rw [if_pos (show (!false) = true from rfl), p_eqSig_self _ (by simp) (K + 9) (by omega)]
    rfl
  · have ed : dropP ps s = (ps.take i ++ ps.drop (i + 1), true) := by unfold dropP; rw [e, if_neg (by omega), Int.toNat_natCast]
    rw [ed]
    dsimp only
    have hv : vsig ps = true := by
      cases hv : vsig ps with
      | true => rfl
      | false =>
        unfold fnd at e
        rw [hv, if_neg (by decide)] at e
        omega
    have ok := (okS_iff ps).1 hv
    have hout : (ps.take i ++ ps.drop (i + 1)).length = ps.length - 1 := by rw [List.length_append, List.length_take, List.length_drop]; omega
    have small : SmallP (ps.take i ++ ps.drop (i + 1)) := fun x hx => h4 x ((drop_sub ps i).subset hx)
    have ok' := ok.sublist (drop_sub ps i)
    rw [if_neg (by decide), p_implFindParam ps s (by omega) h4.big (K + 9) (by omega), Option.bind_some, e]
    have at1 : ∀ j, j < i → (ps.take i ++ ps.drop (i + 1)).getD j paz = ps.getD j paz := by
      intro j hj
      rw [List.getD_eq_getElem?_getD, List.getD_eq_getElem?_getD, List.getElem?_append_left (by rw [List.length_take]; omega), List.getElem?_take_of_lt hj]
    have at2 : ∀ j, i ≤ j → (ps.take i ++ ps.drop (i + 1)).getD j paz = ps.getD (j + 1) paz := by
      intro j hj
      rw [List.getD_eq_getElem?_getD, List.getD_eq_getElem?_getD, List.getElem?_append_right (by rw [List.length_take]; omega), List.length_take, List.getElem?_drop]
      have : i + 1 + (j - min i ps.length) = j + 1 := by omega
      rw [this]
    have w := loop_all0 (fun k j => laws_FnDropParam.l0 k s (i : Int) j ps (ps.take i ++ ps.drop (i + 1))) (fun _ => true) true (ps.take i ++ ps.drop (i + 1)).length 20000000 (K + 9) (by omega) (fun k j hk hj => ?_) (fun k hk => ?_) (by omega)
    · rw [w]; simp
    · simp only [laws_FnDropParam.l0]
      rw [if_pos (by omega)]
      by_cases hge : i ≤ j
      · rw [if_pos (by omega), if_pos (by omega), wrap_succ (n := ps.length) (i := j) (by omega) (by omega), if_pos (by omega), if_pos (by omega), rdpa, rdpa, at2 j hge]
        simp
      · rw [if_neg (by omega), if_pos (by omega), if_pos (by omega), rdpa, rdpa, at1 j (by omega)]
        simp
    · simp only [laws_FnDropParam.l0]
      have miss : fnd (ps.take i ++ ps.drop (i + 1)) s = -1 := by
        unfold fnd
        split
        · refine idx_none (fun x hx => ?_)
          have hi' : pxIdx (fun x : PA => x.f0.toList == s.toList) ps = (i : Int) := by
            unfold fnd at e
            rw [hv, if_pos rfl] at e
            exact e
          obtain ⟨hil, his⟩ := idx_some hi'
          have nd := ok.names
          rw [List.Nodup, List.pairwise_map, List.pairwise_iff_getElem] at nd
          rw [← his]
          rcases List.mem_append.1 hx with hx | hx
          · obtain ⟨j, hj, rfl⟩ := List.mem_take_iff_getElem.1 hx
            exact nd j i (by omega) hil (by omega)
          · obtain ⟨j, hj, rfl⟩ := List.mem_drop_iff_getElem.1 hx
            exact fun ee => nd i (i + 1 + j) hil (by omega) (by omega) ee.symm
        · rfl
      rw [if_neg (by omega), p_implFindParam _ s (by omega) small.big k (by omega), Option.bind_some, miss, if_pos (by omega), p_implSig _ (by omega) small.big k (by omega), Option.bind_some, (okS_iff _).2 ok']
end Go.Proofs.Ytlpmggokgcphiaa.Pure
