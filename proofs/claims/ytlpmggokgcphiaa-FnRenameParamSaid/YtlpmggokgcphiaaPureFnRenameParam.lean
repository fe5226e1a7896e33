-- written by px.py and merge.py (programs of this claim's), over the kit's print. Not trusted: Lean checks it.
import Derived.Test.YtlpmggokgcphiaaLMore
import Derived.Test.YtlpmggokgcphiaaN0FnRenameParam
import Derived.Test.YtlpmggokgcphiaaM6FnRenameParam
import Derived.Test.YtlpmggokgcphiaaM4FnRenameParam
import Derived.Test.YtlpmggokgcphiaaM7FnRenameParam
namespace Go.Proofs.Ytlpmggokgcphiaa.Pure
open Go.RowKit Go.Proofs.Ytlpmggokgcphiaa.Q Go.Proofs.YtlpmggokgcphiaaL.PrintWords Go.Proofs.YtlpmggokgcphiaaL.PrintLast Go.Proofs.YtlpmggokgcphiaaL.PrintMore
set_option linter.unusedVariables false
set_option linter.unusedSimpArgs false
theorem FnRenameParam : laws_FnRenameParam.Pure := by
  intro l hl hs hb
  obtain ⟨K, hK⟩ : ∃ K : Nat, K = 30000000 := ⟨_, rfl⟩
  refine ⟨K + 10, ?_⟩
  unfold laws_FnRenameParam.f
  by_cases h : (l.length : Int) > 1048576
  · rw [if_pos h]
  rw [if_neg h]
  unfold spec_DrawRenameParam.f
  obtain ⟨m, e, hm⟩ := p_newReader l hb
  rw [e, Option.bind_some]
  dsimp only
  obtain ⟨ps, s, p', e, h1, h2, h3, h4, h5⟩ := p_nameIn hm (K + 10) (by omega) (p := 0) (by omega) (by omega)
  rw [e, Option.bind_some]
  dsimp only
  obtain ⟨t, e1, ht1⟩ := p_of hm (K + 10) (by omega) (p := p') (by omega) (by omega) [(⟨#[110, 101, 119]⟩ : ByteArray), (⟨#[122]⟩ : ByteArray), (⟨#[97]⟩ : ByteArray), (⟨#[]⟩ : ByteArray), (⟨#[98]⟩ : ByteArray), (⟨#[88]⟩ : ByteArray)] (by simp)
  have ht : t.size ≤ 7 := by
    simp only [List.mem_cons, List.not_mem_nil, or_false] at ht1
    rcases ht1 with rfl | rfl | rfl | rfl | rfl | rfl <;> decide
  rw [e1, Option.bind_some, Option.bind_some]
  dsimp only
  have run : ∀ (q : List PA) (a b : ByteArray) (k : Nat), q.length ≤ 100 → SmallP q → b.size ≤ 7 → 14000000 ≤ k → impl_RenameParam.f k q a b = some (chgP (fun x => ⟨b, x.f1, x.f2, x.f3⟩) (fun _ => true) q a) := fun q a b k hq hs hb hk => p_chg (fun x => ⟨b, x.f1, x.f2, x.f3⟩) (fun _ => true) q a (by omega) hs.big (fun x hx => (by omega : b.size ≤ 2000000)) k hk
  have hlen := chgP_len (fun x => ⟨t, x.f1, x.f2, x.f3⟩) (fun _ => true) ps s
  rw [run ps s t (K + 10) (by omega) h4 ht (by omega), Option.bind_some, p_specRenameParam ps s t (by omega) h4.big (by omega) (K + 10) (by omega), Option.bind_some, p_eqSig_self _ (by omega) (K + 10) (by omega), Option.bind_some, if_pos rfl, if_neg (by simp)]
  simp only [laws_FnRenameParam.j0]
  have bad : chgP (fun x => ⟨t, x.f1, x.f2, x.f3⟩) (fun _ => true) ps s = ([], false) ∨ ∃ i : Nat, i < ps.length ∧ fnd ps s = (i : Int) ∧ vsig (ps.set i ⟨t, (ps.getD i paz).f1, (ps.getD i paz).f2, (ps.getD i paz).f3⟩) = true ∧ chgP (fun x => ⟨t, x.f1, x.f2, x.f3⟩) (fun _ => true) ps s = (ps.set i ⟨t, (ps.getD i paz).f1, (ps.getD i paz).f2, (ps.getD i paz).f3⟩, true) := by
    unfold chgP
    rcases fnd_ways ps s with e | ⟨i, hi, e⟩
    · rw [e, if_pos (by omega)]
      exact .inl rfl
    · rw [e, if_neg (by omega), if_pos rfl, Int.toNat_natCast]
      cases hv : vsig (ps.set i ⟨t, (ps.getD i paz).f1, (ps.getD i paz).f2, (ps.getD i paz).f3⟩) with
      | false => unfold outP; rw [if_neg (by rw [hv]; decide)]; exact .inl rfl
      | true => unfold outP; rw [if_pos hv]; exact .inr ⟨i, hi, rfl, hv, rfl⟩
  rcases bad with ed | ⟨i, hi, ef, v2, ed⟩
  · rw [ed]
    dsimp only
    rw [if_pos (show (!false) = true from rfl), p_eqSig_self _ (by simp) (K + 9) (by omega)]
    rfl
  · rw [ed] at hlen ⊢
    dsimp only at hlen ⊢
    have v1 : vsig ps = true := by
      cases hv : vsig ps with
      | true => rfl
      | false => rw [fnd_no hv] at ef; omega
    have es : (ps.getD i paz).f0 = s := by
      rw [fnd_at v1] at ef
      obtain ⟨hi', h⟩ := idx_some ef
      rw [getD_at ps paz i hi']
      exact h
    generalize hx : (⟨t, (ps.getD i paz).f1, (ps.getD i paz).f2, (ps.getD i paz).f3⟩ : PA) = x at v2 hlen ⊢
    have x0 : x.f0 = t := by rw [← hx]
    have x1 : x.f1 = (ps.getD i paz).f1 := by rw [← hx]
    have x2 : x.f2 = (ps.getD i paz).f2 := by rw [← hx]
    have x3 : x.f3 = (ps.getD i paz).f3 := by rw [← hx]
    have hat : (ps.set i x).getD i paz = x := getD_set_at hi x
    have hln : (ps.set i x).length = ps.length := List.length_set ..
    have small : SmallP (ps.set i x) := set_sizes h4 (by rw [x0]; exact ht)
    have hf : fnd (ps.set i x) t = (i : Int) := by
      rw [fnd_at v2]
      have w := idx_self ((okS_iff _).1 v2).names i (by omega)
      rw [(getD_at (ps.set i x) paz i (by omega)).symm.trans hat, x0] at w
      exact w
    have self : ps.set i (ps.getD i paz) = ps := by
      rw [getD_at ps paz i hi]
      exact List.set_getElem_self hi
    have back : chgP (fun x => ⟨s, x.f1, x.f2, x.f3⟩) (fun _ => true) (ps.set i x) t = (ps, true) := by
      unfold chgP
      rw [hf, if_neg (by omega), if_pos rfl, Int.toNat_natCast, hat, List.set_set]
      show outP (ps.set i ⟨s, x.f1, x.f2, x.f3⟩) = (ps, true)
      rw [x1, x2, x3, ← es]
      have : (⟨(ps.getD i paz).f0, (ps.getD i paz).f1, (ps.getD i paz).f2, (ps.getD i paz).f3⟩ : PA) = ps.getD i paz := rfl
      rw [this, self]
      unfold outP
      rw [if_pos v1]
    have hmap : (ps.set i x).map (fun y : PA => (y.f1, y.f2)) = ps.map (fun y : PA => (y.f1, y.f2)) := by
      rw [List.map_set, x1, x2, ← List.map_set, self]
    have any2 : (ps.set i x).any (fun x : PA => x.f1 == 2) = ps.any (fun x : PA => x.f1 == 2) := by
      have e : ∀ l : List PA, l.any (fun x : PA => x.f1 == 2) = (l.map (fun y : PA => (y.f1, y.f2))).any (fun y : Int × Bool => y.1 == 2) := fun l => by rw [List.any_map]; rfl
      rw [e, e, hmap]
    have pl : ((ps.set i x).filter (fun x : PA => x.f1 == 0 || x.f1 == 1)).length = (ps.filter (fun x : PA => x.f1 == 0 || x.f1 == 1)).length := by
      have e : ∀ l : List PA, (l.filter (fun x : PA => x.f1 == 0 || x.f1 == 1)).length = ((l.map (fun y : PA => (y.f1, y.f2))).filter (fun y : Int × Bool => y.1 == 0 || y.1 == 1)).length := fun l => by rw [List.filter_map, List.length_map]; rfl
      rw [e, e, hmap]
    have nd : ((ps.set i x).filter (fun x : PA => ((x.f1 == 0 || x.f1 == 1) || x.f1 == 3) && !x.f2)).length = (ps.filter (fun x : PA => ((x.f1 == 0 || x.f1 == 1) || x.f1 == 3) && !x.f2)).length := by
      have e : ∀ l : List PA, (l.filter (fun x : PA => ((x.f1 == 0 || x.f1 == 1) || x.f1 == 3) && !x.f2)).length = ((l.map (fun y : PA => (y.f1, y.f2))).filter (fun y : Int × Bool => ((y.1 == 0 || y.1 == 1) || y.1 == 3) && !y.2)).length := fun l => by rw [List.filter_map, List.length_map]; rfl
      rw [e, e, hmap]
    have most : ∃ v, impl_MostPlaces.f (K + 9) (ps.set i x) = some v ∧ impl_MostPlaces.f (K + 9) ps = some v := by
      unfold impl_MostPlaces.f impl_Signature_has.f impl_Signature_places.f
      rw [p_implSig _ (by omega) small.big (K + 9) (by omega), p_implSig _ (by omega) h4.big (K + 9) (by omega), v1, v2, any2, pl, hln]
      simp only [Option.bind_some, if_true]
      cases ps.any (fun x : PA => x.f1 == 2) with
      | true => exact ⟨_, rfl, rfl⟩
      | false =>
        rw [if_neg (by decide), if_pos (by omega)]
        exact ⟨_, rfl, rfl⟩
    obtain ⟨mv, m1, m2⟩ := most
    have need : ∀ q : List PA, q.length ≤ 100 → SmallP q → vsig q = true → impl_NeededParams.f (K + 9) q = some ((q.filter (fun x : PA => ((x.f1 == 0 || x.f1 == 1) || x.f1 == 3) && !x.f2)).map (·.f0)) := by
      intro q hq hs hv
      unfold impl_NeededParams.f
      rw [p_implSig _ (by omega) hs.big (K + 9) (by omega), hv, Option.bind_some, if_pos rfl, if_pos (by omega)]
    rw [if_neg (by decide), run _ t s (K + 9) (by omega) small h5 (by omega), Option.bind_some, back]
    dsimp only
    rw [if_pos rfl, p_eqSig_self _ (by omega) (K + 9) (by omega), Option.bind_some, if_pos rfl, m1, Option.bind_some, m2, Option.bind_some, if_pos rfl, need _ (by omega) small v2, Option.bind_some, need _ (by omega) h4 v1, Option.bind_some, List.length_map, List.length_map, nd]
    simp
end Go.Proofs.Ytlpmggokgcphiaa.Pure
