-- written by px.py and merge.py (programs of this claim's), over the kit's print. Not trusted: Lean checks it.
import Derived.Test.YtlpmggokgcphiaaLMore
import Derived.Test.YtlpmggokgcphiaaN0FnNeededParams
import Derived.Test.YtlpmggokgcphiaaM5FnNeededParams
import Derived.Test.YtlpmggokgcphiaaM1FnNeededParams
import Derived.Test.YtlpmggokgcphiaaM4FnNeededParams
import Derived.Test.YtlpmggokgcphiaaM6FnNeededParams
import Derived.Test.YtlpmggokgcphiaaM7FnNeededParams
namespace Go.Proofs.Ytlpmggokgcphiaa.Pure
open Go.RowKit Go.Proofs.Ytlpmggokgcphiaa.Q Go.Proofs.YtlpmggokgcphiaaL.PrintWords Go.Proofs.YtlpmggokgcphiaaL.PrintLast Go.Proofs.YtlpmggokgcphiaaL.PrintMore
set_option linter.unusedVariables false
set_option linter.unusedSimpArgs false
theorem p_eqTexts_self (l : List ByteArray) (hl : l.length ≤ 2000000) (k : Nat) (hk : 3000000 ≤ k) : laws_equalTexts.f k l l = some true := by
  unfold laws_equalTexts.f
  rw [if_pos rfl]
  have := loop_all0 (fun k i => laws_equalTexts.l0 k l l i) (fun _ => true) true l.length 0 k (by omega) (fun k i _ hi => by
    simp only [laws_equalTexts.l0]
    rw [if_pos (by omega), if_pos (by omega), if_pos (by omega)]
    try rw [if_pos rfl]
    try simp) (fun k _ => by
    simp only [laws_equalTexts.l0]
    rw [if_neg (by omega)]) (by omega)
  rw [this]
  simp
abbrev SL := S127
abbrev slz : SL := z127
theorem rdsl (l : List SL) (i : Nat) : rd_T127 l (i : Int) = l.getD i slz := by
  unfold rd_T127
  rw [Int.toNat_natCast]
abbrev PB := S72
abbrev pbz : PB := z72
theorem rdpb (l : List PB) (i : Nat) : rd_T72 l (i : Int) = l.getD i pbz := by
  unfold rd_T72
  rw [Int.toNat_natCast]
def missP (s : ByteArray) : PB := ⟨3, s⟩
def missOf (l : List PA) : List PB := (l.filter needs).map (fun x => missP x.f0)
def Free (s : List SL) : Prop := ∀ x ∈ s, x.f0 = false ∧ x.f2 = []
theorem set_getD {α : Type} (l : List α) (z : α) (i : Nat) (h : i < l.length) : l.set i (l.getD i z) = l := by
  rw [List.getD_eq_getElem?_getD, List.getElem?_eq_getElem h, Option.getD_some, List.set_getElem_self]
theorem p_bind_l2 (l : List PA) (hl : l.length ≤ 2000000) (s : List SL) (hs : s.length = l.length) (hf : Free s) : ∀ (d k i : Nat) (acc : List PB), i + d = l.length → acc.length ≤ i → d < k → impl_bind.l2 k acc l (l.length : Int) (i : Int) s = some (s, acc ++ missOf (l.drop i)) := by
  intro d
  induction d with
  | zero =>
    intro k i acc h ha hk
    obtain ⟨k, rfl⟩ : ∃ m, k = m + 1 := ⟨k - 1, by omega⟩
    simp only [impl_bind.l2]
    rw [if_neg (by omega), List.drop_of_length_le (by omega)]
    unfold impl_Problem.f missOf
    simp
  | succ d ih =>
    intro k i acc h ha hk
    obtain ⟨k, rfl⟩ : ∃ m, k = m + 1 := ⟨k - 1, by omega⟩
    simp only [impl_bind.l2]
    have hfi := hf _ (getD_mem s slz i (by omega))
    rw [if_pos (by omega), if_pos (by omega), if_pos (by omega), if_pos (by omega), rdsl, rdpa, hfi.2, if_pos (by simp), Option.bind_some, Int.toNat_natCast, p_single, Option.bind_some, wrap_succ (n := l.length) (by omega) (by omega), if_pos (show acc.length < 5864062014805 by omega), drop_getD l paz i (by omega)]
    have e0 : (⟨(s.getD i slz).f0, (s.getD i slz).f1, []⟩ : SL) = s.getD i slz := by
      rw [← hfi.2]
    rw [e0, set_getD s slz i (by omega), rdsl, hfi.1, ih k (i + 1) acc (by omega) (by omega) (by omega), ih k (i + 1) _ (by omega) (by rw [List.length_append, List.length_singleton]; omega) (by omega)]
    have e : (⟨(l.getD i paz).f0, (l.getD i paz).f1, (l.getD i paz).f2, (l.getD i paz).f3⟩ : PA) = l.getD i paz := rfl
    rw [e]
    unfold missOf
    rw [List.filter_cons]
    unfold needs missP
    cases single (l.getD i paz) <;> cases (l.getD i paz).f2 <;> simp
theorem p_bind_j2 (l : List PA) (hl : l.length ≤ 2000000) (s : List SL) (hs : s.length = l.length) (hf : Free s) (k : Nat) (hk : 3000000 ≤ k) : impl_bind.j2 k [] l [] [] s = some (s, missOf l) := by
  obtain ⟨k, rfl⟩ : ∃ m, k = m + 2 := ⟨k - 2, by omega⟩
  simp only [impl_bind.j2, impl_bind.l1]
  rw [if_neg (by simp)]
  have := p_bind_l2 l hl s hs hf l.length k 0 [] (by omega) (by simp) (by omega)
  simpa using this
theorem p_bind_l0 (l : List PA) (hl : l.length ≤ 2000000) : ∀ (d k i : Nat) (s : List SL), i + d = l.length → s.length = l.length → Free s → 4000000 + 2 * d < k → ∃ s', impl_bind.l0 k [] l (l.length : Int) (i : Int) l [] [] s = some (s', missOf l) := by
  intro d
  induction d with
  | zero =>
    intro k i s h hs hf hk
    obtain ⟨k, rfl⟩ : ∃ m, k = m + 1 := ⟨k - 1, by omega⟩
    simp only [impl_bind.l0]
    rw [if_neg (by omega), if_neg (by simp)]
    exact ⟨s, p_bind_j2 l hl s hs hf k (by omega)⟩
  | succ d ih =>
    intro k i s h hs hf hk
    obtain ⟨k, rfl⟩ : ∃ m, k = m + 2 := ⟨k - 2, by omega⟩
    simp only [impl_bind.l0]
    rw [if_pos (by omega), if_pos (by omega), if_pos (by omega), rdpa]
    have nope : decide ((([] : List Int).length : Int) > 0) = false := by decide
    rw [nope]
    have step : ∃ s', impl_bind.j1 (k + 1) [] (i : Int) l (l.length : Int) (i : Int) false l [] [] s (l.getD i paz).f0 (l.getD i paz).f1 (l.getD i paz).f2 (l.getD i paz).f3 = some (s', missOf l) := by
      simp only [impl_bind.j1]
      rw [if_neg (by decide)]
      by_cases c : (l.getD i paz).f1 = 2
      · rw [if_pos c]
        unfold impl_clone_int.f
        rw [if_pos (by simp), Option.bind_some, if_pos (by omega), if_pos (by omega), rdsl, wrap_succ (n := l.length) (by omega) (by omega), Int.toNat_natCast]
        refine ih k (i + 1) _ (by omega) (by rw [List.length_set]; exact hs) (fun x hx => ?_) (by omega)
        rcases List.mem_or_eq_of_mem_set hx with hx | hx
        · exact hf x hx
        · have hy := hf _ (getD_mem s slz i (by omega))
          rw [hx]
          exact ⟨hy.1, hy.2⟩
      · rw [if_neg c, wrap_succ (n := l.length) (by omega) (by omega)]
        exact ih k (i + 1) s (by omega) hs hf (by omega)
    rw [p_placed, Option.bind_some]
    split <;> exact step
theorem p_flatNone (k : Nat) (hk : 1 ≤ k) : impl_ValidFlat.f k [] [] = some true := by
  obtain ⟨k, rfl⟩ : ∃ m, k = m + 1 := ⟨k - 1, by omega⟩
  unfold impl_ValidFlat.f
  simp only [impl_ValidFlat.l0]
  unfold impl_areValues.f
  simp
theorem p_problems (l : List PA) (hl : l.length ≤ 2000000) (hs : ∀ x ∈ l, x.f0.size ≤ 2000000) (hv : vsig l = true) (k : Nat) (hk : 20000000 ≤ k) : impl_Problems.f k l [] [] = some (missOf l) := by
  unfold impl_Problems.f impl_fit.f impl_bind.f
  rw [p_implSig l hl hs k (by omega), Option.bind_some, if_pos hv, p_flatNone k (by omega), Option.bind_some, Option.bind_some, if_pos (by rfl), if_pos (by omega), if_pos (by omega), Int.toNat_natCast]
  obtain ⟨s', e⟩ := p_bind_l0 l hl l.length k 0 (List.replicate l.length slz) (by omega) (by simp) (fun x hx => by rw [(List.mem_replicate.1 hx).2]; exact ⟨rfl, rfl⟩) (by omega)
  rw [show ((0 : Nat) : Int) = 0 from rfl] at e
  rw [e]
  rfl
theorem p_law_l0 (n : List ByteArray) (hl : n.length ≤ 2000000) : ∀ (d k i : Nat), i + d = n.length → d < k → laws_FnNeededParams.l0 k n (n.map missP) (i : Int) = some true := by
  intro d
  induction d with
  | zero =>
    intro k i h hk
    obtain ⟨k, rfl⟩ : ∃ m, k = m + 1 := ⟨k - 1, by omega⟩
    simp only [laws_FnNeededParams.l0]
    rw [if_neg (by rw [List.length_map]; omega), List.length_map]
    simp
  | succ d ih =>
    intro k i h hk
    obtain ⟨k, rfl⟩ : ∃ m, k = m + 1 := ⟨k - 1, by omega⟩
    simp only [laws_FnNeededParams.l0]
    have e : (n.map missP).getD i pbz = missP (n.getD i ByteArray.empty) := by
      rw [List.getD_eq_getElem?_getD, List.getElem?_map, List.getElem?_eq_getElem (by omega), List.getD_eq_getElem?_getD, List.getElem?_eq_getElem (by omega)]
      rfl
    rw [if_pos (by rw [List.length_map]; omega), if_pos (by omega), rdpb, e, if_pos (by rfl), if_pos (by omega), rdOf_nat, if_pos (by rfl), wrap_succ (n := n.length) (by omega) (by omega), ih k (i + 1) (by omega) (by omega)]
theorem FnNeededParams : laws_FnNeededParams.Pure := by
  intro l hl hs hb
  obtain ⟨K, hK⟩ : ∃ K : Nat, K = 30000000 := ⟨_, rfl⟩
  refine ⟨K + 10, ?_⟩
  unfold laws_FnNeededParams.f
  by_cases h : (l.length : Int) > 1048576
  · rw [if_pos h]
  rw [if_neg h]
  unfold spec_DrawNeededParams.f
  obtain ⟨m, e, hm⟩ := p_newReader l hb
  rw [e, Option.bind_some]
  dsimp only
  obtain ⟨ps, q, e5, _, _, h3, h4⟩ := p_someSig hm (K + 10) (by omega) (p := 0) (by omega) (by omega)
  rw [e5, Option.bind_some, Option.bind_some]
  have hn := neededOf_len ps
  rw [p_implNeeded ps (by omega) h4.big (K + 10) (by omega), Option.bind_some, p_specNeeded ps (by omega) h4.big (K + 10) (by omega), Option.bind_some, p_eqTexts_self _ (by omega) (K + 10) (by omega), Option.bind_some, if_pos rfl, p_implSig ps (by omega) h4.big (K + 10) (by omega), Option.bind_some]
  simp only [laws_FnNeededParams.j0]
  cases hv : vsig ps with
  | false =>
    rw [if_pos (by rfl), p_specNeeded ps (by omega) h4.big (K + 9) (by omega), Option.bind_some, p_eqTexts_self _ (by omega) (K + 9) (by omega)]
    rfl
  | true =>
    rw [if_neg (by simp), p_problems ps (by omega) h4.big hv (K + 9) (by omega), Option.bind_some]
    have e1 : missOf ps = (neededOf ps).map missP := by
      unfold missOf neededOf
      rw [if_pos hv, List.map_map]
      rfl
    rw [e1]
    exact p_law_l0 (neededOf ps) (by omega) (neededOf ps).length (K + 9) 0 (by omega) (by omega)
end Go.Proofs.Ytlpmggokgcphiaa.Pure
