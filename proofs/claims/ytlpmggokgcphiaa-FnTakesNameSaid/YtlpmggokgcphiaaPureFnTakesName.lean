-- written by px.py and merge.py (programs of this claim's), over the kit's print. Not trusted: Lean checks it.
import Derived.Test.YtlpmggokgcphiaaLMore
import Derived.Test.YtlpmggokgcphiaaN0FnTakesName
import Derived.Test.YtlpmggokgcphiaaM7FnTakesName
import Derived.Test.YtlpmggokgcphiaaM0FnTakesName
import Derived.Test.YtlpmggokgcphiaaM1FnTakesName
import Derived.Test.YtlpmggokgcphiaaM2FnTakesName
import Derived.Test.YtlpmggokgcphiaaM3FnTakesName
import Derived.Test.YtlpmggokgcphiaaM8FnTakesName
namespace Go.Proofs.Ytlpmggokgcphiaa.Pure
open Go.RowKit Go.Proofs.Ytlpmggokgcphiaa.Q Go.Proofs.YtlpmggokgcphiaaL.PrintWords Go.Proofs.YtlpmggokgcphiaaL.PrintLast Go.Proofs.YtlpmggokgcphiaaL.PrintMore
set_option linter.unusedVariables false
set_option linter.unusedSimpArgs false
abbrev SL := S127
abbrev slz : SL := z127
theorem rdsl (l : List SL) (i : Nat) : rd_T127 l (i : Int) = l.getD i slz := by
  unfold rd_T127
  rw [Int.toNat_natCast]
abbrev PB := S72
abbrev pbz : PB := z72
abbrev PR := S130
/-- No place is given yet, and no name. -/
def Free (s : List SL) : Prop := ∀ x ∈ s, x.f0 = false ∧ x.f2 = []
/-- What is told as missing. -/
def Miss (m : List PB) : Prop := ∀ x ∈ m, x.f0 = 3
theorem p_bind_l2 (l : List PA) (hl : l.length ≤ 2000000) : ∀ (d k i : Nat) (acc : List PB) (s : List SL), i + d = l.length → acc.length ≤ i + 1 → s.length = l.length → (∀ x ∈ s, x.f2.length ≤ 1) → d < k → ∃ s' m, impl_bind.l2 k acc l (l.length : Int) (i : Int) s = some (s', acc ++ m) ∧ Miss m := by
  intro d
  induction d with
  | zero =>
    intro k i acc s h ha hs hf hk
    obtain ⟨k, rfl⟩ : ∃ m, k = m + 1 := ⟨k - 1, by omega⟩
    simp only [impl_bind.l2]
    rw [if_neg (by omega)]
    unfold impl_Problem.f
    exact ⟨s, [], by simp, fun x hx => by cases hx⟩
  | succ d ih =>
    intro k i acc s h ha hs hf hk
    obtain ⟨k, rfl⟩ : ∃ m, k = m + 1 := ⟨k - 1, by omega⟩
    simp only [impl_bind.l2]
    have hfi := hf _ (getD_mem s slz i (by omega))
    rw [if_pos (by omega), if_pos (by omega), if_pos (by omega), if_pos (by omega), rdsl, rdpa, if_pos (by omega), Option.bind_some, Int.toNat_natCast, p_single, Option.bind_some, wrap_succ (n := l.length) (by omega) (by omega), if_pos (show acc.length < 5864062014805 by omega)]
    generalize hs2 : s.set i (⟨(s.getD i slz).f0, (s.getD i slz).f1, (s.getD i slz).f2⟩ : SL) = s2
    have h2 : s2.length = l.length := by rw [← hs2, List.length_set]; exact hs
    have f2 : ∀ x ∈ s2, x.f2.length ≤ 1 := by
      intro x hx
      rw [← hs2] at hx
      rcases List.mem_or_eq_of_mem_set hx with hx | hx
      · exact hf x hx
      · rw [hx]; exact hfi
    obtain ⟨s', m, e, hm⟩ := ih k (i + 1) acc s2 (by omega) (by omega) h2 f2 (by omega)
    obtain ⟨s3, m3, e3, hm3⟩ := ih k (i + 1) (acc ++ [⟨3, (l.getD i paz).f0⟩]) s2 (by omega) (by rw [List.length_append, List.length_singleton]; omega) h2 f2 (by omega)
    rw [e, e3]
    have A : ∃ s' m', (some (s', acc ++ m') : Option (List SL × List PB)) = some (s', acc ++ m') ∧ Miss m' := ⟨s', m, rfl, hm⟩
    have B : Miss (⟨3, (l.getD i paz).f0⟩ :: m3) := by
      intro x hx
      rcases List.mem_cons.1 hx with hx | hx
      · rw [hx]
      · exact hm3 x hx
    split
    · split
      · exact ⟨s', m, rfl, hm⟩
      · split
        · exact ⟨s', m, rfl, hm⟩
        · exact ⟨s3, _, by rw [List.append_assoc]; rfl, B⟩
    · exact ⟨s', m, rfl, hm⟩
theorem takes_range (l : List PA) (s : ByteArray) : takes l s = -1 ∨ ∃ i : Nat, i < l.length ∧ takes l s = (i : Int) ∧ ((l.getD i paz).f0 = s ∨ (l.getD i paz).f1 = 4) := by
  have hit : ∀ (p : PA → Bool) (i : Nat), i < l.length → pxIdx p l = (i : Int) → p (l.getD i paz) = true := by
    intro p i hi e
    unfold pxIdx at e
    cases hf : l.findIdx? p with
    | none => rw [hf] at e; simp at e <;> omega
    | some j =>
      rw [hf] at e
      have : j = i := by
        simp only at e
        omega
      subst this
      rw [List.findIdx?_eq_some_iff_getElem] at hf
      rw [getD_at l paz j hi]
      exact hf.2.1
  have K : kAt l 4 = -1 ∨ ∃ i : Nat, i < l.length ∧ kAt l 4 = (i : Int) ∧ (l.getD i paz).f1 = 4 := by
    unfold kAt
    rcases pxIdx_range (fun x : PA => x.f1 == 4) l with e | ⟨i, hi, e⟩
    · exact .inl e
    · exact .inr ⟨i, hi, e, by simpa using hit _ i hi e⟩
  have K' : kAt l 4 = -1 ∨ ∃ i : Nat, i < l.length ∧ kAt l 4 = (i : Int) ∧ ((l.getD i paz).f0 = s ∨ (l.getD i paz).f1 = 4) := by
    rcases K with e | ⟨i, hi, e, h⟩
    · exact .inl e
    · exact .inr ⟨i, hi, e, .inr h⟩
  unfold takes
  rcases pxIdx_range (fun x : PA => x.f0.toList == s.toList) l with e | ⟨i, hi, e⟩
  · rw [e, if_neg (by omega)]; exact K'
  · rw [e, if_pos (by omega)]
    split
    · exact .inr ⟨i, hi, rfl, .inl ((bt_eqv _ _).1 (by simpa using hit _ i hi e))⟩
    · exact K'
/-- The names' loop with one name. -/
theorem p_bind_l1 (l : List PA) (hl : l.length ≤ 2000000) (a : ByteArray) (s : List SL) (hs : s.length = l.length) (hf : Free s) (k : Nat) (hk : 3000000 ≤ k) : ∃ s' m, impl_bind.l1 k [] [(⟨a, 1⟩ : PR)] 1 0 l s = some (s', (if takes l a < 0 then [(⟨1, a⟩ : PB)] else []) ++ m) ∧ Miss m := by
  obtain ⟨k, rfl⟩ : ∃ m, k = m + 2 := ⟨k - 2, by omega⟩
  have w : wrap64 (0 + 1) = 1 := by unfold wrap64; omega
  have nx : ∀ (acc : List PB) (s : List SL), acc.length ≤ 1 → s.length = l.length → (∀ x ∈ s, x.f2.length ≤ 1) → ∃ s' m, impl_bind.l1 (k + 1) acc [(⟨a, 1⟩ : PR)] 1 1 l s = some (s', acc ++ m) ∧ Miss m := by
    intro acc s ha h1 h2
    simp only [impl_bind.l1]
    rw [if_neg (by decide)]
    exact p_bind_l2 l hl l.length k 0 acc s (by omega) (by omega) h1 h2 (by omega)
  have e0 : (rd_T130 [(⟨a, 1⟩ : PR)] 0) = ⟨a, 1⟩ := rfl
  rw [impl_bind.l1]
  rw [if_pos (by decide), if_pos (by decide), if_pos (by simp), e0]
  dsimp only
  rw [p_implTakes, Option.bind_some, w]
  have free1 : ∀ x ∈ s, x.f2.length ≤ 1 := fun x hx => by rw [(hf x hx).2]; exact Nat.zero_le _
  rcases takes_range l a with e | ⟨i, hi, e, _⟩
  · have hlt : takes l a < 0 := by omega
    rw [if_pos hlt, if_pos hlt, if_pos (by decide)]
    exact nx _ s (Nat.le_refl 1) hs free1
  · have hy := hf _ (getD_mem s slz i (by omega))
    have hlt : ¬ takes l a < 0 := by omega
    rw [if_neg hlt, if_neg hlt, e, if_pos (by omega), if_pos (by omega), rdpa]
    have put : ∀ y : SL, y.f2.length ≤ 1 → ∃ s' m, impl_bind.l1 (k + 1) [] [(⟨a, 1⟩ : PR)] 1 1 l (s.set i y) = some (s', ([] : List PB) ++ m) ∧ Miss m := by
      intro y h
      refine nx [] _ (Nat.zero_le _) (by rw [List.length_set]; exact hs) (fun x hx => ?_)
      rcases List.mem_or_eq_of_mem_set hx with hx | hx
      · exact free1 x hx
      · rw [hx]; exact h
    by_cases c : (l.getD i paz).f1 = 4
    · rw [if_pos c, if_pos (by omega), rdsl, hy.2, if_pos (show ([] : List PR).length = 0 from rfl), Int.toNat_natCast]
      exact put _ (Nat.le_refl 1)
    · rw [if_neg c, if_pos (by omega), rdsl, hy.1, if_neg (by decide), Int.toNat_natCast]
      exact put _ (Nat.zero_le 1)
theorem p_bind_l0 (l : List PA) (hl : l.length ≤ 2000000) (a : ByteArray) : ∀ (d k i : Nat) (s : List SL), i + d = l.length → s.length = l.length → Free s → 4000000 + 2 * d < k → ∃ s' m, impl_bind.l0 k [] l (l.length : Int) (i : Int) l [] [(⟨a, 1⟩ : PR)] s = some (s', (if takes l a < 0 then [(⟨1, a⟩ : PB)] else []) ++ m) ∧ Miss m := by
  intro d
  induction d with
  | zero =>
    intro k i s h hs hf hk
    obtain ⟨k, rfl⟩ : ∃ m, k = m + 2 := ⟨k - 2, by omega⟩
    simp only [impl_bind.l0]
    rw [if_neg (by omega), if_neg (by simp)]
    simp only [impl_bind.j2]
    exact p_bind_l1 l hl a s hs hf k (by omega)
  | succ d ih =>
    intro k i s h hs hf hk
    obtain ⟨k, rfl⟩ : ∃ m, k = m + 2 := ⟨k - 2, by omega⟩
    simp only [impl_bind.l0]
    rw [if_pos (by omega), if_pos (by omega), if_pos (by omega), rdpa]
    have nope : decide ((([] : List Int).length : Int) > 0) = false := by decide
    rw [nope]
    have step : ∃ s' m, impl_bind.j1 (k + 1) [] (i : Int) l (l.length : Int) (i : Int) false l [] [(⟨a, 1⟩ : PR)] s (l.getD i paz).f0 (l.getD i paz).f1 (l.getD i paz).f2 (l.getD i paz).f3 = some (s', (if takes l a < 0 then [(⟨1, a⟩ : PB)] else []) ++ m) ∧ Miss m := by
      simp only [impl_bind.j1]
      rw [if_neg (by decide)]
      by_cases c : (l.getD i paz).f1 = 2
      · rw [if_pos c]
        unfold impl_clone_int.f
        rw [if_pos (by simp), Option.bind_some, if_pos (by omega), if_pos (by omega), rdsl, wrap_succ (n := l.length) (by omega) (by omega), Int.toNat_natCast]
        refine ih k (i + 1) _ (by omega) (by rw [List.length_set]; exact hs) (fun x hx => ?_) (by omega)
        rcases List.mem_or_eq_of_mem_set hx with hx | hx
        · exact hf x hx
        · have hy := hf _ (getD_mem s slz i (by omega))
          rw [hx]
          exact ⟨hy.1, hy.2⟩
      · rw [if_neg c, wrap_succ (n := l.length) (by omega) (by omega)]
        exact ih k (i + 1) s (by omega) hs hf (by omega)
    rw [p_placed, Option.bind_some]
    split <;> exact step
theorem p_flatNone (k : Nat) (hk : 1 ≤ k) : impl_ValidFlat.f k [] [] = some true := by
  obtain ⟨k, rfl⟩ : ∃ m, k = m + 1 := ⟨k - 1, by omega⟩
  unfold impl_ValidFlat.f
  simp only [impl_ValidFlat.l0]
  unfold impl_areValues.f
  simp
theorem p_flatOne (a : ByteArray) (ha : a.size ≤ 2000000) (k : Nat) (hk : 4000000 ≤ k) : impl_ValidFlat.f k [] [(⟨a, 1⟩ : PR)] = some (pxName a) := by
  obtain ⟨k, rfl⟩ : ∃ m, k = m + 2 := ⟨k - 2, by omega⟩
  have w : wrap64 (0 + 1) = 1 := by unfold wrap64; omega
  have e0 : (rd_T130 [(⟨a, 1⟩ : PR)] 0) = ⟨a, 1⟩ := rfl
  have e1 : impl_Pair_valid.f (k + 1) a 1 = some (pxName a) := by
    unfold impl_Pair_valid.f
    rw [p_isName a (by omega) (k + 1) (by omega), Option.bind_some, p_isValue, Option.bind_some]
    cases pxName a <;> simp <;> decide
  unfold impl_ValidFlat.f
  rw [impl_ValidFlat.l0]
  simp only [e0, e1, w]
  unfold impl_pairAt.f
  cases pxName a with
  | false => simp
  | true =>
    simp only [impl_ValidFlat.l0]
    unfold impl_areValues.f
    simp [pxIdx]
theorem p_putOne (a : ByteArray) (ha : a.size ≤ 2000000) (k : Nat) (hk : 4000000 ≤ k) : impl_PutName.f k [] [] a 1 = some (if pxName a = true then ([], [(⟨a, 1⟩ : PR)], true) else ([], [], false)) := by
  have c : ∀ l : List PR, l.length ≤ 8 → impl_Flat_copyOf.f [] l = some ([], l) := by
    intro l hl
    unfold impl_Flat_copyOf.f impl_clone_int.f impl_Pair_131.f
    rw [if_pos (by simp), Option.bind_some, if_pos (by omega), Option.bind_some]
  have p : impl_Flat_put.f [] [] a 1 = some ([], [(⟨a, 1⟩ : PR)]) := by
    unfold impl_Flat_put.f
    rw [c [] (by simp), Option.bind_some]
    unfold impl_pairAt.f
    simp [pxIdx]
  unfold impl_PutName.f
  rw [p, Option.bind_some]
  dsimp only
  rw [p_flatNone k (by omega), Option.bind_some]
  unfold impl_checked.f
  rw [if_pos rfl, p_flatOne a ha k hk, Option.bind_some]
  cases pxName a with
  | false => rfl
  | true =>
    rw [if_pos rfl, c [(⟨a, 1⟩ : PR)] (by simp)]
    rfl
theorem p_problems (l : List PA) (hl : l.length ≤ 2000000) (hs : ∀ x ∈ l, x.f0.size ≤ 2000000) (hv : vsig l = true) (a : ByteArray) (ha : a.size ≤ 2000000) (hn : pxName a = true) (k : Nat) (hk : 20000000 ≤ k) : ∃ m, impl_Problems.f k l [] [(⟨a, 1⟩ : PR)] = some ((if takes l a < 0 then [(⟨1, a⟩ : PB)] else []) ++ m) ∧ Miss m := by
  unfold impl_Problems.f impl_fit.f impl_bind.f
  rw [p_implSig l hl hs k (by omega), Option.bind_some, if_pos hv, p_flatOne a ha k (by omega), Option.bind_some, Option.bind_some, if_pos hn, if_pos (by omega), if_pos (by omega), Int.toNat_natCast]
  obtain ⟨s', m, e, hm⟩ := p_bind_l0 l hl a l.length k 0 (List.replicate l.length slz) (by omega) (by simp) (fun x hx => by rw [(List.mem_replicate.1 hx).2]; exact ⟨rfl, rfl⟩) (by omega)
  rw [show ((0 : Nat) : Int) = 0 from rfl] at e
  rw [e]
  exact ⟨m, rfl, hm⟩
theorem FnTakesName : laws_FnTakesName.Pure := by
  intro l hl hs hb
  obtain ⟨K, hK⟩ : ∃ K : Nat, K = 30000000 := ⟨_, rfl⟩
  refine ⟨K + 10, ?_⟩
  unfold laws_FnTakesName.f
  by_cases h : (l.length : Int) > 1048576
  · rw [if_pos h]
  rw [if_neg h]
  unfold spec_DrawTakesName.f
  obtain ⟨m, e, hm⟩ := p_newReader l hb
  rw [e, Option.bind_some]
  dsimp only
  obtain ⟨ps, a, p', e, h1, h2, h3, h4, h5⟩ := p_nameIn hm (K + 10) (by omega) (p := 0) (by omega) (by omega)
  rw [e, Option.bind_some, Option.bind_some]
  dsimp only
  have hbig := h4.big
  have spec : ∀ k, 20000000 ≤ k → spec_TakesName.f k ps a = some (if (vsig ps && pxName a) = true then takes ps a else -1) := by
    intro k hk
    unfold spec_TakesName.f spec_validSignature.f
    rw [p_specSig ps (by omega) hbig k (by omega), p_validName a (by omega) k (by omega), p_specTakes ps a (by omega) k (by omega)]
    simp only [Option.bind_some]
    cases vsig ps <;> cases pxName a <;> simp
  have impl : ∀ k, 20000000 ≤ k → impl_TakesName.f k ps a = some (if (vsig ps && pxName a) = true then takes ps a else -1) := by
    intro k hk
    unfold impl_TakesName.f
    rw [p_implSig ps (by omega) hbig k (by omega), p_isName a (by omega) k (by omega), p_implTakes ps a]
    simp only [Option.bind_some]
    cases vsig ps <;> cases pxName a <;> simp
  rw [impl (K + 10) (by omega), Option.bind_some, spec (K + 10) (by omega), Option.bind_some, if_pos rfl, p_implSig ps (by omega) hbig (K + 10) (by omega), Option.bind_some]
  simp only [laws_FnTakesName.j0]
  cases hv : vsig ps with
  | false =>
    rw [if_pos (by rfl), spec (K + 9) (by omega), Option.bind_some, hv]
    simp
  | true =>
    rw [if_neg (by decide), p_putOne a (by omega) (K + 9) (by omega), Option.bind_some]
    cases hn : pxName a with
    | false => simp
    | true =>
      rw [if_pos rfl]
      dsimp only
      rw [if_pos rfl]
      obtain ⟨q, e, hq⟩ := p_problems ps (by omega) hbig hv a (by omega) hn (K + 9) (by omega)
      rcases takes_range ps a with et | ⟨i, hi, et, hit⟩
      · rw [if_pos (show takes ps a < 0 by omega)] at e
        have e1 : (rd_T72 ([(⟨1, a⟩ : PB)] ++ q) 0) = ⟨1, a⟩ := rfl
        have hl1 : (([(⟨1, a⟩ : PB)] ++ q).length : Int) > 0 := by rw [List.length_append, List.length_singleton]; omega
        rw [e, Option.bind_some, if_pos hl1, if_pos hl1, e1, et]
        simp
      · rw [if_neg (show ¬ takes ps a < 0 by omega), List.nil_append] at e
        have hd : decide ((i : Int) < 0) = false := by simp
        have last : (if (i : Int) < 0 then some true else if 0 ≤ (i : Int) then if (i : Int) < (ps.length : Int) then if (rd_T33 ps i).f0.toList = a.toList then some true else some ((rd_T33 ps i).f1 == 4) else none else none) = some true := by
          rw [if_neg (by omega), if_pos (by omega), if_pos (by omega), rdpa]
          rcases hit with h | h
          · rw [if_pos (by rw [h])]
          · rw [h]; simp
        rw [e, Option.bind_some]
        simp only [Bool.and_self, if_true]
        rw [et, hd, last]
        cases q with
        | nil => rfl
        | cons x q =>
          have hx := hq x (List.mem_cons_self ..)
          have e1 : (rd_T72 (x :: q) 0) = x := rfl
          rw [e1, hx]
          simp
end Go.Proofs.Ytlpmggokgcphiaa.Pure
