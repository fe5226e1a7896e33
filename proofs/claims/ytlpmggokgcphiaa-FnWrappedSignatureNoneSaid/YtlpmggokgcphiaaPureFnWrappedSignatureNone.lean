-- written by px.py and merge.py (programs of this claim's), over the kit's print. Not trusted: Lean checks it.
import Derived.Test.YtlpmggokgcphiaaVFnWrappedSignatureNone
import Derived.Test.YtlpmggokgcphiaaN0FnWrappedSignatureNone
import Derived.Test.YtlpmggokgcphiaaM2FnWrappedSignatureNone
import Derived.Test.YtlpmggokgcphiaaM4FnWrappedSignatureNone
import Derived.Test.YtlpmggokgcphiaaM5FnWrappedSignatureNone
import Derived.Test.YtlpmggokgcphiaaM9FnWrappedSignatureNone
import Derived.Test.YtlpmggokgcphiaaM10FnWrappedSignatureNone
namespace Go.Proofs.Ytlpmggokgcphiaa.Pure
open Go.RowKit Go.Proofs.Ytlpmggokgcphiaa.Q Go.Proofs.YtlpmggokgcphiaaL.PrintWords Go.Proofs.YtlpmggokgcphiaaL.PrintLast Go.Proofs.YtlpmggokgcphiaaL.PrintMore
set_option linter.unusedVariables false
set_option linter.unusedSimpArgs false
theorem p_aWrapper {r : List Int} (h : Rdr r) (k : Nat) (hk : 20000003 ≤ k) {p : Int} (hp : 0 ≤ p) (hp' : p ≤ 500000) : ∃ l p', spec_aWrapper.f k r p = some (l, p') ∧ p ≤ p' ∧ p' ≤ p + 200 ∧ l.length ≤ 8 ∧ SmallP l := by
  have names : ∀ (xs : List ByteArray), (∀ x ∈ xs, x.size ≤ 7) → ∀ s, s ∈ xs → s.size ≤ 7 := fun _ h s hs => h s hs
  have j1 : ∀ (k : Nat) (q : Int) (l : List PA), 20000001 ≤ k → 0 ≤ q → q ≤ 600000 → l.length ≤ 2 → SmallP l → ∃ l' p', spec_aWrapper.j1 k r q l = some (l', p') ∧ q ≤ p' ∧ p' ≤ q + 5 ∧ l'.length ≤ 8 ∧ SmallP l' := by
    intro k q l hk h0 h1 hl hs
    obtain ⟨k, rfl⟩ : ∃ m, k = m + 1 := ⟨k - 1, by omega⟩
    simp only [spec_aWrapper.j1]
    rw [if_pos (by omega), Option.bind_some]
    obtain ⟨v, e1, _, _⟩ := p_pick h k (by omega) (p := q) (by omega) (by omega) (n := 2) (by omega)
    rw [e1, Option.bind_some]
    dsimp only
    have s1 : SmallP (l ++ [(⟨(⟨#[114, 101, 115, 116]⟩ : ByteArray), 2, false, 0⟩ : PA)]) := by
      intro x hx
      rcases List.mem_append.1 hx with hx | hx
      · exact hs x hx
      · obtain rfl := List.mem_singleton.1 hx
        decide
    split
    · obtain ⟨s, e2, hs2⟩ := p_of h k (by omega) (p := q + 1) (by omega) (by omega) [(⟨#[108, 111, 103]⟩ : ByteArray), (⟨#[98]⟩ : ByteArray), (⟨#[108, 111, 103]⟩ : ByteArray)] (by simp)
      have hz : s.size ≤ 7 := by
        simp only [List.mem_cons, List.not_mem_nil, or_false] at hs2
        rcases hs2 with rfl | rfl | rfl <;> decide
      rw [e2, Option.bind_some]
      dsimp only
      obtain ⟨w, e3, _, _⟩ := p_pick h k (by omega) (p := q + 1 + 1) (by omega) (by omega) (n := 2) (by omega)
      rw [e3, Option.bind_some]
      dsimp only
      rw [if_pos (by simp; omega), Option.bind_some, if_pos (by simp; omega)]
      refine ⟨_, _, rfl, by omega, by omega, by simp; omega, ?_⟩
      intro x hx
      rcases List.mem_append.1 hx with hx | hx
      · rcases List.mem_append.1 hx with hx | hx
        · exact s1 x hx
        · obtain rfl := List.mem_singleton.1 hx
          exact hz
      · obtain rfl := List.mem_singleton.1 hx
        decide
    · rw [if_pos (by simp; omega)]
      refine ⟨_, _, rfl, by omega, by omega, by simp; omega, ?_⟩
      intro x hx
      rcases List.mem_append.1 hx with hx | hx
      · exact s1 x hx
      · obtain rfl := List.mem_singleton.1 hx
        decide
  have j0 : ∀ (k : Nat) (q : Int) (l : List PA), 20000002 ≤ k → 0 ≤ q → q ≤ 599990 → l.length ≤ 1 → SmallP l → ∃ l' p', spec_aWrapper.j0 k r q l = some (l', p') ∧ q ≤ p' ∧ p' ≤ q + 10 ∧ l'.length ≤ 8 ∧ SmallP l' := by
    intro k q l hk h0 h1 hl hs
    obtain ⟨k, rfl⟩ : ∃ m, k = m + 1 := ⟨k - 1, by omega⟩
    simp only [spec_aWrapper.j0]
    obtain ⟨v, e1, _, _⟩ := p_pick h k (by omega) (p := q) (by omega) (by omega) (n := 4) (by omega)
    rw [e1, Option.bind_some]
    dsimp only
    split
    · obtain ⟨s, e2, hs2⟩ := p_of h k (by omega) (p := q + 1) (by omega) (by omega) [(⟨#[97]⟩ : ByteArray), (⟨#[116, 119, 111]⟩ : ByteArray)] (by simp)
      have hz : s.size ≤ 7 := by
        simp only [List.mem_cons, List.not_mem_nil, or_false] at hs2
        rcases hs2 with rfl | rfl <;> decide
      rw [e2, Option.bind_some]
      dsimp only
      obtain ⟨w, e3, _, _⟩ := p_pick h k (by omega) (p := q + 1 + 1) (by omega) (by omega) (n := 2) (by omega)
      rw [e3, Option.bind_some]
      dsimp only
      rw [if_pos (by omega)]
      obtain ⟨l', p', e4, a1, a2, a3, a4⟩ := j1 k (q + 1 + 1 + 1) (l ++ [(⟨s, 1, (w == 0), 0⟩ : PA)]) (by omega) (by omega) (by omega) (by simp; omega) (by
        intro x hx
        rcases List.mem_append.1 hx with hx | hx
        · exact hs x hx
        · obtain rfl := List.mem_singleton.1 hx
          exact hz)
      exact ⟨l', p', e4, by omega, by omega, a3, a4⟩
    · obtain ⟨l', p', e4, a1, a2, a3, a4⟩ := j1 k (q + 1) l (by omega) (by omega) (by omega) (by omega) hs
      exact ⟨l', p', e4, by omega, by omega, a3, a4⟩
  unfold spec_aWrapper.f
  obtain ⟨v, e1, _, _⟩ := p_pick h k (by omega) (p := p) (by omega) (by omega) (n := 8) (by omega)
  rw [e1, Option.bind_some]
  dsimp only
  split
  · obtain ⟨ps, q, e5, h1, h2, h3, h4⟩ := p_someSig h k (by omega) (p := p + 1) (by omega) (by omega)
    rw [e5, Option.bind_some]
    exact ⟨_, _, rfl, by omega, by omega, h3, h4⟩
  · obtain ⟨w, e2, _, _⟩ := p_pick h k (by omega) (p := p + 1) (by omega) (by omega) (n := 2) (by omega)
    rw [e2, Option.bind_some]
    dsimp only
    split
    · obtain ⟨u, e3, _, _⟩ := p_pick h k (by omega) (p := p + 1 + 1) (by omega) (by omega) (n := 2) (by omega)
      rw [e3, Option.bind_some]
      dsimp only
      rw [if_pos (by simp)]
      obtain ⟨l', p', e4, a1, a2, a3, a4⟩ := j0 k (p + 1 + 1 + 1) ([] ++ [(⟨(⟨#[111, 119, 110]⟩ : ByteArray), u, false, 0⟩ : PA)]) (by omega) (by omega) (by omega) (by simp) (by
        intro x hx
        obtain rfl := List.mem_singleton.1 (by simpa using hx)
        show (⟨#[111, 119, 110]⟩ : ByteArray).size ≤ 7
        decide)
      exact ⟨l', p', e4, by omega, by omega, a3, a4⟩
    · obtain ⟨l', p', e4, a1, a2, a3, a4⟩ := j0 k (p + 1 + 1) [] (by omega) (by omega) (by omega) (by simp) (by intro x hx; cases hx)
      exact ⟨l', p', e4, by omega, by omega, a3, a4⟩
theorem count_split (l : List PA) : (l.filter needs).length = ((l.filter wrP).filter needs).length + ((l.filter (wrK 3)).filter needs).length := by
  induction l with
  | nil => rfl
  | cons x t ih =>
    have hx : (if needs x = true then 1 else 0) = (if wrP x = true then (if needs x = true then 1 else 0) else 0) + (if wrK 3 x = true then (if needs x = true then 1 else 0) else 0) := by
      unfold needs single placed wrP wrK
      by_cases h0 : x.f1 = 0
      · simp [h0]
      · by_cases h1 : x.f1 = 1
        · simp [h1]
        · by_cases h3 : x.f1 = 3
          · simp [h3]
          · simp [h0, h1, h3]
    have e : ∀ (p : PA → Bool) (l : List PA), ((x :: l).filter p).length = (if p x = true then 1 else 0) + (l.filter p).length := by
      intro p l
      rw [List.filter_cons]
      split <;> simp <;> omega
    rw [e needs t, ih]
    rw [List.filter_cons, List.filter_cons]
    cases hp : wrP x <;> cases hq : wrK 3 x <;> rw [hp, hq] at hx <;> simp only [e, if_true, if_false, Bool.false_eq_true] at hx ⊢ <;> omega
theorem none_needs (l : List PA) (c : Int) (hc : c = 2 ∨ c = 4) : ((l.filter (wrK c)).filter needs) = [] := by
  rw [List.filter_eq_nil_iff]
  intro x hx
  have h := (List.mem_filter.1 hx).2
  unfold wrK at h
  have h : x.f1 = c := by simpa using h
  unfold needs single placed
  rcases hc with rfl | rfl <;> simp [h]
theorem need_count (a b : List PA) : ((wrOut a b).filter needs).length = (a.filter needs).length + (b.filter needs).length := by
  unfold wrOut
  simp only [List.filter_append, List.length_append, List.filter_nil, List.length_nil, none_needs b 2 (.inl rfl), none_needs b 4 (.inr rfl)]
  rw [count_split a, count_split b]
  omega
theorem kinds_split : ∀ (l : List PA), (l.Pairwise fun x y => x.f1 ≤ y.f1) → (∀ x ∈ l, 0 ≤ x.f1 ∧ x.f1 ≤ 4) → l.filter wrP ++ l.filter (wrK 2) ++ l.filter (wrK 3) ++ l.filter (wrK 4) = l
  | [], _, _ => rfl
  | x :: t, hp, hr => by
    have ih := kinds_split t (List.pairwise_cons.1 hp).2 (fun y hy => hr y (List.mem_cons_of_mem _ hy))
    have hle := (List.pairwise_cons.1 hp).1
    have h0 := hr x (List.mem_cons_self ..)
    have none : ∀ (p : PA → Bool), (∀ y : PA, x.f1 ≤ y.f1 → p y = false) → t.filter p = [] := by
      intro p h
      rw [List.filter_eq_nil_iff]
      intro y hy
      rw [h y (hle y hy)]
      decide
    by_cases h1 : x.f1 ≤ 1
    · have e1 : wrP x = true := by unfold wrP; rcases (by omega : x.f1 = 0 ∨ x.f1 = 1) with e | e <;> simp [e]
      have e2 : wrK 2 x = false := by unfold wrK; simp; omega
      have e3 : wrK 3 x = false := by unfold wrK; simp; omega
      have e4 : wrK 4 x = false := by unfold wrK; simp; omega
      rw [List.filter_cons, List.filter_cons, List.filter_cons, List.filter_cons, e1, e2, e3, e4]
      simp only [if_true, Bool.false_eq_true, if_false, List.cons_append]
      rw [ih]
    · have e1 : wrP x = false := by unfold wrP; simp; omega
      have n1 : t.filter wrP = [] := none _ (fun y hy => by unfold wrP; simp; omega)
      rw [n1, List.nil_append] at ih
      by_cases h2 : x.f1 = 2
      · have e2 : wrK 2 x = true := by unfold wrK; simp [h2]
        have e3 : wrK 3 x = false := by unfold wrK; simp; omega
        have e4 : wrK 4 x = false := by unfold wrK; simp; omega
        rw [List.filter_cons, List.filter_cons, List.filter_cons, List.filter_cons, e1, e2, e3, e4]
        simp only [if_true, Bool.false_eq_true, if_false, n1, List.nil_append, List.cons_append]
        rw [ih]
      · have e2 : wrK 2 x = false := by unfold wrK; simp; omega
        have n2 : t.filter (wrK 2) = [] := none _ (fun y hy => by unfold wrK; simp; omega)
        rw [n2, List.nil_append] at ih
        by_cases h3 : x.f1 = 3
        · have e3 : wrK 3 x = true := by unfold wrK; simp [h3]
          have e4 : wrK 4 x = false := by unfold wrK; simp; omega
          rw [List.filter_cons, List.filter_cons, List.filter_cons, List.filter_cons, e1, e2, e3, e4]
          simp only [if_true, Bool.false_eq_true, if_false, n1, n2, List.nil_append, List.cons_append]
          rw [ih]
        · have h4 : x.f1 = 4 := by omega
          have e3 : wrK 3 x = false := by unfold wrK; simp; omega
          have e4 : wrK 4 x = true := by unfold wrK; simp [h4]
          have n3 : t.filter (wrK 3) = [] := none _ (fun y hy => by unfold wrK; simp; omega)
          rw [n3, List.nil_append] at ih
          rw [List.filter_cons, List.filter_cons, List.filter_cons, List.filter_cons, e1, e2, e3, e4]
          simp only [if_true, Bool.false_eq_true, if_false, n1, n2, n3, List.nil_append, List.cons_append]
          rw [ih]
theorem FnWrappedSignatureNone : laws_FnWrappedSignatureNone.Pure := by
  intro l hl hs hb
  obtain ⟨K, hK⟩ : ∃ K : Nat, K = 30000000 := ⟨_, rfl⟩
  refine ⟨K + 10, ?_⟩
  unfold laws_FnWrappedSignatureNone.f
  by_cases h : (l.length : Int) > 1048576
  · rw [if_pos h]
  rw [if_neg h]
  obtain ⟨m, e, hm⟩ := p_newReader l hb
  have draw : ∃ (a b : List PA), spec_DrawWrappedSignature.f (K + 10) l = some (a, b) ∧ a.length ≤ 8 ∧ SmallP a ∧ b.length ≤ 8 ∧ SmallP b := by
    unfold spec_DrawWrappedSignature.f
    rw [e, Option.bind_some]
    dsimp only
    obtain ⟨a, q, e1, h1, h2, h3, h4⟩ := p_aWrapper hm (K + 10) (by omega) (p := 0) (by omega) (by omega)
    rw [e1, Option.bind_some]
    dsimp only
    obtain ⟨b, q', e2, _, _, h5, h6⟩ := p_someSig hm (K + 10) (by omega) (p := q) (by omega) (by omega)
    rw [e2, Option.bind_some]
    exact ⟨a, b, rfl, h3, h4, h5, h6⟩
  obtain ⟨a, b, ed, ha, hsa, hb', hsb⟩ := draw
  rw [ed, Option.bind_some]
  dsimp only
  have hlen := wrapP_len a b
  rw [p_implWrap a b (by omega) (by omega) hsa.big hsb.big (K + 10) (by omega), Option.bind_some, p_specWrap a b (by omega) (by omega) hsa.big hsb.big (K + 10) (by omega), Option.bind_some, p_eqSig_self _ (by omega) (K + 10) (by omega), Option.bind_some, if_pos rfl, if_neg (by simp), p_implSig b (by omega) hsb.big (K + 10) (by omega), Option.bind_some]
  simp only [laws_FnWrappedSignatureNone.j0]
  cases hv : vsig b with
  | false => rw [if_pos (by rfl), p_eqSig_self _ (by omega) (K + 9) (by omega)]; simp
  | true =>
    rw [if_neg (by simp)]
    have hall : ∀ x ∈ ([(⟨(⟨#[114]⟩ : ByteArray), 2, false, 0⟩ : PA), (⟨(⟨#[109]⟩ : ByteArray), 4, false, 0⟩ : PA)] : List PA), x.f0.size ≤ 2000000 := by
      intro x hx
      simp only [List.mem_cons, List.not_mem_nil, or_false] at hx
      rcases hx with rfl | rfl <;> decide
    have ok := (okS_iff b).1 hv
    have hw : wrOut ([(⟨(⟨#[114]⟩ : ByteArray), 2, false, 0⟩ : PA), (⟨(⟨#[109]⟩ : ByteArray), 4, false, 0⟩ : PA)] : List PA) b = b := by
      have e1 : (([(⟨(⟨#[114]⟩ : ByteArray), 2, false, 0⟩ : PA), (⟨(⟨#[109]⟩ : ByteArray), 4, false, 0⟩ : PA)] : List PA).filter wrP) = [] := by decide
      have e2 : (([(⟨(⟨#[114]⟩ : ByteArray), 2, false, 0⟩ : PA), (⟨(⟨#[109]⟩ : ByteArray), 4, false, 0⟩ : PA)] : List PA).filter (wrK 3)) = [] := by decide
      unfold wrOut
      rw [e1, e2]
      simp only [List.append_nil, List.nil_append]
      exact kinds_split b ok.sorted (fun x hx => ok.range hx)
    have hwp : wrapperP ([(⟨(⟨#[114]⟩ : ByteArray), 2, false, 0⟩ : PA), (⟨(⟨#[109]⟩ : ByteArray), 4, false, 0⟩ : PA)] : List PA) = true := by decide +kernel
    have hwr : wrapP ([(⟨(⟨#[114]⟩ : ByteArray), 2, false, 0⟩ : PA), (⟨(⟨#[109]⟩ : ByteArray), 4, false, 0⟩ : PA)] : List PA) b = (b, true) := by
      unfold wrapP outP
      rw [if_pos hwp, if_pos hv, hw, if_pos hv]
    rw [p_implWrap _ b (by simp) (by omega) hall hsb.big (K + 9) (by omega), Option.bind_some, hwr]
    dsimp only
    rw [if_pos rfl, p_eqSig_self b (by omega) (K + 9) (by omega), Option.bind_some, if_pos rfl]
    cases hq : (wrapP a b).2 with
    | false => rfl
    | true =>
      rw [if_pos rfl]
      have hw1 : wrapperP a = true ∧ vsig (wrOut a b) = true ∧ (wrapP a b).1 = wrOut a b := by
        unfold wrapP outP at hq ⊢
        by_cases h1 : wrapperP a = true
        · rw [if_pos h1, if_pos hv] at hq ⊢
          by_cases h2 : vsig (wrOut a b) = true
          · rw [if_pos h2]
            exact ⟨h1, h2, rfl⟩
          · rw [if_neg h2] at hq
            cases hq
        · rw [if_neg h1] at hq
          cases hq
      obtain ⟨w1, w2, w3⟩ := hw1
      have va : vsig a = true := by
        unfold wrapperP at w1
        simp only [Bool.and_eq_true] at w1
        exact w1.1
      rw [w3] at hlen ⊢
      have so : SmallP (wrOut a b) := fun x hx => (wrOut_mem hx).elim (hsa x) (hsb x)
      rw [p_implNeeded _ (by omega) so.big (K + 9) (by omega), p_implNeeded _ (by omega) hsa.big (K + 9) (by omega), p_implNeeded _ (by omega) hsb.big (K + 9) (by omega)]
      simp only [Option.bind_some]
      have l1 := neededOf_len (wrOut a b)
      have l2 := neededOf_len a
      have l3 := neededOf_len b
      have hc := need_count a b
      have c1 : (neededOf (wrOut a b)).length = (neededOf a).length + (neededOf b).length := by
        unfold neededOf
        rw [if_pos w2, if_pos va, if_pos hv, List.length_map, List.length_map, List.length_map, hc]
      rw [wrap_in (by omega) (by omega), c1]
      simp
end Go.Proofs.Ytlpmggokgcphiaa.Pure
