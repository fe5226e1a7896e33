-- written by px.py and merge.py (programs of this claim's), over the kit's print. Not trusted: Lean checks it.
import Derived.Test.YtlpmggokgcphiaaLMore
import Derived.Test.YtlpmggokgcphiaaM0FnTakesName
import Derived.Test.YtlpmggokgcphiaaM3FnTakesName
import Derived.Test.YtlpmggokgcphiaaM7FnTakesName
import Derived.Test.YtlpmggokgcphiaaM4FnTakesName
import Derived.Test.YtlpmggokgcphiaaM8FnTakesName
import Derived.Test.YtlpmggokgcphiaaM6FnTakesName
import Derived.Test.YtlpmggokgcphiaaM5FnTakesName
import Derived.Test.YtlpmggokgcphiaaM1FnTakesName
namespace Go.Proofs.Ytlpmggokgcphiaa.Pure
open Go.RowKit Go.Proofs.Ytlpmggokgcphiaa.Q Go.Proofs.YtlpmggokgcphiaaL.PrintWords Go.Proofs.YtlpmggokgcphiaaL.PrintLast Go.Proofs.YtlpmggokgcphiaaL.PrintMore
set_option linter.unusedVariables false
set_option linter.unusedSimpArgs false

/-- A number of a call. -/
def val (v : Int) : Bool := decide (-99 ≤ v) && decide (v ≤ 99)
theorem p_inRange (a lo hi : Int) : spec_inRange.f a lo hi = some (decide (lo ≤ a) && decide (a ≤ hi)) := by
  unfold spec_inRange.f
  split <;> simp [*]
theorem p_in (a lo hi : Int) : impl_in.f a lo hi = some (decide (lo ≤ a) && decide (a ≤ hi)) := by
  unfold impl_in.f
  split
  · have : lo ≤ a := by omega
    simp [this]
  · have : ¬ lo ≤ a := by omega
    simp [this]
theorem p_isValue (v : Int) : impl_isValue.f v = some (val v) := by
  unfold impl_isValue.f val
  simp [p_in]
theorem p_validNumber (v : Int) : spec_validNumber.f v = some (val v) := by
  unfold spec_validNumber.f val
  simp [p_inRange]
theorem bt_eq (s t : ByteArray) : (s.toList == t.toList) = (s.data.toList == t.data.toList) := by
  rw [ByteArray.toList_eq, ByteArray.toList_eq]
theorem bt_eqv (s t : ByteArray) : s.toList = t.toList ↔ s = t := by
  rw [ByteArray.toList_eq, ByteArray.toList_eq]
  constructor
  · intro h
    cases s; cases t
    simp only at h
    exact congrArg _ (Array.toList_inj.1 h)
  · rintro rfl; rfl
/-- A loop that ends with false at the first place that is not good. -/
theorem loop_all (F : Nat → Int → Option Bool) (P : Nat → Bool) (T : Bool) (n B : Nat) (hn : n ≤ 9223372036854775807)
    (hstep : ∀ k i, B ≤ k → i < n → F (k + 1) (i : Int) = if P i = true then F k (wrap64 ((i : Int) + 1)) else some false) (hend : ∀ k, B ≤ k → F (k + 1) (n : Int) = some T) :
    ∀ d k i, i + d = n → B + d < k → F k (i : Int) = some ((List.range' i d).all P && T) := by
  intro d
  induction d with
  | zero =>
    intro k i h hk
    obtain ⟨k, rfl⟩ : ∃ m, k = m + 1 := ⟨k - 1, by omega⟩
    obtain rfl : i = n := by omega
    rw [hend k (by omega)]
    simp
  | succ d ih =>
    intro k i h hk
    obtain ⟨k, rfl⟩ : ∃ m, k = m + 1 := ⟨k - 1, by omega⟩
    rw [hstep k i (by omega) (by omega), wrap_succ (n := n) (by omega) hn, ih k (i + 1) (by omega) (by omega), List.range'_succ, List.all_cons]
    cases P i <;> simp
theorem loop_all0 (F : Nat → Int → Option Bool) (P : Nat → Bool) (T : Bool) (n B k : Nat) (hn : n ≤ 9223372036854775807)
    (hstep : ∀ k i, B ≤ k → i < n → F (k + 1) (i : Int) = if P i = true then F k (wrap64 ((i : Int) + 1)) else some false) (hend : ∀ k, B ≤ k → F (k + 1) (n : Int) = some T)
    (hk : B + n < k) : F k 0 = some ((List.range n).all P && T) := by
  have := loop_all F P T n B hn hstep hend n k 0 (by omega) hk
  rw [List.range_eq_range']
  exact this
theorem name_loop (s : ByteArray) : ((List.range s.size).all fun i => decide (97 ≤ bt s (i : Int)) && decide (bt s (i : Int) ≤ 122)) = s.data.toList.all (fun c => decide (97 ≤ c.toNat) && decide (c.toNat ≤ 122)) := by
  rw [Bool.eq_iff_iff, List.all_eq_true, List.all_eq_true]
  constructor
  · intro h c hc
    obtain ⟨i, hi, rfl⟩ := List.mem_iff_getElem.1 hc
    have hi' : i < s.size := by simpa using hi
    have := h i (List.mem_range.2 hi')
    rw [bt_nat s i hi'] at this
    simp only [Bool.and_eq_true, decide_eq_true_eq] at this ⊢
    have e : s.data.toList[i] = s[i] := rfl
    rw [e]
    omega
  · intro h i hi
    have hi' := List.mem_range.1 hi
    have := h s[i] (by
      have : s[i] = s.data.toList[i]'(by simpa using hi') := rfl
      rw [this]; exact List.getElem_mem _)
    rw [bt_nat s i hi']
    simp only [Bool.and_eq_true, decide_eq_true_eq] at this ⊢
    omega
theorem name_size (s : ByteArray) : (decide ((1 : Int) ≤ (s.size : Int)) && decide ((s.size : Int) ≤ 6)) = (decide (1 ≤ s.size) && decide (s.size ≤ 6)) := by
  rw [Bool.eq_iff_iff]
  simp only [Bool.and_eq_true, decide_eq_true_eq]
  omega
theorem p_validName (s : ByteArray) (hs : s.size ≤ 9223372036854775807) (k : Nat) (hk : s.size < k) : spec_validName.f k s = some (pxName s) := by
  unfold spec_validName.f pxName
  rw [← name_loop]
  refine loop_all0 (fun k i => spec_validName.l0 k s i) _ _ s.size 0 k hs (fun k i _ hi => ?_) (fun k _ => ?_) (by omega)
  · simp only [spec_validName.l0]
    rw [if_pos (by omega), if_pos (by omega)]
    by_cases h1 : bt s (i : Int) < 97
    · have : ¬ 97 ≤ bt s (i : Int) := by omega
      simp [h1, this]
    · have h1' : 97 ≤ bt s (i : Int) := by omega
      by_cases h2 : bt s (i : Int) > 122
      · have : ¬ bt s (i : Int) ≤ 122 := by omega
        simp [h1, h2, this]
      · have : bt s (i : Int) ≤ 122 := by omega
        simp [h1, h2, this, h1']
  · simp only [spec_validName.l0]
    rw [if_neg (by omega), p_inRange, Option.bind_some, name_size]
theorem p_isName (s : ByteArray) (hs : s.size ≤ 9223372036854775807) (k : Nat) (hk : s.size < k) : impl_isName.f k s = some (pxName s) := by
  unfold impl_isName.f pxName
  rw [← name_loop]
  refine loop_all0 (fun k i => impl_isName.l0 k s i) _ _ s.size 0 k hs (fun k i _ hi => ?_) (fun k _ => ?_) (by omega)
  · simp only [impl_isName.l0]
    rw [if_pos (by omega), if_pos (by omega)]
    by_cases h1 : bt s (i : Int) < 97
    · have : ¬ 97 ≤ bt s (i : Int) := by omega
      simp [h1, this]
    · have h1' : 97 ≤ bt s (i : Int) := by omega
      by_cases h2 : bt s (i : Int) > 122
      · have : ¬ bt s (i : Int) ≤ 122 := by omega
        simp [h1, h2, this]
      · have : bt s (i : Int) ≤ 122 := by omega
        simp [h1, h2, this, h1']
  · simp only [impl_isName.l0]
    rw [if_neg (by omega), p_in, Option.bind_some, name_size]

theorem wrap_in {n : Int} (h1 : -9223372036854775808 ≤ n) (h2 : n ≤ 9223372036854775807) : wrap64 n = n := by
  unfold wrap64
  omega
end Go.Proofs.Ytlpmggokgcphiaa.Pure

namespace Go.Proofs.Ytlpmggokgcphiaa.Pure
open Go.RowKit Go.Proofs.Ytlpmggokgcphiaa.Q Go.Proofs.YtlpmggokgcphiaaL.PrintWords Go.Proofs.YtlpmggokgcphiaaL.PrintLast Go.Proofs.YtlpmggokgcphiaaL.PrintMore
set_option linter.unusedVariables false
set_option linter.unusedSimpArgs false
/-! ### what is drawn -/
/-- A reader's row. -/
structure Rdr (l : List Int) : Prop where
  len : l.length ≤ 2000
  byte : ∀ x ∈ l, 0 ≤ x ∧ x ≤ 255
theorem Rdr.rd {l : List Int} (h : Rdr l) (i : Int) : 0 ≤ rd l i ∧ rd l i ≤ 255 := by
  unfold Go.Proofs.YtlpmggokgcphiaaL.PrintWords.rd
  rw [List.getD_eq_getElem?_getD]
  rcases hq : l[i.toNat]? with _ | x
  · simp
  · exact h.byte x (List.mem_of_getElem? hq)
theorem xor_nonneg {a b : Int} (ha : 0 ≤ a) (ha' : a < 1099511627776) (hb : 0 ≤ b) (hb' : b < 1099511627776) : 0 ≤ Go.bits .xor .i64 a b := by
  obtain ⟨a, rfl⟩ := Int.eq_ofNat_of_zero_le ha
  obtain ⟨b, rfl⟩ := Int.eq_ofNat_of_zero_le hb
  have h1 : a < 2 ^ 40 := by omega
  have h2 : b < 2 ^ 40 := by omega
  have h3 := Nat.xor_lt_two_pow h1 h2
  have e1 : a % 2 ^ IntKind.i64.bits = a := Nat.mod_eq_of_lt (by simp only [IntKind.bits]; omega)
  have e2 : b % 2 ^ IntKind.i64.bits = b := Nat.mod_eq_of_lt (by simp only [IntKind.bits]; omega)
  simp only [Go.bits, BitVec.ofInt_natCast, BitVec.toNat_xor, BitVec.toNat_ofNat, e1, e2]
  rw [IntKind.wrap_i64]
  omega
theorem tmod_in {a n : Int} (ha : 0 ≤ a) (hn : 0 < n) : 0 ≤ Int.tmod a n ∧ Int.tmod a n < n := ⟨Int.tmod_nonneg _ ha, Int.tmod_lt_of_pos _ hn⟩
theorem p_pick {l : List Int} (h : Rdr l) (k : Nat) (hk : 1 ≤ k) {p n : Int} (hp : 0 ≤ p) (hp' : p ≤ 1000000) (hn : 1 ≤ n) : ∃ v, spec_reader_pick.f k l p n = some (v, p + 1) ∧ 0 ≤ v ∧ v < n := by
  obtain ⟨k, rfl⟩ : ∃ m, k = m + 1 := ⟨k - 1, by omega⟩
  have w1 : wrap64 (p + 1) = p + 1 := wrap_in (by omega) (by omega)
  have w2 : wrap64 (p + 1 - 1) = p := by rw [wrap_in (by omega) (by omega)]; omega
  unfold spec_reader_pick.f
  rw [if_neg (by omega)]
  simp only [spec_reader_pick.j0]
  rw [w1]
  by_cases h0 : l.length = 0
  · rw [if_pos (by simp [h0])]
    exact ⟨0, rfl, by omega, by omega⟩
  · have hL : 0 < (l.length : Int) := by omega
    have hlen := h.len
    rw [if_neg (by simpa using h0)]
    simp only [w2]
    by_cases h1 : p < (l.length : Int)
    · rw [if_pos h1, if_pos hp, if_neg (by omega)]
      have hr := h.rd p
      rw [wrap_in (n := rd l p) (by omega) (by omega)]
      have := tmod_in hr.1 (show 0 < n by omega)
      exact ⟨_, rfl, this.1, this.2⟩
    · have t1 := tmod_in hp hL
      have e1 : wrap64 (p * 7) = p * 7 := wrap_in (by omega) (by omega)
      have e2 : wrap64 (p * 7 + 3) = p * 7 + 3 := wrap_in (by omega) (by omega)
      rw [e1, e2]
      have t2 := tmod_in (show 0 ≤ p * 7 + 3 by omega) hL
      rw [if_neg h1, if_neg (by omega), if_pos t1.1, if_pos t1.2, if_pos t2.1, if_pos t2.2, if_neg (by omega)]
      have r1 := h.rd (Int.tmod p (l.length : Int))
      have r2 := h.rd (Int.tmod (p * 7 + 3) (l.length : Int))
      generalize rd l (Int.tmod p (l.length : Int)) = x at r1 ⊢
      generalize rd l (Int.tmod (p * 7 + 3) (l.length : Int)) = y at r2 ⊢
      have d1 : 0 ≤ Int.tdiv p (l.length : Int) := Int.tdiv_nonneg hp (by omega)
      have d2 : Int.tdiv p (l.length : Int) ≤ p := Int.tdiv_le_self _ hp
      generalize Int.tdiv p (l.length : Int) = z at d1 d2 ⊢
      rw [wrap_in (n := x) (by omega) (by omega), wrap_in (n := y) (by omega) (by omega), wrap_in (n := z) (by omega) (by omega), wrap_in (n := x * 131) (by omega) (by omega), wrap_in (n := y * 1117) (by omega) (by omega), wrap_in (n := p * 29) (by omega) (by omega), wrap_in (n := z * 53) (by omega) (by omega), wrap_in (n := x * 131 + y * 1117) (by omega) (by omega), wrap_in (n := x * 131 + y * 1117 + p * 29) (by omega) (by omega), wrap_in (n := x * 131 + y * 1117 + p * 29 + z * 53) (by omega) (by omega)]
      have a0 : 0 ≤ x * 131 + y * 1117 + p * 29 + z * 53 := by omega
      have a1 : x * 131 + y * 1117 + p * 29 + z * 53 < 1099511627776 := by omega
      generalize x * 131 + y * 1117 + p * 29 + z * 53 = u at a0 a1 ⊢
      have b0 : 0 ≤ Int.tdiv u 64 := Int.tdiv_nonneg a0 (by omega)
      have b1 : Int.tdiv u 64 ≤ u := Int.tdiv_le_self _ a0
      rw [wrap_in (n := Int.tdiv u 64) (by omega) (by omega)]
      have := tmod_in (xor_nonneg a0 a1 b0 (by omega)) (show 0 < n by omega)
      exact ⟨_, rfl, this.1, this.2⟩
theorem rd_mem {l : List Int} {i : Int} (h0 : 0 ≤ i) (h1 : i < (l.length : Int)) : rd l i ∈ l := by
  unfold Go.Proofs.YtlpmggokgcphiaaL.PrintWords.rd
  rw [List.getD_eq_getElem?_getD, List.getElem?_eq_getElem (by omega)]
  exact List.getElem_mem _
theorem p_one {l : List Int} (h : Rdr l) (k : Nat) (hk : 1 ≤ k) {p : Int} (hp : 0 ≤ p) (hp' : p ≤ 1000000) (xs : List Int) (hx : 1 ≤ xs.length) : ∃ v, spec_reader_one.f k l p xs = some (v, p + 1) ∧ v ∈ xs := by
  unfold spec_reader_one.f
  obtain ⟨v, e, h0, h1⟩ := p_pick h k hk hp hp' (n := (xs.length : Int)) (by omega)
  rw [e, Option.bind_some]
  dsimp only
  rw [if_pos h0, if_pos h1]
  exact ⟨_, rfl, rd_mem h0 h1⟩
theorem p_of {l : List Int} (h : Rdr l) (k : Nat) (hk : 1 ≤ k) {p : Int} (hp : 0 ≤ p) (hp' : p ≤ 1000000) (xs : List ByteArray) (hx : 1 ≤ xs.length) : ∃ v, spec_reader_of.f k l p xs = some (v, p + 1) ∧ v ∈ xs := by
  unfold spec_reader_of.f
  obtain ⟨v, e, h0, h1⟩ := p_pick h k hk hp hp' (n := (xs.length : Int)) (by omega)
  rw [e, Option.bind_some]
  dsimp only
  rw [if_pos h0, if_pos h1]
  refine ⟨_, rfl, ?_⟩
  unfold rdOf
  rw [List.getD_eq_getElem?_getD, List.getElem?_eq_getElem (by omega)]
  exact List.getElem_mem _
theorem p_newReader (l : List Int) (hb : ∀ x ∈ l, (Lit.int .u8 x).wf = true) : ∃ m, spec_newReader.f l = some (m, 0) ∧ Rdr m := by
  have hb' : ∀ x ∈ l, 0 ≤ x ∧ x ≤ 255 := by
    intro x hx
    have := hb x hx
    simp [Lit.wf, IntKind.min, IntKind.max, IntKind.signed, IntKind.bits] at this
    omega
  unfold spec_newReader.f
  by_cases h : (l.length : Int) > 2000
  · rw [if_pos h, if_pos (by omega)]
    exact ⟨_, rfl, by rw [List.length_take]; omega, fun x hx => hb' x (List.mem_of_mem_take hx)⟩
  · rw [if_neg h]
    exact ⟨_, rfl, by omega, hb'⟩
end Go.Proofs.Ytlpmggokgcphiaa.Pure

namespace Go.Proofs.Ytlpmggokgcphiaa.Pure
open Go.RowKit Go.Proofs.Ytlpmggokgcphiaa.Q Go.Proofs.YtlpmggokgcphiaaL.PrintWords Go.Proofs.YtlpmggokgcphiaaL.PrintLast Go.Proofs.YtlpmggokgcphiaaL.PrintMore
set_option linter.unusedVariables false
set_option linter.unusedSimpArgs false
theorem p_aNumber {l : List Int} (h : Rdr l) (k : Nat) (hk : 1 ≤ k) {p : Int} (hp : 0 ≤ p) (hp' : p ≤ 1000000) : ∃ v, spec_aNumber.f k l p = some (v, p + 1) ∧ val v = true := by
  unfold spec_aNumber.f
  obtain ⟨v, e, hv⟩ := p_one h k hk hp hp' ([1, 2, 3, 0, 5, (-1), 7, 99, (-99)]) (by decide)
  rw [e, Option.bind_some]
  refine ⟨v, rfl, ?_⟩
  simp only [List.mem_cons, List.not_mem_nil, or_false] at hv
  rcases hv with rfl | rfl | rfl | rfl | rfl | rfl | rfl | rfl | rfl <;> rfl
end Go.Proofs.Ytlpmggokgcphiaa.Pure

namespace Go.Proofs.Ytlpmggokgcphiaa.Pure
open Go.RowKit Go.Proofs.Ytlpmggokgcphiaa.Q Go.Proofs.YtlpmggokgcphiaaL.PrintWords Go.Proofs.YtlpmggokgcphiaaL.PrintLast Go.Proofs.YtlpmggokgcphiaaL.PrintMore
set_option linter.unusedVariables false
set_option linter.unusedSimpArgs false
theorem p_anyNumber {l : List Int} (h : Rdr l) (k : Nat) (hk : 1 ≤ k) {p : Int} (hp : 0 ≤ p) (hp' : p ≤ 999999) : ∃ v, spec_anyNumber.f k l p = some (v, p + 2) ∧ -100 ≤ v ∧ v ≤ 100 := by
  unfold spec_anyNumber.f
  obtain ⟨v, e, _, _⟩ := p_pick h k hk hp (by omega) (n := 16) (by omega)
  have e2 : p + 1 + 1 = p + 2 := by omega
  rw [e, Option.bind_some]
  dsimp only
  split
  · obtain ⟨v, e, hv⟩ := p_one h k hk (p := p + 1) (by omega) (by omega) ([100, (-100)]) (by decide)
    rw [e, Option.bind_some, e2]
    refine ⟨v, rfl, ?_⟩
    simp only [List.mem_cons, List.not_mem_nil, or_false] at hv
    omega
  · obtain ⟨v, e, hv⟩ := p_aNumber h k hk (p := p + 1) (by omega) (by omega)
    rw [e, Option.bind_some, e2]
    refine ⟨v, rfl, ?_⟩
    unfold val at hv
    simp at hv
    omega
end Go.Proofs.Ytlpmggokgcphiaa.Pure

namespace Go.Proofs.Ytlpmggokgcphiaa.Pure
open Go.RowKit Go.Proofs.Ytlpmggokgcphiaa.Q Go.Proofs.YtlpmggokgcphiaaL.PrintWords Go.Proofs.YtlpmggokgcphiaaL.PrintLast Go.Proofs.YtlpmggokgcphiaaL.PrintMore
set_option linter.unusedVariables false
set_option linter.unusedSimpArgs false
theorem range_all {α : Type} (l : List α) (d : α) (p : α → Bool) : ((List.range l.length).all fun i => p (l.getD i d)) = l.all p := by
  rw [Bool.eq_iff_iff, List.all_eq_true, List.all_eq_true]
  constructor
  · intro h x hx
    obtain ⟨i, hi, rfl⟩ := List.mem_iff_getElem.1 hx
    have := h i (List.mem_range.2 hi)
    rwa [List.getD_eq_getElem?_getD, List.getElem?_eq_getElem hi] at this
  · intro h i hi
    have hi' := List.mem_range.1 hi
    rw [List.getD_eq_getElem?_getD, List.getElem?_eq_getElem hi']
    exact h _ (List.getElem_mem _)
theorem getD_mem {α : Type} (l : List α) (d : α) (i : Nat) (h : i < l.length) : l.getD i d ∈ l := by
  rw [List.getD_eq_getElem?_getD, List.getElem?_eq_getElem h]
  exact List.getElem_mem _
theorem rd_nat (l : List Int) (i : Nat) : rd l (i : Int) = l.getD i 0 := by
  unfold Go.Proofs.YtlpmggokgcphiaaL.PrintWords.rd
  rw [Int.toNat_natCast]
theorem rdOf_nat {α : Type} (d : α) (l : List α) (i : Nat) : rdOf d l (i : Int) = l.getD i d := by
  unfold rdOf
  rw [Int.toNat_natCast]
/-- A loop that looks for the first one. -/
theorem loop_find {α : Type} (F : Nat → Int → Option Int) (l : List α) (d : α) (p : α → Bool) (B : Nat) (hn : l.length ≤ 9223372036854775807)
    (hstep : ∀ k i, B ≤ k → i < l.length → F (k + 1) (i : Int) = if p (l.getD i d) = true then some (i : Int) else F k (wrap64 ((i : Int) + 1))) (hend : ∀ k, B ≤ k → F (k + 1) (l.length : Int) = some (-1)) :
    ∀ e k i, i + e = l.length → B + e < k → (∀ j, j < i → p (l.getD j d) = false) → F k (i : Int) = some (pxIdx p l) := by
  intro e
  induction e with
  | zero =>
    intro k i h hk hm
    obtain ⟨k, rfl⟩ : ∃ m, k = m + 1 := ⟨k - 1, by omega⟩
    obtain rfl : i = l.length := by omega
    rw [hend k (by omega), pxIdx_miss p l d hm]
  | succ e ih =>
    intro k i h hk hm
    obtain ⟨k, rfl⟩ : ∃ m, k = m + 1 := ⟨k - 1, by omega⟩
    rw [hstep k i (by omega) (by omega)]
    cases hq : p (l.getD i d) with
    | true => rw [if_pos rfl, pxIdx_hit p l d i (by omega) hq hm]
    | false =>
      rw [if_neg (by simp), wrap_succ (n := l.length) (by omega) hn]
      refine ih k (i + 1) (by omega) (by omega) (fun j hj => ?_)
      by_cases e : j = i
      · rw [e]; exact hq
      · exact hm j (by omega)
theorem loop_find0 {α : Type} (F : Nat → Int → Option Int) (l : List α) (d : α) (p : α → Bool) (B k : Nat) (hn : l.length ≤ 9223372036854775807)
    (hstep : ∀ k i, B ≤ k → i < l.length → F (k + 1) (i : Int) = if p (l.getD i d) = true then some (i : Int) else F k (wrap64 ((i : Int) + 1))) (hend : ∀ k, B ≤ k → F (k + 1) (l.length : Int) = some (-1))
    (hk : B + l.length < k) : F k 0 = some (pxIdx p l) :=
  loop_find F l d p B hn hstep hend l.length k 0 (by omega) hk (fun j hj => absurd hj (Nat.not_lt_zero _))
theorem pxIdx_range {α : Type} (p : α → Bool) (l : List α) : pxIdx p l = -1 ∨ ∃ i : Nat, i < l.length ∧ pxIdx p l = (i : Int) := by
  unfold pxIdx
  cases h : l.findIdx? p with
  | none => exact .inl rfl
  | some i =>
    rw [List.findIdx?_eq_some_iff_getElem] at h
    exact .inr ⟨i, h.1, rfl⟩
end Go.Proofs.Ytlpmggokgcphiaa.Pure

namespace Go.Proofs.Ytlpmggokgcphiaa.Pure
open Go.RowKit Go.Proofs.Ytlpmggokgcphiaa.Q Go.Proofs.YtlpmggokgcphiaaL.PrintWords Go.Proofs.YtlpmggokgcphiaaL.PrintLast Go.Proofs.YtlpmggokgcphiaaL.PrintMore
set_option linter.unusedVariables false
set_option linter.unusedSimpArgs false
/-- A loop that goes on to something else behind its end. -/
theorem loop_then {β : Type} (F : Nat → Int → Option β) (P : Nat → Bool) (G : Nat → Option β) (no : Option β) (n : Nat) (hn : n ≤ 9223372036854775807)
    (hstep : ∀ k i, i < n → F (k + 1) (i : Int) = if P i = true then F k (wrap64 ((i : Int) + 1)) else no) (hend : ∀ k, F (k + 1) (n : Int) = G k) :
    ∀ d k i, i + d = n → d < k → F k (i : Int) = if (List.range' i d).all P = true then G (k - 1 - d) else no := by
  intro d
  induction d with
  | zero =>
    intro k i h hk
    obtain ⟨k, rfl⟩ : ∃ m, k = m + 1 := ⟨k - 1, by omega⟩
    obtain rfl : i = n := by omega
    rw [hend k]
    simp
  | succ d ih =>
    intro k i h hk
    obtain ⟨k, rfl⟩ : ∃ m, k = m + 1 := ⟨k - 1, by omega⟩
    rw [hstep k i (by omega), wrap_succ (n := n) (by omega) hn, ih k (i + 1) (by omega) (by omega), List.range'_succ, List.all_cons]
    have e : k + 1 - 1 - (d + 1) = k - 1 - d := by omega
    rw [e]
    cases P i <;> simp only [Bool.true_and, Bool.false_and, if_true, Bool.false_eq_true, if_false]
theorem loop_then0 {β : Type} (F : Nat → Int → Option β) (P : Nat → Bool) (G : Nat → Option β) (no : Option β) (n k : Nat) (hn : n ≤ 9223372036854775807)
    (hstep : ∀ k i, i < n → F (k + 1) (i : Int) = if P i = true then F k (wrap64 ((i : Int) + 1)) else no) (hend : ∀ k, F (k + 1) (n : Int) = G k) (hk : n < k) :
    F k 0 = if (List.range n).all P = true then G (k - 1 - n) else no := by
  have := loop_then F P G no n hn hstep hend n k 0 (by omega) hk
  rw [List.range_eq_range']
  exact this
/-- A loop whose rounds take up to C steps. -/
theorem loop_wide (F : Nat → Int → Option Bool) (P : Nat → Bool) (T : Bool) (n B C : Nat) (hn : n ≤ 9223372036854775807)
    (hstep : ∀ k i, B + C ≤ k → i < n → (P i = true → ∃ k', k ≤ k' + C ∧ F k (i : Int) = F k' (wrap64 ((i : Int) + 1))) ∧ (P i = false → F k (i : Int) = some false)) (hend : ∀ k, B ≤ k → F k (n : Int) = some T) :
    ∀ d k i, i + d = n → B + d * C ≤ k → F k (i : Int) = some ((List.range' i d).all P && T) := by
  intro d
  induction d with
  | zero =>
    intro k i h hk
    obtain rfl : i = n := by omega
    rw [hend k (by omega)]
    simp
  | succ d ih =>
    intro k i h hk
    rw [Nat.succ_mul] at hk
    rw [List.range'_succ, List.all_cons]
    obtain ⟨h1, h2⟩ := hstep k i (by omega) (by omega)
    cases hq : P i with
    | true =>
      obtain ⟨k', hk', e⟩ := h1 hq
      rw [e, wrap_succ (n := n) (by omega) hn, ih k' (i + 1) (by omega) (by omega)]
      simp
    | false => rw [h2 hq]; simp
theorem loop_wide0 (F : Nat → Int → Option Bool) (P : Nat → Bool) (T : Bool) (n B C k : Nat) (hn : n ≤ 9223372036854775807)
    (hstep : ∀ k i, B + C ≤ k → i < n → (P i = true → ∃ k', k ≤ k' + C ∧ F k (i : Int) = F k' (wrap64 ((i : Int) + 1))) ∧ (P i = false → F k (i : Int) = some false)) (hend : ∀ k, B ≤ k → F k (n : Int) = some T)
    (hk : B + n * C ≤ k) : F k 0 = some ((List.range n).all P && T) := by
  have := loop_wide F P T n B C hn hstep hend n k 0 (by omega) hk
  rw [List.range_eq_range']
  exact this
end Go.Proofs.Ytlpmggokgcphiaa.Pure

namespace Go.Proofs.Ytlpmggokgcphiaa.Pure
open Go.RowKit Go.Proofs.Ytlpmggokgcphiaa.Q Go.Proofs.YtlpmggokgcphiaaL.PrintWords Go.Proofs.YtlpmggokgcphiaaL.PrintLast Go.Proofs.YtlpmggokgcphiaaL.PrintMore
set_option linter.unusedVariables false
set_option linter.unusedSimpArgs false
abbrev PA := S33
abbrev paz : PA := z33
theorem rdpa (l : List PA) (i : Nat) : rd_T33 l (i : Int) = l.getD i paz := by
  unfold rd_T33
  rw [Int.toNat_natCast]
def placed (x : PA) : Bool := x.f1 == 0 || x.f1 == 1
def named (x : PA) : Bool := x.f1 == 1 || x.f1 == 3
def single (x : PA) : Bool := placed x || x.f1 == 3
def paramOk (x : PA) : Bool := pxName x.f0 && ((decide (0 ≤ x.f1) && decide (x.f1 ≤ 4)) && (val x.f3 && ((x.f2 || x.f3 == 0) && (!x.f2 || single x))))
def ordOk (a x : PA) : Bool := !decide (x.f1 < a.f1) && ((!(x.f1 == a.f1) || single x) && (!placed x || !a.f2 || x.f2))
def freshPa (l : List PA) (i : Nat) : Bool := !((l.take i).any fun x => x.f0.toList == (l.getD i paz).f0.toList)
def sigAt (l : List PA) (i : Nat) : Bool := paramOk (l.getD i paz) && (freshPa l i && (i == 0 || ordOk (l.getD (i - 1) paz) (l.getD i paz)))
def vsig (l : List PA) : Bool := (List.range l.length).all (sigAt l) && decide (l.length ≤ 8)
theorem p_byPlace (a : ByteArray) (b : Int) (c : Bool) (d : Int) : spec_byPlace.f a b c d = some (placed ⟨a, b, c, d⟩) := by
  unfold spec_byPlace.f placed
  split <;> simp_all
theorem p_byName (a : ByteArray) (b : Int) (c : Bool) (d : Int) : spec_byName.f a b c d = some (named ⟨a, b, c, d⟩) := by
  unfold spec_byName.f named
  split <;> simp_all
theorem p_isSingle (a : ByteArray) (b : Int) (c : Bool) (d : Int) : spec_isSingle.f a b c d = some (single ⟨a, b, c, d⟩) := by
  unfold spec_isSingle.f
  rw [p_byPlace, Option.bind_some, p_byName, Option.bind_some]
  unfold single placed named
  by_cases h0 : b = 0
  · simp [h0]
  · by_cases h1 : b = 1
    · simp [h1]
    · have e0 : (b == 0) = false := by simpa using h0
      have e1 : (b == 1) = false := by simpa using h1
      simp [e0, e1]
theorem p_placed (a : ByteArray) (b : Int) (c : Bool) (d : Int) : impl_Param_placed.f a b c d = some (placed ⟨a, b, c, d⟩) := by
  unfold impl_Param_placed.f placed
  split <;> simp_all
theorem p_single (a : ByteArray) (b : Int) (c : Bool) (d : Int) : impl_Param_single.f a b c d = some (single ⟨a, b, c, d⟩) := by
  unfold impl_Param_single.f
  rw [p_placed, Option.bind_some]
  unfold single
  cases placed ⟨a, b, c, d⟩ <;> simp
theorem p_validParam (a : ByteArray) (b : Int) (c : Bool) (d : Int) (hs : a.size ≤ 2000000) (k : Nat) (hk : 3000000 ≤ k) : spec_validParam.f k a b c d = some (paramOk ⟨a, b, c, d⟩) := by
  unfold spec_validParam.f paramOk
  rw [p_validName a (by omega) k (by omega), Option.bind_some, p_inRange, Option.bind_some, p_validNumber, Option.bind_some, p_isSingle]
  cases pxName a <;> cases (decide (0 ≤ b) && decide (b ≤ 4)) <;> cases val d <;> cases c <;> cases single ⟨a, b, _, d⟩ <;> by_cases h : d = 0 <;> simp_all
theorem p_specFind (l : List PA) (s : ByteArray) (hl : l.length ≤ 2000000) (k : Nat) (hk : 3000000 ≤ k) : spec_findParam.f k l s = some (pxIdx (fun x : PA => x.f0.toList == s.toList) l) := by
  unfold spec_findParam.f
  refine loop_find0 (fun k i => spec_findParam.l0 k l s i) l paz _ 0 k (by omega) (fun k i _ hi => ?_) (fun k _ => ?_) (by omega)
  · simp only [spec_findParam.l0]
    rw [if_pos (by omega), if_pos (by omega), rdpa]
    simp only [beq_iff_eq]
  · simp only [spec_findParam.l0]
    rw [if_neg (by omega)]
theorem freshPa_idx (l : List PA) (i : Nat) : freshPa l i = !decide (pxIdx (fun x : PA => x.f0.toList == (l.getD i paz).f0.toList) (l.take i) ≥ 0) := by
  rw [pxIdx_any]; rfl
theorem prev_nat {i n : Nat} (h : 0 < i) (hn : i ≤ n) (hm : n ≤ 2000000) : wrap64 ((i : Int) - 1) = ((i - 1 : Nat) : Int) := by
  rw [wrap_in (by omega) (by omega)]; omega
theorem p_specSig (l : List PA) (hl : l.length ≤ 2000000) (hs : ∀ x ∈ l, x.f0.size ≤ 2000000) (k : Nat) (hk : 9000000 ≤ k) : spec_validParams.f k l = some (vsig l) := by
  unfold spec_validParams.f vsig
  refine loop_wide0 (fun k i => spec_validParams.l0 k l i) _ _ l.length 4000000 2 k (by omega) (fun k i hk hi => ?_) (fun k hk => ?_) (by omega)
  · obtain ⟨k, rfl⟩ : ∃ m, k = m + 2 := ⟨k - 2, by omega⟩
    have hsz := hs _ (getD_mem l paz i hi)
    simp only [spec_validParams.l0]
    rw [if_pos (by omega), if_pos (by omega), rdpa, p_validParam _ _ _ _ hsz (k + 1) (by omega), Option.bind_some, if_pos (show (i : Int) ≤ (l.length : Int) by omega), Int.toNat_natCast, p_specFind _ _ (by rw [List.length_take]; omega) (k + 1) (by omega), Option.bind_some]
    unfold sigAt
    rw [freshPa_idx]
    generalize pxIdx (fun x : PA => x.f0.toList == (l.getD i paz).f0.toList) (l.take i) = q
    have e : (⟨(l.getD i paz).f0, (l.getD i paz).f1, (l.getD i paz).f2, (l.getD i paz).f3⟩ : PA) = l.getD i paz := rfl
    rw [e]
    cases paramOk (l.getD i paz) with
    | false => simp [spec_validParams.j1]
    | true =>
      rw [if_pos rfl]
      simp only [spec_validParams.j1]
      by_cases hq : q ≥ 0
      · simp [hq]
      · simp only [hq, decide_false, Bool.false_eq_true, if_false]
        by_cases h0 : i = 0
        · subst h0
          simp
          exact ⟨k, by omega, rfl⟩
        · rw [if_neg (by omega), prev_nat (n := l.length) (by omega) (by omega) hl, if_pos (by omega), if_pos (by omega), rdpa, p_isSingle, Option.bind_some, p_byPlace, Option.bind_some, e]
          have hb : (i == 0) = false := by simpa using h0
          rw [hb]
          generalize l.getD (i - 1) paz = a
          generalize l.getD i paz = x
          unfold ordOk
          have key : k + 2 ≤ k + 2 := by omega
          by_cases h1 : x.f1 < a.f1
          · simp [h1]
          · by_cases h2 : x.f1 = a.f1
            · cases h3 : single x <;> cases h4 : placed x <;> cases h5 : a.f2 <;> cases h6 : x.f2 <;> simp [h1, h2, h3, h4, h5, h6] <;> exact ⟨k, by omega, rfl⟩
            · cases h4 : placed x <;> cases h5 : a.f2 <;> cases h6 : x.f2 <;> simp [h1, h2, h4, h5, h6] <;> exact ⟨k, by omega, rfl⟩
  · obtain ⟨k, rfl⟩ : ∃ m, k = m + 1 := ⟨k - 1, by omega⟩
    simp only [spec_validParams.l0]
    rw [if_neg (by omega)]
    congr 1
    rw [decide_eq_decide]
    omega
/-- Whether the last one placed had a default. -/
def lastP (l : List PA) : Bool := l.foldl (fun b x => if placed x then x.f2 else b) false
theorem lastP_succ (l : List PA) (i : Nat) (hi : i < l.length) : lastP (l.take (i + 1)) = if placed (l.getD i paz) then (l.getD i paz).f2 else lastP (l.take i) := by
  unfold lastP
  rw [List.take_succ_eq_append_getElem hi, List.foldl_append, List.getD_eq_getElem?_getD, List.getElem?_eq_getElem hi]
  rfl
theorem lastP_prev (l : List PA) (i : Nat) (h0 : 0 < i) (hi : i ≤ l.length) (hp : placed (l.getD (i - 1) paz) = true) : lastP (l.take i) = (l.getD (i - 1) paz).f2 := by
  obtain ⟨j, rfl⟩ : ∃ j, i = j + 1 := ⟨i - 1, by omega⟩
  rw [lastP_succ l j (by omega), Nat.add_sub_cancel] at *
  rw [if_pos hp]
theorem ordOk_lt {a x : PA} (h : x.f1 < a.f1) : ordOk a x = false := by
  unfold ordOk
  simp [h]
theorem ordOk_of {a x : PA} (hg : (!placed x || !a.f2 || x.f2) = true) : ordOk a x = (!decide (x.f1 < a.f1) && (!(x.f1 == a.f1) || single x)) := by
  unfold ordOk
  rw [hg, Bool.and_true]
theorem ord_lt {a x : PA} (h : x.f1 < a.f1) : (!decide (x.f1 < a.f1) && (!(x.f1 == a.f1) || single x)) = false := by simp [h]
theorem ord_eq {a x : PA} (h : x.f1 = a.f1) : (!decide (x.f1 < a.f1) && (!(x.f1 == a.f1) || single x)) = single x := by simp [h]
theorem ord_gt {a x : PA} (h : ¬ x.f1 < a.f1) (h2 : x.f1 ≠ a.f1) : (!decide (x.f1 < a.f1) && (!(x.f1 == a.f1) || single x)) = true := by simp [h, h2]
theorem p_implSig_l0 (l : List PA) (hl : l.length ≤ 2000000) (hs : ∀ x ∈ l, x.f0.size ≤ 2000000) : ∀ (d k i : Nat), i + d = l.length → (∀ j, j < i → sigAt l j = true) → 4000000 + 4 * d ≤ k →
    impl_ValidSignature.l0 k (lastP (l.take i)) l (l.length : Int) (i : Int) l = some ((List.range' i d).all (sigAt l) && decide (l.length ≤ 8)) := by
  intro d
  induction d with
  | zero =>
    intro k i h hok hk
    obtain ⟨k, rfl⟩ : ∃ m, k = m + 1 := ⟨k - 1, by omega⟩
    obtain rfl : i = l.length := by omega
    simp only [impl_ValidSignature.l0]
    rw [if_neg (by omega)]
    simp only [List.range'_zero, List.all_nil, Bool.true_and]
    congr 1
    rw [decide_eq_decide]
    omega
  | succ d ih =>
    intro k i h hok hk
    obtain ⟨k, rfl⟩ : ∃ m, k = m + 4 := ⟨k - 4, by omega⟩
    have hi : i < l.length := by omega
    have hsz := hs _ (getD_mem l paz i hi)
    have prevOk : 0 < i → sigAt l (i - 1) = true := fun h => hok (i - 1) (by omega)
    have lp := lastP_prev l i
    have ls := lastP_succ l i hi
    rw [List.range'_succ, List.all_cons]
    have next : sigAt l i = true → ∀ k', k ≤ k' → impl_ValidSignature.l0 k' (lastP (l.take (i + 1))) l (l.length : Int) (wrap64 ((i : Int) + 1)) l = some ((List.range' (i + 1) d).all (sigAt l) && decide (l.length ≤ 8)) := by
      intro hq k' hk'
      rw [wrap_succ (n := l.length) hi (by omega)]
      refine ih k' (i + 1) (by omega) (fun j hj => ?_) (by omega)
      by_cases e : j = i
      · rw [e]; exact hq
      · exact hok j (by omega)
    have e : (⟨(l.getD i paz).f0, (l.getD i paz).f1, (l.getD i paz).f2, (l.getD i paz).f3⟩ : PA) = l.getD i paz := rfl
    simp only [impl_ValidSignature.l0]
    rw [if_pos (by omega), if_pos (by omega), if_pos (by omega), rdpa, p_isName _ (by omega) (k + 3) (by omega), Option.bind_some, p_in, Option.bind_some, p_isValue, Option.bind_some, p_single, e, Option.bind_some]
    -- what stands behind the first test
    have J : ∀ b, b = !paramOk (l.getD i paz) → impl_ValidSignature.j1 (k + 3) (lastP (l.take i)) (i : Int) l (l.length : Int) (i : Int) b l (l.getD i paz).f0 (l.getD i paz).f1 (l.getD i paz).f2 (l.getD i paz).f3
        = some ((sigAt l i && (List.range' (i + 1) d).all (sigAt l)) && decide (l.length ≤ 8)) := by
      intro b hb
      subst hb
      simp only [impl_ValidSignature.j1]
      have hsig : sigAt l i = (paramOk (l.getD i paz) && (freshPa l i && (i == 0 || ordOk (l.getD (i - 1) paz) (l.getD i paz)))) := rfl
      cases hpo : paramOk (l.getD i paz) with
      | false =>
        rw [if_pos (show (!false) = true from rfl), hsig, hpo]
        simp
      | true =>
        rw [if_neg (by decide), p_placed, e, Option.bind_some]
        rw [hpo, Bool.true_and] at hsig
        rw [freshPa_idx] at hsig
        -- the end of a round
        have R : ∀ (x3 : Bool) (k' : Nat), k ≤ k' → x3 = lastP (l.take (i + 1)) → ((i == 0 || ordOk (l.getD (i - 1) paz) (l.getD i paz)) = true) →
            ((impl_find.f (l.take ((i : Int)).toNat) (l.getD i paz).f0).bind fun t => if t ≥ 0 then (some false) else (impl_ValidSignature.l0 k' x3 l (l.length : Int) (wrap64 ((i : Int) + 1)) l))
            = some ((sigAt l i && (List.range' (i + 1) d).all (sigAt l)) && decide (l.length ≤ 8)) := by
          intro x3 k' hk' hx hord
          unfold impl_find.f
          rw [Option.bind_some, Int.toNat_natCast]
          rw [hord] at hsig
          by_cases hq : pxIdx (fun x : PA => x.f0.toList == (l.getD i paz).f0.toList) (l.take i) ≥ 0
          · rw [if_pos hq, hsig]
            rw [decide_eq_true hq]
            simp
          · rw [if_neg hq]
            rw [decide_eq_false hq] at hsig
            have hs1 : sigAt l i = true := by rw [hsig]; rfl
            rw [hx, next hs1 k' hk', hs1]
            simp
        have N : (i == 0 || ordOk (l.getD (i - 1) paz) (l.getD i paz)) = false → some false = some ((sigAt l i && (List.range' (i + 1) d).all (sigAt l)) && decide (l.length ≤ 8)) := by
          intro hf
          rw [hsig, hf]
          simp
        -- the second test on, with the flag that is kept
        have J2 : ∀ x3 : Bool, x3 = lastP (l.take (i + 1)) → (placed (l.getD i paz) = true → lastP (l.take i) = true → (l.getD i paz).f2 = true) →
            impl_ValidSignature.j2 (k + 2) x3 (i : Int) l (l.length : Int) (i : Int) l (l.getD i paz).f0 (l.getD i paz).f1 (l.getD i paz).f2 (l.getD i paz).f3
            = some ((sigAt l i && (List.range' (i + 1) d).all (sigAt l)) && decide (l.length ≤ 8)) := by
          intro x3 hx hgood
          simp only [impl_ValidSignature.j2]
          by_cases h0 : i = 0
          · subst h0
            rw [if_neg (by omega), if_pos (by omega), if_pos (by omega)]
            exact R x3 (k + 1) (by omega) hx (by simp)
          · have hb : (i == 0) = false := by simpa using h0
            rw [if_pos (by omega), prev_nat (n := l.length) (by omega) (by omega) hl, if_pos (by omega), if_pos (by omega), rdpa, p_single, e, Option.bind_some]
            have pk := prevOk (by omega)
            have hprev : paramOk (l.getD (i - 1) paz) = true := by
              unfold sigAt at pk
              rw [Bool.and_eq_true] at pk
              exact pk.1
            have hrange : 0 ≤ (l.getD (i - 1) paz).f1 := by
              unfold paramOk at hprev
              simp only [Bool.and_eq_true, decide_eq_true_eq] at hprev
              exact hprev.2.1.1
            have lp' := lp (by omega) (by omega)
            have hord : ordOk (l.getD (i - 1) paz) (l.getD i paz) = (!decide ((l.getD i paz).f1 < (l.getD (i - 1) paz).f1) && (!((l.getD i paz).f1 == (l.getD (i - 1) paz).f1) || single (l.getD i paz))) := by
              by_cases hlt : (l.getD i paz).f1 < (l.getD (i - 1) paz).f1
              · rw [ordOk_lt hlt, ord_lt hlt]
              · have : (!placed (l.getD i paz) || !(l.getD (i - 1) paz).f2 || (l.getD i paz).f2) = true := by
                  cases hpl : placed (l.getD i paz) with
                  | false => rfl
                  | true =>
                    have hpp : placed (l.getD (i - 1) paz) = true := by
                      unfold placed at hpl ⊢
                      simp only [Bool.or_eq_true, beq_iff_eq] at hpl ⊢
                      omega
                    have := hgood hpl
                    rw [lp' hpp] at this
                    cases h5 : (l.getD (i - 1) paz).f2 with
                    | false => rfl
                    | true => rw [this h5]; rfl
                exact ordOk_of this
            rw [hb, Bool.false_or, hord] at N R
            by_cases h1 : (l.getD i paz).f1 < (l.getD (i - 1) paz).f1
            · rw [if_pos h1]
              simp only [impl_ValidSignature.j3, if_true]
              exact N (ord_lt h1)
            · rw [if_neg h1]
              by_cases h2 : (l.getD i paz).f1 = (l.getD (i - 1) paz).f1
              · rw [if_pos h2]
                simp only [impl_ValidSignature.j3]
                cases h3 : single (l.getD i paz) with
                | false =>
                  rw [if_pos (show (!false) = true from rfl)]
                  exact N (by rw [ord_eq h2, h3])
                | true =>
                  rw [if_neg (by decide), if_pos (by omega), if_pos (by omega)]
                  exact R x3 k (by omega) hx (by rw [ord_eq h2, h3])
              · rw [if_neg h2]
                simp only [impl_ValidSignature.j3]
                rw [if_neg (by decide), if_pos (by omega), if_pos (by omega)]
                exact R x3 k (by omega) hx (ord_gt h1 h2)
        cases hpl : placed (l.getD i paz) with
        | false =>
          rw [if_neg (by decide)]
          rw [hpl] at ls
          exact J2 _ (by rw [ls]; rfl) (by rw [hpl]; intro h; exact absurd h (by decide))
        | true =>
          rw [if_pos rfl]
          rw [hpl, if_pos rfl] at ls
          cases hx3 : lastP (l.take i) with
          | false =>
            rw [if_neg (by decide)]
            exact J2 _ ls.symm (by rw [hx3]; intro _ h; exact absurd h (by decide))
          | true =>
            rw [if_pos rfl]
            cases hf2 : (l.getD i paz).f2 with
            | false =>
              rw [if_neg (by decide)]
              refine N ?_
              -- the one before is placed, too, and has a default
              by_cases h0 : i = 0
              · subst h0
                exact absurd hx3 (by simp [lastP])
              · have hb : (i == 0) = false := by simpa using h0
                rw [hb, Bool.false_or]
                by_cases hlt : (l.getD i paz).f1 < (l.getD (i - 1) paz).f1
                · exact ordOk_lt hlt
                · have pk := prevOk (by omega)
                  have hprev : paramOk (l.getD (i - 1) paz) = true := by
                    unfold sigAt at pk
                    rw [Bool.and_eq_true] at pk
                    exact pk.1
                  have hrange : 0 ≤ (l.getD (i - 1) paz).f1 := by
                    unfold paramOk at hprev
                    simp only [Bool.and_eq_true, decide_eq_true_eq] at hprev
                    exact hprev.2.1.1
                  have hpp : placed (l.getD (i - 1) paz) = true := by
                    have hpl' := hpl
                    unfold placed at hpl' ⊢
                    simp only [Bool.or_eq_true, beq_iff_eq] at hpl' ⊢
                    omega
                  have lp' := lp (by omega) (by omega) hpp
                  rw [hx3] at lp'
                  unfold ordOk
                  rw [hpl, ← lp', hf2]
                  simp
            | true =>
              rw [if_pos rfl, ← hf2]
              exact J2 _ ls.symm (fun _ _ => hf2)
    unfold paramOk at J
    cases h1 : pxName (l.getD i paz).f0 with
    | false => rw [if_neg (by decide)]; exact J true (by rw [h1]; rfl)
    | true =>
      rw [if_pos rfl]
      cases h2 : (decide (0 ≤ (l.getD i paz).f1) && decide ((l.getD i paz).f1 ≤ 4)) with
      | false => rw [if_neg (by decide)]; exact J true (by rw [h1, h2]; rfl)
      | true =>
        rw [if_pos rfl]
        cases h3 : val (l.getD i paz).f3 with
        | false => rw [if_neg (by decide)]; exact J true (by rw [h1, h2, h3]; rfl)
        | true =>
          rw [if_pos rfl]
          by_cases h4 : (l.getD i paz).f2 = true
          · rw [if_pos h4, if_pos h4]
            exact J _ (by rw [h1, h2, h3, h4]; rfl)
          · rw [if_neg h4]
            have h4' : (l.getD i paz).f2 = false := Bool.eq_false_iff.2 h4
            by_cases h5 : (l.getD i paz).f3 = 0
            · rw [if_pos h5, if_neg h4]
              exact J false (by rw [h1, h2, h3, h4', h5]; rfl)
            · rw [if_neg h5]
              have h5' : ((l.getD i paz).f3 == 0) = false := by
                generalize (l.getD i paz).f3 = z at h5
                simpa using h5
              exact J true (by rw [h1, h2, h3, h4', h5']; rfl)
theorem p_implSig (l : List PA) (hl : l.length ≤ 2000000) (hs : ∀ x ∈ l, x.f0.size ≤ 2000000) (k : Nat) (hk : 14000000 ≤ k) : impl_ValidSignature.f k l = some (vsig l) := by
  unfold impl_ValidSignature.f vsig
  have := p_implSig_l0 l hl hs l.length k 0 (by omega) (fun j hj => absurd hj (Nat.not_lt_zero _)) (by omega)
  rw [List.range_eq_range']
  exact this
end Go.Proofs.Ytlpmggokgcphiaa.Pure

namespace Go.Proofs.Ytlpmggokgcphiaa.Pure
open Go.RowKit Go.Proofs.Ytlpmggokgcphiaa.Q Go.Proofs.YtlpmggokgcphiaaL.PrintWords Go.Proofs.YtlpmggokgcphiaaL.PrintLast Go.Proofs.YtlpmggokgcphiaaL.PrintMore
set_option linter.unusedVariables false
set_option linter.unusedSimpArgs false
theorem p_copyParams (l : List PA) (hl : l.length ≤ 2000000) : spec_copyParams.f l = some l := by
  unfold spec_copyParams.f
  simp only [Option.bind_some, List.nil_append, List.length_nil]
  rw [if_pos (by omega)]
end Go.Proofs.Ytlpmggokgcphiaa.Pure

namespace Go.Proofs.Ytlpmggokgcphiaa.Pure
open Go.RowKit Go.Proofs.Ytlpmggokgcphiaa.Q Go.Proofs.YtlpmggokgcphiaaL.PrintWords Go.Proofs.YtlpmggokgcphiaaL.PrintLast Go.Proofs.YtlpmggokgcphiaaL.PrintMore
set_option linter.unusedVariables false
set_option linter.unusedSimpArgs false
theorem p_aName {l : List Int} (h : Rdr l) (k : Nat) (hk : 1 ≤ k) {p : Int} (hp : 0 ≤ p) (hp' : p ≤ 1000000) : ∃ s, spec_aName.f k l p = some (s, p + 1) ∧ s.size = 1 ∧ pxName s = true := by
  unfold spec_aName.f
  obtain ⟨v, e, hv⟩ := p_of h k hk hp hp' ([(⟨#[97]⟩ : ByteArray), (⟨#[98]⟩ : ByteArray), (⟨#[99]⟩ : ByteArray), (⟨#[100]⟩ : ByteArray), (⟨#[120]⟩ : ByteArray), (⟨#[121]⟩ : ByteArray), (⟨#[97]⟩ : ByteArray), (⟨#[98]⟩ : ByteArray), (⟨#[99]⟩ : ByteArray)]) (by decide)
  rw [e, Option.bind_some]
  refine ⟨v, rfl, ?_⟩
  simp only [List.mem_cons, List.not_mem_nil, or_false] at hv
  rcases hv with rfl | rfl | rfl | rfl | rfl | rfl | rfl | rfl | rfl <;> exact ⟨rfl, by decide⟩
theorem p_anyName {l : List Int} (h : Rdr l) (k : Nat) (hk : 1 ≤ k) {p : Int} (hp : 0 ≤ p) (hp' : p ≤ 999999) : ∃ s, spec_anyName.f k l p = some (s, p + 2) ∧ s.size ≤ 7 := by
  unfold spec_anyName.f
  obtain ⟨v, e, _, _⟩ := p_pick h k hk hp (by omega) (n := 16) (by omega)
  rw [e, Option.bind_some]
  dsimp only
  have e2 : p + 1 + 1 = p + 2 := by omega
  split
  · obtain ⟨v, e, hv⟩ := p_of h k hk (p := p + 1) (by omega) (by omega) ([(⟨#[]⟩ : ByteArray), (⟨#[65]⟩ : ByteArray), (⟨#[116, 111, 111, 108, 111, 110, 103]⟩ : ByteArray), (⟨#[97, 49]⟩ : ByteArray), (⟨#[97, 98, 99, 100, 101, 102]⟩ : ByteArray)]) (by decide)
    rw [e, Option.bind_some, e2]
    refine ⟨v, rfl, ?_⟩
    simp only [List.mem_cons, List.not_mem_nil, or_false] at hv
    rcases hv with rfl | rfl | rfl | rfl | rfl <;> decide
  · obtain ⟨v, e, h1, _⟩ := p_aName h k hk (p := p + 1) (by omega) (by omega)
    rw [e, Option.bind_some, e2]
    exact ⟨v, rfl, by omega⟩
end Go.Proofs.Ytlpmggokgcphiaa.Pure

namespace Go.Proofs.Ytlpmggokgcphiaa.Pure
open Go.RowKit Go.Proofs.Ytlpmggokgcphiaa.Q Go.Proofs.YtlpmggokgcphiaaL.PrintWords Go.Proofs.YtlpmggokgcphiaaL.PrintLast Go.Proofs.YtlpmggokgcphiaaL.PrintMore
set_option linter.unusedVariables false
set_option linter.unusedSimpArgs false
def SmallP (l : List PA) : Prop := ∀ x ∈ l, x.f0.size ≤ 7
theorem SmallP.big {l : List PA} (h : SmallP l) : ∀ x ∈ l, x.f0.size ≤ 2000000 := fun x hx => Nat.le_trans (h x hx) (by omega)
theorem goodSig_l0 {r : List Int} (h : Rdr r) : ∀ (n k : Nat) (x3 : List PA) (x4 p : Int), 10000000 + 6 * n ≤ k → 0 ≤ x4 → x4 ≤ 4 → 0 ≤ p → p + 8 * n ≤ 800000 → x3.length + n ≤ 1000 → SmallP x3 →
    ∃ l p', spec_goodSignature.l0 k x3 x4 (n : Int) r p = some (l, p') ∧ p ≤ p' ∧ p' ≤ p + 8 * n ∧ l.length ≤ x3.length + n ∧ SmallP l := by
  intro n
  induction n with
  | zero =>
    intro k x3 x4 p hk h4 h4' hp hp' hl hs
    obtain ⟨k, rfl⟩ : ∃ m, k = m + 1 := ⟨k - 1, by omega⟩
    simp only [spec_goodSignature.l0]
    rw [if_neg (by omega)]
    exact ⟨x3, p, rfl, by omega, by omega, by omega, hs⟩
  | succ n ih =>
    intro k x3 x4 p hk h4 h4' hp hp' hl hs
    obtain ⟨k, rfl⟩ : ∃ m, k = m + 6 := ⟨k - 6, by omega⟩
    have w : wrap64 (((n + 1 : Nat) : Int) - 1) = (n : Int) := by rw [wrap_in (by omega) (by omega)]; omega
    have H6 : ∀ (y4 q : Int) (a : ByteArray) (b : Int) (c : Bool) (d : Int), 0 ≤ y4 → y4 ≤ 4 → p ≤ q → q ≤ p + 8 → a.size ≤ 7 →
        ∃ l p', spec_goodSignature.j6 (k + 1) x3 y4 ((n + 1 : Nat) : Int) r q a b c d = some (l, p') ∧ p ≤ p' ∧ p' ≤ p + 8 * (n + 1 : Nat) ∧ l.length ≤ x3.length + (n + 1) ∧ SmallP l := by
      intro y4 q a b c d g1 g2 g3 g4 g5
      have small : SmallP (x3 ++ [(⟨a, b, c, d⟩ : PA)]) := by
        intro x hx
        simp only [List.mem_append, List.mem_singleton] at hx
        rcases hx with hx | rfl
        · exact hs x hx
        · exact g5
      simp only [spec_goodSignature.j6]
      rw [p_copyParams x3 (by omega), Option.bind_some, Option.bind_some, if_pos (by simp; omega), Option.bind_some, p_specSig _ (by simp; omega) small.big k (by omega), Option.bind_some, w]
      split
      · obtain ⟨l, p', e, e1, e2, e3, e4⟩ := ih k (x3 ++ [(⟨a, b, c, d⟩ : PA)]) y4 q (by omega) g1 g2 (by omega) (by omega) (by simp; omega) small
        exact ⟨l, p', e, by omega, by omega, by simp at e3; omega, e4⟩
      · obtain ⟨l, p', e, e1, e2, e3, e4⟩ := ih k x3 y4 q (by omega) g1 g2 (by omega) (by omega) (by omega) hs
        exact ⟨l, p', e, by omega, by omega, by omega, e4⟩
    have H5 : ∀ (y4 q : Int) (a : ByteArray) (b : Int) (c : Bool) (d : Int), 0 ≤ y4 → y4 ≤ 4 → p ≤ q → q ≤ p + 8 → a.size ≤ 7 →
        ∃ l p', spec_goodSignature.j5 (k + 2) x3 y4 ((n + 1 : Nat) : Int) r q a b c d = some (l, p') ∧ p ≤ p' ∧ p' ≤ p + 8 * (n + 1 : Nat) ∧ l.length ≤ x3.length + (n + 1) ∧ SmallP l := by
      intro y4 q a b c d g1 g2 g3 g4 g5
      simp only [spec_goodSignature.j5]
      rw [p_isSingle, Option.bind_some]
      split
      · exact H6 y4 q a b c d g1 g2 g3 g4 g5
      · refine H6 _ q a b c d ?_ ?_ g3 g4 g5 <;> rw [wrap_in (n := y4 + 1) (by omega) (by omega)] <;> unfold mn <;> split <;> omega
    have H4 : ∀ (y4 q : Int) (z : Bool) (a : ByteArray) (b : Int) (c : Bool) (d : Int), 0 ≤ y4 → y4 ≤ 4 → p ≤ q → q ≤ p + 7 → a.size ≤ 7 →
        ∃ l p', spec_goodSignature.j4 (k + 3) x3 y4 ((n + 1 : Nat) : Int) z r q a b c d = some (l, p') ∧ p ≤ p' ∧ p' ≤ p + 8 * (n + 1 : Nat) ∧ l.length ≤ x3.length + (n + 1) ∧ SmallP l := by
      intro y4 q z a b c d g1 g2 g3 g4 g5
      simp only [spec_goodSignature.j4]
      split
      · obtain ⟨v, e, _⟩ := p_aNumber h (k + 2) (by omega) (p := q) (by omega) (by omega)
        rw [e, Option.bind_some]
        exact H5 y4 (q + 1) a b true v g1 g2 (by omega) (by omega) g5
      · exact H5 y4 q a b c d g1 g2 g3 (by omega) g5
    have H3 : ∀ (y4 q : Int), 0 ≤ y4 → y4 ≤ 4 → p ≤ q → q ≤ p + 5 →
        ∃ l p', spec_goodSignature.j3 (k + 4) x3 y4 ((n + 1 : Nat) : Int) r q = some (l, p') ∧ p ≤ p' ∧ p' ≤ p + 8 * (n + 1 : Nat) ∧ l.length ≤ x3.length + (n + 1) ∧ SmallP l := by
      intro y4 q g1 g2 g3 g4
      simp only [spec_goodSignature.j3]
      obtain ⟨s, e, hv⟩ := p_of h (k + 3) (by omega) (p := q) (by omega) (by omega) ([(⟨#[97]⟩ : ByteArray), (⟨#[98]⟩ : ByteArray), (⟨#[99]⟩ : ByteArray), (⟨#[100]⟩ : ByteArray), (⟨#[120]⟩ : ByteArray), (⟨#[121]⟩ : ByteArray), (⟨#[112]⟩ : ByteArray), (⟨#[113]⟩ : ByteArray), (⟨#[97, 114, 103, 115]⟩ : ByteArray), (⟨#[107, 119]⟩ : ByteArray)]) (by decide)
      rw [e, Option.bind_some]
      dsimp only
      have hs7 : s.size ≤ 7 := by
        simp only [List.mem_cons, List.not_mem_nil, or_false] at hv
        rcases hv with rfl | rfl | rfl | rfl | rfl | rfl | rfl | rfl | rfl | rfl <;> decide
      obtain ⟨v, e, _, _⟩ := p_pick h (k + 3) (by omega) (p := q + 1) (by omega) (by omega) (n := 3) (by omega)
      rw [e, Option.bind_some]
      dsimp only
      split
      · rw [p_isSingle, Option.bind_some]
        exact H4 y4 _ _ s y4 false 0 g1 g2 (by omega) (by omega) hs7
      · exact H4 y4 _ _ s y4 false 0 g1 g2 (by omega) (by omega) hs7
    have H2 : ∀ (z : Bool) (q : Int), (z = true → x4 < 4) → p ≤ q → q ≤ p + 3 →
        ∃ l p', spec_goodSignature.j2 (k + 5) x3 x4 ((n + 1 : Nat) : Int) z r q = some (l, p') ∧ p ≤ p' ∧ p' ≤ p + 8 * (n + 1 : Nat) ∧ l.length ≤ x3.length + (n + 1) ∧ SmallP l := by
      intro z q hz g3 g4
      simp only [spec_goodSignature.j2]
      split
      · rename_i hzt
        have := hz hzt
        rw [wrap_in (n := 4 - x4) (by omega) (by omega)]
        obtain ⟨v, e, hv, hv'⟩ := p_pick h (k + 4) (by omega) (p := q) (by omega) (by omega) (n := 4 - x4) (by omega)
        rw [e, Option.bind_some]
        dsimp only
        rw [wrap_in (n := x4 + 1) (by omega) (by omega), wrap_in (n := x4 + 1 + v) (by omega) (by omega)]
        exact H3 _ _ (by omega) (by omega) (by omega) (by omega)
      · exact H3 _ _ h4 h4' g3 (by omega)
    simp only [spec_goodSignature.l0]
    rw [if_pos (by omega)]
    obtain ⟨v, e, _, _⟩ := p_pick h (k + 5) (by omega) (p := p) (by omega) (by omega) (n := 3) (by omega)
    rw [e, Option.bind_some]
    dsimp only
    split
    · exact H2 _ _ (by simp) (by omega) (by omega)
    · exact H2 _ _ (by simp) (by omega) (by omega)
theorem p_goodSig {r : List Int} (h : Rdr r) (k : Nat) (hk : 20000000 ≤ k) {p : Int} (hp : 0 ≤ p) (hp' : p ≤ 700000) : ∃ l p', spec_goodSignature.f k r p = some (l, p') ∧ p ≤ p' ∧ p' ≤ p + 80 ∧ l.length ≤ 8 ∧ SmallP l := by
  unfold spec_goodSignature.f
  obtain ⟨k, rfl⟩ : ∃ m, k = m + 1 := ⟨k - 1, by omega⟩
  rw [Option.bind_some]
  obtain ⟨v, e, _, _⟩ := p_pick h (k + 1) (by omega) (p := p) (by omega) (by omega) (n := 2) (by omega)
  rw [e, Option.bind_some]
  dsimp only
  have H0 : ∀ x4 : Int, 0 ≤ x4 → x4 ≤ 4 → ∃ l p', spec_goodSignature.j0 (k + 1) [] x4 r (p + 1) = some (l, p') ∧ p ≤ p' ∧ p' ≤ p + 80 ∧ l.length ≤ 8 ∧ SmallP l := by
    intro x4 g1 g2
    simp only [spec_goodSignature.j0]
    obtain ⟨v, e, hv⟩ := p_one h k (by omega) (p := p + 1) (by omega) (by omega) ([3, 4, 2, 5, 1, 0, 6, 8]) (by decide)
    rw [e, Option.bind_some]
    dsimp only
    obtain ⟨n, rfl, hn⟩ : ∃ n : Nat, v = (n : Int) ∧ n ≤ 8 := by
      simp only [List.mem_cons, List.not_mem_nil, or_false] at hv
      exact ⟨v.toNat, by omega, by omega⟩
    obtain ⟨l, p', e, e1, e2, e3, e4⟩ := goodSig_l0 h n k [] x4 (p + 1 + 1) (by omega) g1 g2 (by omega) (by omega) (by simp; omega) (by intro x hx; simp at hx)
    exact ⟨l, p', e, by omega, by omega, by simp at e3; omega, e4⟩
  split
  · exact H0 1 (by omega) (by omega)
  · exact H0 0 (by omega) (by omega)
theorem SmallP.set {l : List PA} (h : SmallP l) (i : Nat) {x : PA} (hx : x.f0.size ≤ 7) : SmallP (l.set i x) := by
  intro y hy
  rcases List.mem_or_eq_of_mem_set hy with hy | rfl
  · exact h y hy
  · exact hx
theorem p_someSig {r : List Int} (h : Rdr r) (k : Nat) (hk : 20000000 ≤ k) {p : Int} (hp : 0 ≤ p) (hp' : p ≤ 600000) : ∃ l p', spec_someSignature.f k r p = some (l, p') ∧ p ≤ p' ∧ p' ≤ p + 100 ∧ l.length ≤ 8 ∧ SmallP l := by
  unfold spec_someSignature.f
  obtain ⟨l, q, e, h1, h2, h3, h4⟩ := p_goodSig h k hk hp (by omega)
  rw [e, Option.bind_some]
  dsimp only
  split
  · obtain ⟨i, e, hi, hi'⟩ := p_pick h k (by omega) (p := q) (by omega) (by omega) (n := (l.length : Int)) (by omega)
    rw [e, Option.bind_some]
    dsimp only
    obtain ⟨v, e, _, _⟩ := p_pick h k (by omega) (p := q + 1) (by omega) (by omega) (n := 24) (by omega)
    rw [e, Option.bind_some]
    dsimp only
    obtain ⟨n, rfl⟩ := Int.eq_ofNat_of_zero_le hi
    have hn : n < l.length := by omega
    have hm := h4 _ (getD_mem l paz n hn)
    rw [rdpa, if_pos hi, if_pos hi', Int.toNat_natCast]
    split
    · obtain ⟨s, e, hs⟩ := p_anyName h k (by omega) (p := q + 1 + 1) (by omega) (by omega)
      rw [e, Option.bind_some]
      exact ⟨_, _, rfl, by omega, by omega, by rw [List.length_set]; exact h3, h4.set n hs⟩
    · split
      · obtain ⟨s, e, hs⟩ := p_one h k (by omega) (p := q + 1 + 1) (by omega) (by omega) ([(-1), 5, 0, 2, 4]) (by decide)
        rw [e, Option.bind_some]
        exact ⟨_, _, rfl, by omega, by omega, by rw [List.length_set]; exact h3, h4.set n hm⟩
      · split
        · exact ⟨_, _, rfl, by omega, by omega, by rw [List.length_set]; exact h3, h4.set n hm⟩
        · split
          · obtain ⟨s, e, hs⟩ := p_one h k (by omega) (p := q + 1 + 1) (by omega) (by omega) ([100, 5]) (by decide)
            rw [e, Option.bind_some]
            exact ⟨_, _, rfl, by omega, by omega, by rw [List.length_set]; exact h3, h4.set n hm⟩
          · exact ⟨_, _, rfl, by omega, by omega, h3, h4⟩
  · exact ⟨_, _, rfl, by omega, by omega, h3, h4⟩
end Go.Proofs.Ytlpmggokgcphiaa.Pure

namespace Go.Proofs.Ytlpmggokgcphiaa.Pure
open Go.RowKit Go.Proofs.Ytlpmggokgcphiaa.Q Go.Proofs.YtlpmggokgcphiaaL.PrintWords Go.Proofs.YtlpmggokgcphiaaL.PrintLast Go.Proofs.YtlpmggokgcphiaaL.PrintMore
set_option linter.unusedVariables false
set_option linter.unusedSimpArgs false
def kAt (l : List PA) (c : Int) : Int := pxIdx (fun x : PA => x.f1 == c) l
theorem p_kindAt (l : List PA) (c : Int) (hl : l.length ≤ 2000000) (k : Nat) (hk : 3000000 ≤ k) : spec_kindAt.f k l c = some (kAt l c) := by
  unfold spec_kindAt.f kAt
  refine loop_find0 (fun k i => spec_kindAt.l0 k l c i) l paz _ 0 k (by omega) (fun k i _ hi => ?_) (fun k _ => ?_) (by omega)
  · simp only [spec_kindAt.l0]
    rw [if_pos (by omega), if_pos (by omega), rdpa]
    simp only [beq_iff_eq]
  · simp only [spec_kindAt.l0]
    rw [if_neg (by omega)]
theorem p_has (l : List PA) (c : Int) : impl_Signature_has.f l c = some (decide (kAt l c ≥ 0)) := by
  unfold impl_Signature_has.f kAt
  rw [pxIdx_any]
end Go.Proofs.Ytlpmggokgcphiaa.Pure

namespace Go.Proofs.Ytlpmggokgcphiaa.Pure
open Go.RowKit Go.Proofs.Ytlpmggokgcphiaa.Q Go.Proofs.YtlpmggokgcphiaaL.PrintWords Go.Proofs.YtlpmggokgcphiaaL.PrintLast Go.Proofs.YtlpmggokgcphiaaL.PrintMore
set_option linter.unusedVariables false
set_option linter.unusedSimpArgs false
theorem p_nameIn {r : List Int} (h : Rdr r) (k : Nat) (hk : 20000000 ≤ k) {p : Int} (hp : 0 ≤ p) (hp' : p ≤ 500000) : ∃ l s p', spec_nameIn.f k r p = some (l, s, p') ∧ p ≤ p' ∧ p' ≤ p + 110 ∧ l.length ≤ 8 ∧ SmallP l ∧ s.size ≤ 7 := by
  unfold spec_nameIn.f
  obtain ⟨l, q, e, h1, h2, h3, h4⟩ := p_someSig h k hk hp (by omega)
  rw [e, Option.bind_some]
  dsimp only
  split
  · obtain ⟨v, e, _, _⟩ := p_pick h k (by omega) (p := q) (by omega) (by omega) (n := 5) (by omega)
    rw [e, Option.bind_some]
    dsimp only
    split
    · obtain ⟨i, e, hi, hi'⟩ := p_pick h k (by omega) (p := q + 1) (by omega) (by omega) (n := (l.length : Int)) (by omega)
      rw [e, Option.bind_some]
      dsimp only
      obtain ⟨n, rfl⟩ := Int.eq_ofNat_of_zero_le hi
      have hm := h4 _ (getD_mem l paz n (by omega))
      rw [rdpa, if_pos hi, if_pos hi']
      exact ⟨_, _, _, rfl, by omega, by omega, h3, h4, hm⟩
    · obtain ⟨s, e, hs⟩ := p_anyName h k (by omega) (p := q + 1) (by omega) (by omega)
      rw [e, Option.bind_some]
      exact ⟨_, _, _, rfl, by omega, by omega, h3, h4, hs⟩
  · obtain ⟨s, e, hs⟩ := p_anyName h k (by omega) (p := q) (by omega) (by omega)
    rw [e, Option.bind_some]
    exact ⟨_, _, _, rfl, by omega, by omega, h3, h4, hs⟩
end Go.Proofs.Ytlpmggokgcphiaa.Pure

namespace Go.Proofs.Ytlpmggokgcphiaa.Pure
open Go.RowKit Go.Proofs.Ytlpmggokgcphiaa.Q Go.Proofs.YtlpmggokgcphiaaL.PrintWords Go.Proofs.YtlpmggokgcphiaaL.PrintLast Go.Proofs.YtlpmggokgcphiaaL.PrintMore
set_option linter.unusedVariables false
set_option linter.unusedSimpArgs false
/-- What a signature must be, as a Prop. -/
structure OkS (l : List PA) : Prop where
  ok : ∀ x ∈ l, paramOk x = true
  names : (l.map (·.f0)).Nodup
  ord : ∀ i (h : i + 1 < l.length), ordOk l[i] l[i + 1] = true
  len : l.length ≤ 8
theorem getD_at {α : Type} (l : List α) (d : α) (i : Nat) (h : i < l.length) : l.getD i d = l[i] := by
  rw [List.getD_eq_getElem?_getD, List.getElem?_eq_getElem h]; rfl
theorem okS_iff (l : List PA) : vsig l = true ↔ OkS l := by
  unfold vsig
  rw [Bool.and_eq_true, List.all_eq_true, decide_eq_true_eq]
  constructor
  · rintro ⟨h, hl⟩
    have h' : ∀ i (hi : i < l.length), paramOk l[i] = true ∧ (∀ x ∈ l.take i, x.f0 ≠ l[i].f0) ∧ (i = 0 ∨ ordOk (l.getD (i - 1) paz) l[i] = true) := by
      intro i hi
      have := h i (List.mem_range.2 hi)
      unfold sigAt freshPa at this
      rw [getD_at l paz i hi] at this
      simp only [Bool.and_eq_true, Bool.not_eq_true', List.any_eq_false, Bool.or_eq_true, beq_iff_eq, bt_eqv] at this
      exact ⟨this.1, this.2.1, this.2.2⟩
    refine ⟨fun x hx => ?_, ?_, fun i hi => ?_, hl⟩
    · obtain ⟨i, hi, rfl⟩ := List.mem_iff_getElem.1 hx
      exact (h' i hi).1
    · rw [List.Nodup, List.pairwise_map, List.pairwise_iff_getElem]
      intro i j hi hj hij
      exact (h' j hj).2.1 l[i] (List.mem_take_iff_getElem.2 ⟨i, by omega, rfl⟩)
    · have := (h' (i + 1) hi).2.2
      rw [Nat.add_sub_cancel, getD_at l paz i (by omega)] at this
      rcases this with h | h
      · omega
      · exact h
  · intro h
    refine ⟨fun i hi => ?_, h.len⟩
    have hi := List.mem_range.1 hi
    unfold sigAt freshPa
    rw [getD_at l paz i hi]
    simp only [Bool.and_eq_true, Bool.not_eq_true', List.any_eq_false, Bool.or_eq_true, beq_iff_eq, bt_eqv]
    refine ⟨h.ok _ (List.getElem_mem hi), fun x hx => ?_, ?_⟩
    · obtain ⟨j, hj, rfl⟩ := List.mem_take_iff_getElem.1 hx
      have hf := h.names
      rw [List.Nodup, List.pairwise_map, List.pairwise_iff_getElem] at hf
      exact hf j i (by omega) hi (by omega)
    · cases i with
      | zero => exact .inl rfl
      | succ i =>
        right
        rw [Nat.add_sub_cancel, getD_at l paz i (by omega)]
        exact h.ord i hi
theorem OkS.take {l : List PA} (h : OkS l) (n : Nat) : OkS (l.take n) := by
  refine ⟨fun x hx => h.ok x (List.mem_of_mem_take hx), ?_, fun i hi => ?_, ?_⟩
  · rw [List.map_take]
    exact List.Sublist.nodup (List.take_sublist _ _) h.names
  · rw [List.length_take] at hi
    rw [List.getElem_take, List.getElem_take]
    exact h.ord i (by omega)
  · rw [List.length_take]
    have := h.len
    omega
theorem OkS.drop {l : List PA} (h : OkS l) (n : Nat) : OkS (l.drop n) := by
  refine ⟨fun x hx => h.ok x (List.mem_of_mem_drop hx), ?_, fun i hi => ?_, ?_⟩
  · rw [List.map_drop]
    exact List.Sublist.nodup (List.drop_sublist _ _) h.names
  · rw [List.length_drop] at hi
    rw [List.getElem_drop, List.getElem_drop]
    exact h.ord (n + i) (by omega)
  · rw [List.length_drop]
    have := h.len
    omega
theorem OkS.range {l : List PA} (h : OkS l) {x : PA} (hx : x ∈ l) : 0 ≤ x.f1 ∧ x.f1 ≤ 4 := by
  have := h.ok x hx
  unfold paramOk at this
  simp only [Bool.and_eq_true, decide_eq_true_eq] at this
  exact this.2.1
theorem OkS.sorted {l : List PA} (h : OkS l) : l.Pairwise fun x y => x.f1 ≤ y.f1 := by
  rw [List.pairwise_iff_getElem]
  have step : ∀ i (hi : i + 1 < l.length), l[i].f1 ≤ l[i + 1].f1 := by
    intro i hi
    have := h.ord i hi
    unfold ordOk at this
    simp only [Bool.and_eq_true, Bool.not_eq_true', decide_eq_false_iff_not] at this
    omega
  have : ∀ d i (hi : i + d < l.length), l[i].f1 ≤ l[i + d].f1 := by
    intro d
    induction d with
    | zero => intro i hi; exact Int.le_refl _
    | succ d ih =>
      intro i hi
      have h1 := ih i (by omega)
      have h2 := step (i + d) (by omega)
      have e : i + d + 1 = i + (d + 1) := by omega
      simp only [e] at h2
      omega
  intro i j hi hj hij
  have h1 := this (j - i) i (by omega)
  have e : i + (j - i) = j := by omega
  simp only [e] at h1
  exact h1
/-- A name's place is told. -/
theorem idx_self {l : List PA} (hn : (l.map (·.f0)).Nodup) (i : Nat) (hi : i < l.length) : pxIdx (fun x : PA => x.f0.toList == l[i].f0.toList) l = i := by
  refine pxIdx_hit _ l paz i hi (by rw [getD_at l paz i hi]; simp) (fun j hj => ?_)
  rw [getD_at l paz j (by omega)]
  rw [List.Nodup, List.pairwise_map, List.pairwise_iff_getElem] at hn
  have := hn j i (by omega) hi hj
  rw [beq_eq_false_iff_ne]
  rw [Ne, bt_eqv]
  exact this
end Go.Proofs.Ytlpmggokgcphiaa.Pure

namespace Go.Proofs.Ytlpmggokgcphiaa.Pure
open Go.RowKit Go.Proofs.Ytlpmggokgcphiaa.Q Go.Proofs.YtlpmggokgcphiaaL.PrintWords Go.Proofs.YtlpmggokgcphiaaL.PrintLast Go.Proofs.YtlpmggokgcphiaaL.PrintMore
set_option linter.unusedVariables false
set_option linter.unusedSimpArgs false
def takes (l : List PA) (s : ByteArray) : Int :=
  if 0 ≤ pxIdx (fun x : PA => x.f0.toList == s.toList) l then (if named (rd_T33 l (pxIdx (fun x : PA => x.f0.toList == s.toList) l)) = true then pxIdx (fun x : PA => x.f0.toList == s.toList) l else kAt l 4) else kAt l 4
theorem p_implTakes (l : List PA) (s : ByteArray) : impl_Signature_takes.f l s = some (takes l s) := rfl
theorem p_specTakes (l : List PA) (s : ByteArray) (hl : l.length ≤ 2000000) (k : Nat) (hk : 3000000 ≤ k) : spec_takesName.f k l s = some (takes l s) := by
  unfold spec_takesName.f takes
  rw [p_specFind l s hl k hk, Option.bind_some]
  rcases pxIdx_range (fun x : PA => x.f0.toList == s.toList) l with e | ⟨i, hi, e⟩
  · rw [e, if_neg (by omega), if_neg (by omega), p_kindAt l 4 hl k hk, Option.bind_some]
  · rw [e, if_pos (by omega), if_pos (by omega), if_pos (by omega), if_pos (by omega), p_byName, Option.bind_some, p_kindAt l 4 hl k hk, Option.bind_some]
    split <;> rfl
end Go.Proofs.Ytlpmggokgcphiaa.Pure
