-- written by px.py and merge.py (programs of this claim's), over the kit's print. Not trusted: Lean checks it.
import Derived.Test.YtfcpbgedgedalaaVFnOverFlatNone
import Derived.Test.YtfcpbgedgedalaaM4FnOverFlatNone
import Derived.Test.YtfcpbgedgedalaaM6FnOverFlatNone
import Derived.Test.YtfcpbgedgedalaaM0FnOverFlatNone
import Derived.Test.YtfcpbgedgedalaaM1FnOverFlatNone
import Derived.Test.YtfcpbgedgedalaaM7FnOverFlatNone
import Derived.Test.YtfcpbgedgedalaaM8FnOverFlatNone
import Derived.Test.YtfcpbgedgedalaaM2FnOverFlatNone
import Derived.Test.YtfcpbgedgedalaaM5FnOverFlatNone
import Derived.Test.YtfcpbgedgedalaaM3FnOverFlatNone
namespace Go.Proofs.Ytfcpbgedgedalaa.Pure
open Go.RowKit Go.Proofs.Ytfcpbgedgedalaa.Q Go.Proofs.YtfcpbgedgedalaaL.PrintWords Go.Proofs.YtfcpbgedgedalaaL.PrintLast Go.Proofs.YtfcpbgedgedalaaL.PrintMore
set_option linter.unusedVariables false
set_option linter.unusedSimpArgs false

/-- A number of a call. -/
def val (v : Int) : Bool := decide (-99 ≤ v) && decide (v ≤ 99)
theorem p_inRange (a lo hi : Int) : spec_inRange.f a lo hi = some (decide (lo ≤ a) && decide (a ≤ hi)) := by
  unfold spec_inRange.f
  split <;> simp [*]
theorem p_in (a lo hi : Int) : impl_in.f a lo hi = some (decide (lo ≤ a) && decide (a ≤ hi)) := by
  unfold impl_in.f
  split
  · have : lo ≤ a := by omega
    simp [this]
  · have : ¬ lo ≤ a := by omega
    simp [this]
theorem p_isValue (v : Int) : impl_isValue.f v = some (val v) := by
  unfold impl_isValue.f val
  simp [p_in]
theorem p_validNumber (v : Int) : spec_validNumber.f v = some (val v) := by
  unfold spec_validNumber.f val
  simp [p_inRange]
theorem bt_eq (s t : ByteArray) : (s.toList == t.toList) = (s.data.toList == t.data.toList) := by
  rw [ByteArray.toList_eq, ByteArray.toList_eq]
theorem bt_eqv (s t : ByteArray) : s.toList = t.toList ↔ s = t := by
  rw [ByteArray.toList_eq, ByteArray.toList_eq]
  constructor
  · intro h
    cases s; cases t
    simp only at h
    exact congrArg _ (Array.toList_inj.1 h)
  · rintro rfl; rfl
/-- A loop that ends with false at the first place that is not good. -/
theorem loop_all (F : Nat → Int → Option Bool) (P : Nat → Bool) (T : Bool) (n B : Nat) (hn : n ≤ 9223372036854775807)
    (hstep : ∀ k i, B ≤ k → i < n → F (k + 1) (i : Int) = if P i = true then F k (wrap64 ((i : Int) + 1)) else some false) (hend : ∀ k, B ≤ k → F (k + 1) (n : Int) = some T) :
    ∀ d k i, i + d = n → B + d < k → F k (i : Int) = some ((List.range' i d).all P && T) := by
  intro d
  induction d with
  | zero =>
    intro k i h hk
    obtain ⟨k, rfl⟩ : ∃ m, k = m + 1 := ⟨k - 1, by omega⟩
    obtain rfl : i = n := by omega
    rw [hend k (by omega)]
    simp
  | succ d ih =>
    intro k i h hk
    obtain ⟨k, rfl⟩ : ∃ m, k = m + 1 := ⟨k - 1, by omega⟩
    rw [hstep k i (by omega) (by omega), wrap_succ (n := n) (by omega) hn, ih k (i + 1) (by omega) (by omega), List.range'_succ, List.all_cons]
    cases P i <;> simp
theorem loop_all0 (F : Nat → Int → Option Bool) (P : Nat → Bool) (T : Bool) (n B k : Nat) (hn : n ≤ 9223372036854775807)
    (hstep : ∀ k i, B ≤ k → i < n → F (k + 1) (i : Int) = if P i = true then F k (wrap64 ((i : Int) + 1)) else some false) (hend : ∀ k, B ≤ k → F (k + 1) (n : Int) = some T)
    (hk : B + n < k) : F k 0 = some ((List.range n).all P && T) := by
  have := loop_all F P T n B hn hstep hend n k 0 (by omega) hk
  rw [List.range_eq_range']
  exact this
theorem name_loop (s : ByteArray) : ((List.range s.size).all fun i => decide (97 ≤ bt s (i : Int)) && decide (bt s (i : Int) ≤ 122)) = s.data.toList.all (fun c => decide (97 ≤ c.toNat) && decide (c.toNat ≤ 122)) := by
  rw [Bool.eq_iff_iff, List.all_eq_true, List.all_eq_true]
  constructor
  · intro h c hc
    obtain ⟨i, hi, rfl⟩ := List.mem_iff_getElem.1 hc
    have hi' : i < s.size := by simpa using hi
    have := h i (List.mem_range.2 hi')
    rw [bt_nat s i hi'] at this
    simp only [Bool.and_eq_true, decide_eq_true_eq] at this ⊢
    have e : s.data.toList[i] = s[i] := rfl
    rw [e]
    omega
  · intro h i hi
    have hi' := List.mem_range.1 hi
    have := h s[i] (by
      have : s[i] = s.data.toList[i]'(by simpa using hi') := rfl
      rw [this]; exact List.getElem_mem _)
    rw [bt_nat s i hi']
    simp only [Bool.and_eq_true, decide_eq_true_eq] at this ⊢
    omega
theorem name_size (s : ByteArray) : (decide ((1 : Int) ≤ (s.size : Int)) && decide ((s.size : Int) ≤ 6)) = (decide (1 ≤ s.size) && decide (s.size ≤ 6)) := by
  rw [Bool.eq_iff_iff]
  simp only [Bool.and_eq_true, decide_eq_true_eq]
  omega
theorem p_validName (s : ByteArray) (hs : s.size ≤ 9223372036854775807) (k : Nat) (hk : s.size < k) : spec_validName.f k s = some (pxName s) := by
  unfold spec_validName.f pxName
  rw [← name_loop]
  refine loop_all0 (fun k i => spec_validName.l0 k s i) _ _ s.size 0 k hs (fun k i _ hi => ?_) (fun k _ => ?_) (by omega)
  · simp only [spec_validName.l0]
    rw [if_pos (by omega), if_pos (by omega)]
    by_cases h1 : bt s (i : Int) < 97
    · have : ¬ 97 ≤ bt s (i : Int) := by omega
      simp [h1, this]
    · have h1' : 97 ≤ bt s (i : Int) := by omega
      by_cases h2 : bt s (i : Int) > 122
      · have : ¬ bt s (i : Int) ≤ 122 := by omega
        simp [h1, h2, this]
      · have : bt s (i : Int) ≤ 122 := by omega
        simp [h1, h2, this, h1']
  · simp only [spec_validName.l0]
    rw [if_neg (by omega), p_inRange, Option.bind_some, name_size]
theorem p_isName (s : ByteArray) (hs : s.size ≤ 9223372036854775807) (k : Nat) (hk : s.size < k) : impl_isName.f k s = some (pxName s) := by
  unfold impl_isName.f pxName
  rw [← name_loop]
  refine loop_all0 (fun k i => impl_isName.l0 k s i) _ _ s.size 0 k hs (fun k i _ hi => ?_) (fun k _ => ?_) (by omega)
  · simp only [impl_isName.l0]
    rw [if_pos (by omega), if_pos (by omega)]
    by_cases h1 : bt s (i : Int) < 97
    · have : ¬ 97 ≤ bt s (i : Int) := by omega
      simp [h1, this]
    · have h1' : 97 ≤ bt s (i : Int) := by omega
      by_cases h2 : bt s (i : Int) > 122
      · have : ¬ bt s (i : Int) ≤ 122 := by omega
        simp [h1, h2, this]
      · have : bt s (i : Int) ≤ 122 := by omega
        simp [h1, h2, this, h1']
  · simp only [impl_isName.l0]
    rw [if_neg (by omega), p_in, Option.bind_some, name_size]

theorem wrap_in {n : Int} (h1 : -9223372036854775808 ≤ n) (h2 : n ≤ 9223372036854775807) : wrap64 n = n := by
  unfold wrap64
  omega
end Go.Proofs.Ytfcpbgedgedalaa.Pure

namespace Go.Proofs.Ytfcpbgedgedalaa.Pure
open Go.RowKit Go.Proofs.Ytfcpbgedgedalaa.Q Go.Proofs.YtfcpbgedgedalaaL.PrintWords Go.Proofs.YtfcpbgedgedalaaL.PrintLast Go.Proofs.YtfcpbgedgedalaaL.PrintMore
set_option linter.unusedVariables false
set_option linter.unusedSimpArgs false
/-! ### what is drawn -/
/-- A reader's row. -/
structure Rdr (l : List Int) : Prop where
  len : l.length ≤ 2000
  byte : ∀ x ∈ l, 0 ≤ x ∧ x ≤ 255
theorem Rdr.rd {l : List Int} (h : Rdr l) (i : Int) : 0 ≤ rd l i ∧ rd l i ≤ 255 := by
  unfold Go.Proofs.YtfcpbgedgedalaaL.PrintWords.rd
  rw [List.getD_eq_getElem?_getD]
  rcases hq : l[i.toNat]? with _ | x
  · simp
  · exact h.byte x (List.mem_of_getElem? hq)
theorem xor_nonneg {a b : Int} (ha : 0 ≤ a) (ha' : a < 1099511627776) (hb : 0 ≤ b) (hb' : b < 1099511627776) : 0 ≤ Go.bits .xor .i64 a b := by
  obtain ⟨a, rfl⟩ := Int.eq_ofNat_of_zero_le ha
  obtain ⟨b, rfl⟩ := Int.eq_ofNat_of_zero_le hb
  have h1 : a < 2 ^ 40 := by omega
  have h2 : b < 2 ^ 40 := by omega
  have h3 := Nat.xor_lt_two_pow h1 h2
  have e1 : a % 2 ^ IntKind.i64.bits = a := Nat.mod_eq_of_lt (by simp only [IntKind.bits]; omega)
  have e2 : b % 2 ^ IntKind.i64.bits = b := Nat.mod_eq_of_lt (by simp only [IntKind.bits]; omega)
  simp only [Go.bits, BitVec.ofInt_natCast, BitVec.toNat_xor, BitVec.toNat_ofNat, e1, e2]
  rw [IntKind.wrap_i64]
  omega
theorem tmod_in {a n : Int} (ha : 0 ≤ a) (hn : 0 < n) : 0 ≤ Int.tmod a n ∧ Int.tmod a n < n := ⟨Int.tmod_nonneg _ ha, Int.tmod_lt_of_pos _ hn⟩
theorem p_pick {l : List Int} (h : Rdr l) (k : Nat) (hk : 1 ≤ k) {p n : Int} (hp : 0 ≤ p) (hp' : p ≤ 1000000) (hn : 1 ≤ n) : ∃ v, spec_reader_pick.f k l p n = some (v, p + 1) ∧ 0 ≤ v ∧ v < n := by
  obtain ⟨k, rfl⟩ : ∃ m, k = m + 1 := ⟨k - 1, by omega⟩
  have w1 : wrap64 (p + 1) = p + 1 := wrap_in (by omega) (by omega)
  have w2 : wrap64 (p + 1 - 1) = p := by rw [wrap_in (by omega) (by omega)]; omega
  unfold spec_reader_pick.f
  rw [if_neg (by omega)]
  simp only [spec_reader_pick.j0]
  rw [w1]
  by_cases h0 : l.length = 0
  · rw [if_pos (by simp [h0])]
    exact ⟨0, rfl, by omega, by omega⟩
  · have hL : 0 < (l.length : Int) := by omega
    have hlen := h.len
    rw [if_neg (by simpa using h0)]
    simp only [w2]
    by_cases h1 : p < (l.length : Int)
    · rw [if_pos h1, if_pos hp, if_neg (by omega)]
      have hr := h.rd p
      rw [wrap_in (n := rd l p) (by omega) (by omega)]
      have := tmod_in hr.1 (show 0 < n by omega)
      exact ⟨_, rfl, this.1, this.2⟩
    · have t1 := tmod_in hp hL
      have e1 : wrap64 (p * 7) = p * 7 := wrap_in (by omega) (by omega)
      have e2 : wrap64 (p * 7 + 3) = p * 7 + 3 := wrap_in (by omega) (by omega)
      rw [e1, e2]
      have t2 := tmod_in (show 0 ≤ p * 7 + 3 by omega) hL
      rw [if_neg h1, if_neg (by omega), if_pos t1.1, if_pos t1.2, if_pos t2.1, if_pos t2.2, if_neg (by omega)]
      have r1 := h.rd (Int.tmod p (l.length : Int))
      have r2 := h.rd (Int.tmod (p * 7 + 3) (l.length : Int))
      generalize rd l (Int.tmod p (l.length : Int)) = x at r1 ⊢
      generalize rd l (Int.tmod (p * 7 + 3) (l.length : Int)) = y at r2 ⊢
      have d1 : 0 ≤ Int.tdiv p (l.length : Int) := Int.tdiv_nonneg hp (by omega)
      have d2 : Int.tdiv p (l.length : Int) ≤ p := Int.tdiv_le_self _ hp
      generalize Int.tdiv p (l.length : Int) = z at d1 d2 ⊢
      rw [wrap_in (n := x) (by omega) (by omega), wrap_in (n := y) (by omega) (by omega), wrap_in (n := z) (by omega) (by omega), wrap_in (n := x * 131) (by omega) (by omega), wrap_in (n := y * 1117) (by omega) (by omega), wrap_in (n := p * 29) (by omega) (by omega), wrap_in (n := z * 53) (by omega) (by omega), wrap_in (n := x * 131 + y * 1117) (by omega) (by omega), wrap_in (n := x * 131 + y * 1117 + p * 29) (by omega) (by omega), wrap_in (n := x * 131 + y * 1117 + p * 29 + z * 53) (by omega) (by omega)]
      have a0 : 0 ≤ x * 131 + y * 1117 + p * 29 + z * 53 := by omega
      have a1 : x * 131 + y * 1117 + p * 29 + z * 53 < 1099511627776 := by omega
      generalize x * 131 + y * 1117 + p * 29 + z * 53 = u at a0 a1 ⊢
      have b0 : 0 ≤ Int.tdiv u 64 := Int.tdiv_nonneg a0 (by omega)
      have b1 : Int.tdiv u 64 ≤ u := Int.tdiv_le_self _ a0
      rw [wrap_in (n := Int.tdiv u 64) (by omega) (by omega)]
      have := tmod_in (xor_nonneg a0 a1 b0 (by omega)) (show 0 < n by omega)
      exact ⟨_, rfl, this.1, this.2⟩
theorem rd_mem {l : List Int} {i : Int} (h0 : 0 ≤ i) (h1 : i < (l.length : Int)) : rd l i ∈ l := by
  unfold Go.Proofs.YtfcpbgedgedalaaL.PrintWords.rd
  rw [List.getD_eq_getElem?_getD, List.getElem?_eq_getElem (by omega)]
  exact List.getElem_mem _
theorem p_one {l : List Int} (h : Rdr l) (k : Nat) (hk : 1 ≤ k) {p : Int} (hp : 0 ≤ p) (hp' : p ≤ 1000000) (xs : List Int) (hx : 1 ≤ xs.length) : ∃ v, spec_reader_one.f k l p xs = some (v, p + 1) ∧ v ∈ xs := by
  unfold spec_reader_one.f
  obtain ⟨v, e, h0, h1⟩ := p_pick h k hk hp hp' (n := (xs.length : Int)) (by omega)
  rw [e, Option.bind_some]
  dsimp only
  rw [if_pos h0, if_pos h1]
  exact ⟨_, rfl, rd_mem h0 h1⟩
theorem p_of {l : List Int} (h : Rdr l) (k : Nat) (hk : 1 ≤ k) {p : Int} (hp : 0 ≤ p) (hp' : p ≤ 1000000) (xs : List ByteArray) (hx : 1 ≤ xs.length) : ∃ v, spec_reader_of.f k l p xs = some (v, p + 1) ∧ v ∈ xs := by
  unfold spec_reader_of.f
  obtain ⟨v, e, h0, h1⟩ := p_pick h k hk hp hp' (n := (xs.length : Int)) (by omega)
  rw [e, Option.bind_some]
  dsimp only
  rw [if_pos h0, if_pos h1]
  refine ⟨_, rfl, ?_⟩
  unfold rdOf
  rw [List.getD_eq_getElem?_getD, List.getElem?_eq_getElem (by omega)]
  exact List.getElem_mem _
theorem p_newReader (l : List Int) (hb : ∀ x ∈ l, (Lit.int .u8 x).wf = true) : ∃ m, spec_newReader.f l = some (m, 0) ∧ Rdr m := by
  have hb' : ∀ x ∈ l, 0 ≤ x ∧ x ≤ 255 := by
    intro x hx
    have := hb x hx
    simp [Lit.wf, IntKind.min, IntKind.max, IntKind.signed, IntKind.bits] at this
    omega
  unfold spec_newReader.f
  by_cases h : (l.length : Int) > 2000
  · rw [if_pos h, if_pos (by omega)]
    exact ⟨_, rfl, by rw [List.length_take]; omega, fun x hx => hb' x (List.mem_of_mem_take hx)⟩
  · rw [if_neg h]
    exact ⟨_, rfl, by omega, hb'⟩
end Go.Proofs.Ytfcpbgedgedalaa.Pure

namespace Go.Proofs.Ytfcpbgedgedalaa.Pure
open Go.RowKit Go.Proofs.Ytfcpbgedgedalaa.Q Go.Proofs.YtfcpbgedgedalaaL.PrintWords Go.Proofs.YtfcpbgedgedalaaL.PrintLast Go.Proofs.YtfcpbgedgedalaaL.PrintMore
set_option linter.unusedVariables false
set_option linter.unusedSimpArgs false
theorem p_aNumber {l : List Int} (h : Rdr l) (k : Nat) (hk : 1 ≤ k) {p : Int} (hp : 0 ≤ p) (hp' : p ≤ 1000000) : ∃ v, spec_aNumber.f k l p = some (v, p + 1) ∧ val v = true := by
  unfold spec_aNumber.f
  obtain ⟨v, e, hv⟩ := p_one h k hk hp hp' ([1, 2, 3, 0, 5, (-1), 7, 99, (-99)]) (by decide)
  rw [e, Option.bind_some]
  refine ⟨v, rfl, ?_⟩
  simp only [List.mem_cons, List.not_mem_nil, or_false] at hv
  rcases hv with rfl | rfl | rfl | rfl | rfl | rfl | rfl | rfl | rfl <;> rfl
end Go.Proofs.Ytfcpbgedgedalaa.Pure

namespace Go.Proofs.Ytfcpbgedgedalaa.Pure
open Go.RowKit Go.Proofs.Ytfcpbgedgedalaa.Q Go.Proofs.YtfcpbgedgedalaaL.PrintWords Go.Proofs.YtfcpbgedgedalaaL.PrintLast Go.Proofs.YtfcpbgedgedalaaL.PrintMore
set_option linter.unusedVariables false
set_option linter.unusedSimpArgs false
theorem p_anyNumber {l : List Int} (h : Rdr l) (k : Nat) (hk : 1 ≤ k) {p : Int} (hp : 0 ≤ p) (hp' : p ≤ 999999) : ∃ v, spec_anyNumber.f k l p = some (v, p + 2) ∧ -100 ≤ v ∧ v ≤ 100 := by
  unfold spec_anyNumber.f
  obtain ⟨v, e, _, _⟩ := p_pick h k hk hp (by omega) (n := 16) (by omega)
  have e2 : p + 1 + 1 = p + 2 := by omega
  rw [e, Option.bind_some]
  dsimp only
  split
  · obtain ⟨v, e, hv⟩ := p_one h k hk (p := p + 1) (by omega) (by omega) ([100, (-100)]) (by decide)
    rw [e, Option.bind_some, e2]
    refine ⟨v, rfl, ?_⟩
    simp only [List.mem_cons, List.not_mem_nil, or_false] at hv
    omega
  · obtain ⟨v, e, hv⟩ := p_aNumber h k hk (p := p + 1) (by omega) (by omega)
    rw [e, Option.bind_some, e2]
    refine ⟨v, rfl, ?_⟩
    unfold val at hv
    simp at hv
    omega
end Go.Proofs.Ytfcpbgedgedalaa.Pure

namespace Go.Proofs.Ytfcpbgedgedalaa.Pure
open Go.RowKit Go.Proofs.Ytfcpbgedgedalaa.Q Go.Proofs.YtfcpbgedgedalaaL.PrintWords Go.Proofs.YtfcpbgedgedalaaL.PrintLast Go.Proofs.YtfcpbgedgedalaaL.PrintMore
set_option linter.unusedVariables false
set_option linter.unusedSimpArgs false
theorem range_all {α : Type} (l : List α) (d : α) (p : α → Bool) : ((List.range l.length).all fun i => p (l.getD i d)) = l.all p := by
  rw [Bool.eq_iff_iff, List.all_eq_true, List.all_eq_true]
  constructor
  · intro h x hx
    obtain ⟨i, hi, rfl⟩ := List.mem_iff_getElem.1 hx
    have := h i (List.mem_range.2 hi)
    rwa [List.getD_eq_getElem?_getD, List.getElem?_eq_getElem hi] at this
  · intro h i hi
    have hi' := List.mem_range.1 hi
    rw [List.getD_eq_getElem?_getD, List.getElem?_eq_getElem hi']
    exact h _ (List.getElem_mem _)
theorem getD_mem {α : Type} (l : List α) (d : α) (i : Nat) (h : i < l.length) : l.getD i d ∈ l := by
  rw [List.getD_eq_getElem?_getD, List.getElem?_eq_getElem h]
  exact List.getElem_mem _
theorem rd_nat (l : List Int) (i : Nat) : rd l (i : Int) = l.getD i 0 := by
  unfold Go.Proofs.YtfcpbgedgedalaaL.PrintWords.rd
  rw [Int.toNat_natCast]
theorem rdOf_nat {α : Type} (d : α) (l : List α) (i : Nat) : rdOf d l (i : Int) = l.getD i d := by
  unfold rdOf
  rw [Int.toNat_natCast]
/-- A loop that looks for the first one. -/
theorem loop_find {α : Type} (F : Nat → Int → Option Int) (l : List α) (d : α) (p : α → Bool) (B : Nat) (hn : l.length ≤ 9223372036854775807)
    (hstep : ∀ k i, B ≤ k → i < l.length → F (k + 1) (i : Int) = if p (l.getD i d) = true then some (i : Int) else F k (wrap64 ((i : Int) + 1))) (hend : ∀ k, B ≤ k → F (k + 1) (l.length : Int) = some (-1)) :
    ∀ e k i, i + e = l.length → B + e < k → (∀ j, j < i → p (l.getD j d) = false) → F k (i : Int) = some (pxIdx p l) := by
  intro e
  induction e with
  | zero =>
    intro k i h hk hm
    obtain ⟨k, rfl⟩ : ∃ m, k = m + 1 := ⟨k - 1, by omega⟩
    obtain rfl : i = l.length := by omega
    rw [hend k (by omega), pxIdx_miss p l d hm]
  | succ e ih =>
    intro k i h hk hm
    obtain ⟨k, rfl⟩ : ∃ m, k = m + 1 := ⟨k - 1, by omega⟩
    rw [hstep k i (by omega) (by omega)]
    cases hq : p (l.getD i d) with
    | true => rw [if_pos rfl, pxIdx_hit p l d i (by omega) hq hm]
    | false =>
      rw [if_neg (by simp), wrap_succ (n := l.length) (by omega) hn]
      refine ih k (i + 1) (by omega) (by omega) (fun j hj => ?_)
      by_cases e : j = i
      · rw [e]; exact hq
      · exact hm j (by omega)
theorem loop_find0 {α : Type} (F : Nat → Int → Option Int) (l : List α) (d : α) (p : α → Bool) (B k : Nat) (hn : l.length ≤ 9223372036854775807)
    (hstep : ∀ k i, B ≤ k → i < l.length → F (k + 1) (i : Int) = if p (l.getD i d) = true then some (i : Int) else F k (wrap64 ((i : Int) + 1))) (hend : ∀ k, B ≤ k → F (k + 1) (l.length : Int) = some (-1))
    (hk : B + l.length < k) : F k 0 = some (pxIdx p l) :=
  loop_find F l d p B hn hstep hend l.length k 0 (by omega) hk (fun j hj => absurd hj (Nat.not_lt_zero _))
theorem pxIdx_range {α : Type} (p : α → Bool) (l : List α) : pxIdx p l = -1 ∨ ∃ i : Nat, i < l.length ∧ pxIdx p l = (i : Int) := by
  unfold pxIdx
  cases h : l.findIdx? p with
  | none => exact .inl rfl
  | some i =>
    rw [List.findIdx?_eq_some_iff_getElem] at h
    exact .inr ⟨i, h.1, rfl⟩
end Go.Proofs.Ytfcpbgedgedalaa.Pure

namespace Go.Proofs.Ytfcpbgedgedalaa.Pure
open Go.RowKit Go.Proofs.Ytfcpbgedgedalaa.Q Go.Proofs.YtfcpbgedgedalaaL.PrintWords Go.Proofs.YtfcpbgedgedalaaL.PrintLast Go.Proofs.YtfcpbgedgedalaaL.PrintMore
set_option linter.unusedVariables false
set_option linter.unusedSimpArgs false
abbrev PR := S33
abbrev pz : PR := z33
theorem rdp (l : List PR) (i : Nat) : rd_T33 l (i : Int) = l.getD i pz := by
  unfold rd_T33
  rw [Int.toNat_natCast]
theorem p_validNumbers (l : List Int) (hl : l.length ≤ 2000000) (k : Nat) (hk : 3000000 ≤ k) : spec_validNumbers.f k l = some (l.all val) := by
  unfold spec_validNumbers.f
  rw [← range_all l 0 val, ← Bool.and_true (List.all _ _)]
  refine loop_all0 (fun k i => spec_validNumbers.l0 k l i) _ _ l.length 0 k (by omega) (fun k i _ hi => ?_) (fun k _ => ?_) (by omega)
  · simp only [spec_validNumbers.l0]
    rw [if_pos (by omega), if_pos (by omega), p_validNumber, Option.bind_some, rd_nat]
  · simp only [spec_validNumbers.l0]
    rw [if_neg (by omega)]
theorem p_areValues (l : List Int) : impl_areValues.f l = some (l.all val) := by
  unfold impl_areValues.f
  rw [Option.some.injEq, List.not_any_eq_all_not]
  simp only [Bool.not_not]
  rfl
theorem p_specPairAt (l : List PR) (s : ByteArray) (hl : l.length ≤ 2000000) (k : Nat) (hk : 3000000 ≤ k) : spec_pairAt.f k l s = some (pxIdx (fun x : PR => x.f0.toList == s.toList) l) := by
  unfold spec_pairAt.f
  refine loop_find0 (fun k i => spec_pairAt.l0 k l s i) l pz _ 0 k (by omega) (fun k i _ hi => ?_) (fun k _ => ?_) (by omega)
  · simp only [spec_pairAt.l0]
    rw [if_pos (by omega), if_pos (by omega), rdp]
    simp only [beq_iff_eq]
  · simp only [spec_pairAt.l0]
    rw [if_neg (by omega)]
/-- What a pair must be. -/
def pairOk (x : PR) : Bool := pxName x.f0 && val x.f1
def freshAt (l : List PR) (i : Nat) : Bool := !((l.take i).any fun x => x.f0.toList == (l.getD i pz).f0.toList)
def vflat (ps : List Int) (l : List PR) : Bool := (List.range l.length).all (freshAt l) && (ps.all val && l.all pairOk && decide (ps.length ≤ 8) && decide (l.length ≤ 8))
theorem p_validPairs (l : List PR) (hl : l.length ≤ 2000000) (hs : ∀ x ∈ l, x.f0.size ≤ 2000000) (k : Nat) (hk : 6000000 ≤ k) : spec_validPairs.f k l = some (l.all pairOk) := by
  unfold spec_validPairs.f
  rw [← range_all l pz pairOk, ← Bool.and_true (List.all _ _)]
  refine loop_all0 (fun k i => spec_validPairs.l0 k l i) _ _ l.length 3000000 k (by omega) (fun k i hk hi => ?_) (fun k _ => ?_) (by omega)
  · simp only [spec_validPairs.l0]
    have hsz := hs _ (getD_mem l pz i hi)
    rw [if_pos (by omega), if_pos (by omega), rdp, p_validName _ (by omega) k (by omega), Option.bind_some, p_validNumber, Option.bind_some]
    unfold pairOk
    cases pxName (l.getD i pz).f0 <;> cases val (l.getD i pz).f1 <;> simp
  · simp only [spec_validPairs.l0]
    rw [if_neg (by omega)]
theorem freshAt_idx (l : List PR) (i : Nat) : freshAt l i = !decide (pxIdx (fun x : PR => x.f0.toList == (l.getD i pz).f0.toList) (l.take i) ≥ 0) := by
  rw [pxIdx_any]; rfl
theorem int_le8 (n : Nat) : decide ((n : Int) ≤ 8) = decide (n ≤ 8) := by
  rw [decide_eq_decide]; omega
theorem p_specFlat (ps : List Int) (l : List PR) (hp : ps.length ≤ 2000000) (hl : l.length ≤ 2000000) (hs : ∀ x ∈ l, x.f0.size ≤ 2000000) (k : Nat) (hk : 9000000 ≤ k) : spec_validFlat.f k ps l = some (vflat ps l) := by
  unfold spec_validFlat.f vflat
  refine loop_all0 (fun k i => spec_validFlat.l0 k i ps l) _ _ l.length 6000000 k (by omega) (fun k i hk hi => ?_) (fun k hk => ?_) (by omega)
  · simp only [spec_validFlat.l0]
    rw [if_pos (by omega), if_pos (by omega), if_pos (by omega), Int.toNat_natCast, rdp, p_specPairAt _ _ (by rw [List.length_take]; omega) k (by omega), Option.bind_some, freshAt_idx]
    generalize pxIdx (fun x : PR => x.f0.toList == (l.getD i pz).f0.toList) (l.take i) = q
    by_cases h : q ≥ 0
    · rw [if_pos h, if_neg (by simp [h])]
    · rw [if_neg h, if_pos (by simp [h])]
  · simp only [spec_validFlat.l0]
    rw [if_neg (by omega), p_validNumbers ps hp k (by omega), Option.bind_some, p_validPairs l hl hs k hk, Option.bind_some, int_le8]
    cases ps.all val <;> cases l.all pairOk <;> by_cases h : ps.length ≤ 8 <;> simp [h] <;> omega
theorem p_pairValid (s : ByteArray) (v : Int) (hs : s.size ≤ 2000000) (k : Nat) (hk : 3000000 ≤ k) : impl_Pair_valid.f k s v = some (pxName s && val v) := by
  unfold impl_Pair_valid.f
  rw [p_isName s (by omega) k (by omega), Option.bind_some, p_isValue, Option.bind_some]
  cases pxName s <;> simp
theorem and_range (n : Nat) (p q : Nat → Bool) : ((List.range n).all fun i => p i && q i) = ((List.range n).all p && (List.range n).all q) := by
  induction n with
  | zero => rfl
  | succ n ih =>
    simp only [List.range_succ, List.all_append, List.all_cons, List.all_nil, ih]
    cases (List.range n).all p <;> cases (List.range n).all q <;> cases p n <;> cases q n <;> rfl
theorem p_implFlat (ps : List Int) (l : List PR) (hl : l.length ≤ 2000000) (hs : ∀ x ∈ l, x.f0.size ≤ 2000000) (k : Nat) (hk : 9000000 ≤ k) : impl_ValidFlat.f k ps l = some (vflat ps l) := by
  unfold impl_ValidFlat.f
  have e : vflat ps l = (((List.range l.length).all fun i => pairOk (l.getD i pz) && freshAt l i) && (decide (ps.length ≤ 8) && decide (l.length ≤ 8) && ps.all val)) := by
    rw [and_range, range_all l pz pairOk]
    unfold vflat
    cases (List.range l.length).all (freshAt l) <;> cases ps.all val <;> cases l.all pairOk <;> cases decide (ps.length ≤ 8) <;> cases decide (l.length ≤ 8) <;> rfl
  rw [e]
  refine loop_all0 (fun k i => impl_ValidFlat.l0 k l (l.length : Int) i ps l) _ _ l.length 6000000 k (by omega) (fun k i hk hi => ?_) (fun k hk => ?_) (by omega)
  · simp only [impl_ValidFlat.l0]
    have hsz := hs _ (getD_mem l pz i hi)
    rw [if_pos (by omega), if_pos (by omega), if_pos (by omega), rdp, p_pairValid _ _ hsz k (by omega), Option.bind_some, if_pos (show (i : Int) ≤ (l.length : Int) by omega), Int.toNat_natCast]
    unfold impl_pairAt.f
    rw [Option.bind_some, freshAt_idx]
    unfold pairOk
    cases pxName (l.getD i pz).f0 && val (l.getD i pz).f1 with
    | false => simp
    | true =>
      generalize pxIdx (fun x : PR => x.f0.toList == (l.getD i pz).f0.toList) (l.take i) = q
      by_cases h : q ≥ 0
      · simp [h]
      · simp [h]
  · simp only [impl_ValidFlat.l0]
    rw [if_neg (by omega), p_areValues, Option.bind_some]
    by_cases h1 : ps.length ≤ 8
    · rw [if_pos (by omega)]
      by_cases h2 : l.length ≤ 8
      · rw [if_pos (by omega)]
        simp [h1, h2]
      · rw [if_neg (by omega)]
        simp [h2]
    · rw [if_neg (by omega)]
      simp [h1]
end Go.Proofs.Ytfcpbgedgedalaa.Pure

namespace Go.Proofs.Ytfcpbgedgedalaa.Pure
open Go.RowKit Go.Proofs.Ytfcpbgedgedalaa.Q Go.Proofs.YtfcpbgedgedalaaL.PrintWords Go.Proofs.YtfcpbgedgedalaaL.PrintLast Go.Proofs.YtfcpbgedgedalaaL.PrintMore
set_option linter.unusedVariables false
set_option linter.unusedSimpArgs false
theorem p_eqInts_self (l : List Int) (hl : l.length ≤ 2000000) (k : Nat) (hk : 3000000 ≤ k) : laws_equalInts.f k l l = some true := by
  unfold laws_equalInts.f
  rw [if_pos rfl]
  have := loop_all0 (fun k i => laws_equalInts.l0 k l l i) (fun _ => true) true l.length 0 k (by omega) (fun k i _ hi => by
    simp only [laws_equalInts.l0]
    rw [if_pos (by omega), if_pos (by omega), if_pos (by omega)]
    try simp) (fun k _ => by
    simp only [laws_equalInts.l0]
    rw [if_neg (by omega)]) (by omega)
  rw [this]
  simp
theorem p_eqPairs_self (l : List PR) (hl : l.length ≤ 2000000) (k : Nat) (hk : 3000000 ≤ k) : laws_equalPairs.f k l l = some true := by
  unfold laws_equalPairs.f
  rw [if_pos rfl]
  have := loop_all0 (fun k i => laws_equalPairs.l0 k l l i) (fun _ => true) true l.length 0 k (by omega) (fun k i _ hi => by
    simp only [laws_equalPairs.l0]
    rw [if_pos (by omega), if_pos (by omega), if_pos (by omega)]
    try simp) (fun k _ => by
    simp only [laws_equalPairs.l0]
    rw [if_neg (by omega)]) (by omega)
  rw [this]
  simp
theorem p_eqFlat_self (ps : List Int) (l : List PR) (hp : ps.length ≤ 2000000) (hl : l.length ≤ 2000000) (k : Nat) (hk : 3000000 ≤ k) : laws_equalFlat.f k ps l ps l = some true := by
  unfold laws_equalFlat.f
  rw [p_eqInts_self ps hp k hk, Option.bind_some, if_pos rfl, p_eqPairs_self l hl k hk]
  rfl
end Go.Proofs.Ytfcpbgedgedalaa.Pure

namespace Go.Proofs.Ytfcpbgedgedalaa.Pure
open Go.RowKit Go.Proofs.Ytfcpbgedgedalaa.Q Go.Proofs.YtfcpbgedgedalaaL.PrintWords Go.Proofs.YtfcpbgedgedalaaL.PrintLast Go.Proofs.YtfcpbgedgedalaaL.PrintMore
set_option linter.unusedVariables false
set_option linter.unusedSimpArgs false
def SmallF (l : List PR) : Prop := ∀ x ∈ l, x.f0.size ≤ 2000000
theorem p_copyOf (ps : List Int) (l : List PR) (hp : ps.length ≤ 2000000) (hl : l.length ≤ 2000000) : impl_Flat_copyOf.f ps l = some (ps, l) := by
  unfold impl_Flat_copyOf.f impl_clone_int.f impl_Pair_63.f
  rw [if_pos (by omega), if_pos (by omega)]
  rfl
theorem p_checked (ps : List Int) (l : List PR) (b : Bool) (hp : ps.length ≤ 2000000) (hl : l.length ≤ 2000000) (hs : SmallF l) (k : Nat) (hk : 9000000 ≤ k) :
    impl_checked.f k ps l b = some (if (b && vflat ps l) = true then (ps, l, true) else ([], [], false)) := by
  unfold impl_checked.f
  cases b with
  | false => rfl
  | true =>
    rw [if_pos rfl, p_implFlat ps l hl hs k hk, Option.bind_some, p_copyOf ps l hp hl, Option.bind_some, Bool.true_and]
    split <;> rfl
theorem p_copyFlat (ps : List Int) (l : List PR) (hp : ps.length ≤ 2000000) (hl : l.length ≤ 2000000) : spec_copyFlat.f ps l = some (ps, l) := by
  unfold spec_copyFlat.f
  simp only [Option.bind_some, List.nil_append, List.length_nil]
  rw [if_pos (by omega), if_pos (by omega)]
theorem p_checkedFlat (ps : List Int) (l : List PR) (hp : ps.length ≤ 2000000) (hl : l.length ≤ 2000000) (hs : SmallF l) (k : Nat) (hk : 9000000 ≤ k) :
    spec_checkedFlat.f k ps l = some (if vflat ps l = true then (ps, l, true) else ([], [], false)) := by
  unfold spec_checkedFlat.f
  rw [p_specFlat ps l hp hl hs k hk, Option.bind_some]
  split <;> rfl
end Go.Proofs.Ytfcpbgedgedalaa.Pure

namespace Go.Proofs.Ytfcpbgedgedalaa.Pure
open Go.RowKit Go.Proofs.Ytfcpbgedgedalaa.Q Go.Proofs.YtfcpbgedgedalaaL.PrintWords Go.Proofs.YtfcpbgedgedalaaL.PrintLast Go.Proofs.YtfcpbgedgedalaaL.PrintMore
set_option linter.unusedVariables false
set_option linter.unusedSimpArgs false
structure OkF (ps : List Int) (l : List PR) : Prop where
  nums : ps.all val = true
  ok : ∀ x ∈ l, pairOk x = true
  names : (l.map (·.f0)).Nodup
  len1 : ps.length ≤ 8
  len2 : l.length ≤ 8
theorem okF_iff (ps : List Int) (l : List PR) : vflat ps l = true ↔ OkF ps l := by
  unfold vflat
  simp only [Bool.and_eq_true, decide_eq_true_eq]
  constructor
  · rintro ⟨hf, ⟨⟨h1, h2⟩, h3⟩, h4⟩
    refine ⟨h1, fun x hx => List.all_eq_true.1 h2 x hx, ?_, h3, h4⟩
    rw [List.all_eq_true] at hf
    rw [List.Nodup, List.pairwise_map, List.pairwise_iff_getElem]
    intro i j hi hj hij
    have := hf j (List.mem_range.2 hj)
    unfold freshAt at this
    have e : l.getD j pz = l[j] := by rw [List.getD_eq_getElem?_getD, List.getElem?_eq_getElem hj]; rfl
    rw [e] at this
    simp only [Bool.not_eq_true', List.any_eq_false, beq_iff_eq, bt_eqv] at this
    exact this l[i] (List.mem_take_iff_getElem.2 ⟨i, by omega, rfl⟩)
  · intro h
    refine ⟨?_, ⟨⟨h.nums, List.all_eq_true.2 h.ok⟩, h.len1⟩, h.len2⟩
    rw [List.all_eq_true]
    intro j hj
    have hj := List.mem_range.1 hj
    unfold freshAt
    have e : l.getD j pz = l[j] := by rw [List.getD_eq_getElem?_getD, List.getElem?_eq_getElem hj]; rfl
    rw [e]
    simp only [Bool.not_eq_true', List.any_eq_false, beq_iff_eq, bt_eqv]
    intro x hx
    obtain ⟨i, hi, rfl⟩ := List.mem_take_iff_getElem.1 hx
    have hf := h.names
    rw [List.Nodup, List.pairwise_map, List.pairwise_iff_getElem] at hf
    exact hf i j (by omega) hj (by omega)
end Go.Proofs.Ytfcpbgedgedalaa.Pure

namespace Go.Proofs.Ytfcpbgedgedalaa.Pure
open Go.RowKit Go.Proofs.Ytfcpbgedgedalaa.Q Go.Proofs.YtfcpbgedgedalaaL.PrintWords Go.Proofs.YtfcpbgedgedalaaL.PrintLast Go.Proofs.YtfcpbgedgedalaaL.PrintMore
set_option linter.unusedVariables false
set_option linter.unusedSimpArgs false
theorem p_aName {l : List Int} (h : Rdr l) (k : Nat) (hk : 1 ≤ k) {p : Int} (hp : 0 ≤ p) (hp' : p ≤ 1000000) : ∃ s, spec_aName.f k l p = some (s, p + 1) ∧ s.size = 1 ∧ pxName s = true := by
  unfold spec_aName.f
  obtain ⟨v, e, hv⟩ := p_of h k hk hp hp' ([(⟨#[97]⟩ : ByteArray), (⟨#[98]⟩ : ByteArray), (⟨#[99]⟩ : ByteArray), (⟨#[100]⟩ : ByteArray), (⟨#[120]⟩ : ByteArray), (⟨#[121]⟩ : ByteArray), (⟨#[97]⟩ : ByteArray), (⟨#[98]⟩ : ByteArray), (⟨#[99]⟩ : ByteArray)]) (by decide)
  rw [e, Option.bind_some]
  refine ⟨v, rfl, ?_⟩
  simp only [List.mem_cons, List.not_mem_nil, or_false] at hv
  rcases hv with rfl | rfl | rfl | rfl | rfl | rfl | rfl | rfl | rfl <;> exact ⟨rfl, by decide⟩
theorem p_anyName {l : List Int} (h : Rdr l) (k : Nat) (hk : 1 ≤ k) {p : Int} (hp : 0 ≤ p) (hp' : p ≤ 999999) : ∃ s, spec_anyName.f k l p = some (s, p + 2) ∧ s.size ≤ 7 := by
  unfold spec_anyName.f
  obtain ⟨v, e, _, _⟩ := p_pick h k hk hp (by omega) (n := 16) (by omega)
  rw [e, Option.bind_some]
  dsimp only
  have e2 : p + 1 + 1 = p + 2 := by omega
  split
  · obtain ⟨v, e, hv⟩ := p_of h k hk (p := p + 1) (by omega) (by omega) ([(⟨#[]⟩ : ByteArray), (⟨#[65]⟩ : ByteArray), (⟨#[116, 111, 111, 108, 111, 110, 103]⟩ : ByteArray), (⟨#[97, 49]⟩ : ByteArray), (⟨#[97, 98, 99, 100, 101, 102]⟩ : ByteArray)]) (by decide)
    rw [e, Option.bind_some, e2]
    refine ⟨v, rfl, ?_⟩
    simp only [List.mem_cons, List.not_mem_nil, or_false] at hv
    rcases hv with rfl | rfl | rfl | rfl | rfl <;> decide
  · obtain ⟨v, e, h1, _⟩ := p_aName h k hk (p := p + 1) (by omega) (by omega)
    rw [e, Option.bind_some, e2]
    exact ⟨v, rfl, by omega⟩
end Go.Proofs.Ytfcpbgedgedalaa.Pure

namespace Go.Proofs.Ytfcpbgedgedalaa.Pure
open Go.RowKit Go.Proofs.Ytfcpbgedgedalaa.Q Go.Proofs.YtfcpbgedgedalaaL.PrintWords Go.Proofs.YtfcpbgedgedalaaL.PrintLast Go.Proofs.YtfcpbgedgedalaaL.PrintMore
set_option linter.unusedVariables false
set_option linter.unusedSimpArgs false
def putP (l : List PR) (x : PR) : List PR := if pxIdx (fun y : PR => y.f0.toList == x.f0.toList) l ≥ 0 then l.set (pxIdx (fun y : PR => y.f0.toList == x.f0.toList) l).toNat x else l ++ [x]
theorem p_putPair (l : List PR) (s : ByteArray) (v : Int) (hl : l.length ≤ 2000000) (k : Nat) (hk : 3000000 ≤ k) : spec_putPair.f k l s v = some (putP l ⟨s, v⟩) := by
  unfold spec_putPair.f putP
  rw [Option.bind_some, if_pos (by simp; omega), Option.bind_some, List.nil_append, p_specPairAt l s hl k hk, Option.bind_some]
  dsimp only
  rcases pxIdx_range (fun x : PR => x.f0.toList == s.toList) l with e | ⟨i, hi, e⟩
  · rw [e, if_neg (by omega), if_pos (by omega), if_neg (by omega)]
  · rw [e, if_pos (by omega), if_pos (by omega), if_pos (by omega), if_pos (by omega)]
theorem putP_len (l : List PR) (x : PR) : (putP l x).length ≤ l.length + 1 := by
  unfold putP
  split
  · rw [List.length_set]; omega
  · rw [List.length_append]; simp
theorem putP_mem (l : List PR) (x y : PR) (h : y ∈ putP l x) : y = x ∨ y ∈ l := by
  unfold putP at h
  split at h
  · rcases List.mem_or_eq_of_mem_set h with h | h
    · exact .inr h
    · exact .inl h
  · simp at h
    rcases h with h | h
    · exact .inr h
    · exact .inl h
end Go.Proofs.Ytfcpbgedgedalaa.Pure

namespace Go.Proofs.Ytfcpbgedgedalaa.Pure
open Go.RowKit Go.Proofs.Ytfcpbgedgedalaa.Q Go.Proofs.YtfcpbgedgedalaaL.PrintWords Go.Proofs.YtfcpbgedgedalaaL.PrintLast Go.Proofs.YtfcpbgedgedalaaL.PrintMore
set_option linter.unusedVariables false
set_option linter.unusedSimpArgs false
theorem goodFlat_l1 {r : List Int} (h : Rdr r) (ps : List Int) : ∀ (n k : Nat) (p : Int) (l : List PR), 3000000 + n < k → 0 ≤ p → p + 2 * n ≤ 900000 → l.length + n ≤ 1000 → (∀ x ∈ l, x.f0.size ≤ 7) →
    ∃ l' p', spec_goodFlat.l1 k (n : Int) r p ps l = some (ps, l', p') ∧ p ≤ p' ∧ p' ≤ p + 2 * n ∧ l'.length ≤ l.length + n ∧ ∀ x ∈ l', x.f0.size ≤ 7 := by
  intro n
  induction n with
  | zero =>
    intro k p l hk hp hp' hl hs
    obtain ⟨k, rfl⟩ : ∃ m, k = m + 1 := ⟨k - 1, by omega⟩
    simp only [spec_goodFlat.l1]
    rw [if_neg (by omega)]
    exact ⟨l, p, rfl, by omega, by omega, by omega, hs⟩
  | succ n ih =>
    intro k p l hk hp hp' hl hs
    obtain ⟨k, rfl⟩ : ∃ m, k = m + 1 := ⟨k - 1, by omega⟩
    simp only [spec_goodFlat.l1]
    rw [if_pos (by omega)]
    obtain ⟨s, e, h1, _⟩ := p_aName h k (by omega) hp (by omega)
    rw [e, Option.bind_some]
    dsimp only
    obtain ⟨v, e, h2⟩ := p_aNumber h k (by omega) (p := p + 1) (by omega) (by omega)
    rw [e, Option.bind_some]
    dsimp only
    rw [p_putPair l s v (by omega) k (by omega), Option.bind_some]
    have w : wrap64 (((n + 1 : Nat) : Int) - 1) = (n : Int) := by rw [wrap_in (by omega) (by omega)]; omega
    rw [w]
    have hlen := putP_len l ⟨s, v⟩
    obtain ⟨l', p', e, h3, h4, h5, h6⟩ := ih k (p + 1 + 1) (putP l ⟨s, v⟩) (by omega) (by omega) (by omega) (by omega) (fun x hx => by
      rcases putP_mem l _ x hx with rfl | hx
      · show s.size ≤ 7
        omega
      · exact hs x hx)
    exact ⟨l', p', e, by omega, by omega, by omega, h6⟩
theorem goodFlat_l0 {r : List Int} (h : Rdr r) : ∀ (n k : Nat) (p : Int) (ps : List Int) (l : List PR), 4000000 + n < k → 0 ≤ p → p + n ≤ 800000 → ps.length + n ≤ 1000 → l.length ≤ 500 → (∀ x ∈ l, x.f0.size ≤ 7) →
    ∃ ps' l' p', spec_goodFlat.l0 k (n : Int) r p ps l = some (ps', l', p') ∧ p ≤ p' ∧ p' ≤ p + n + 10 ∧ ps'.length ≤ ps.length + n ∧ l'.length ≤ l.length + 3 ∧ ∀ x ∈ l', x.f0.size ≤ 7 := by
  intro n
  induction n with
  | zero =>
    intro k p ps l hk hp hp' hps hl hs
    obtain ⟨k, rfl⟩ : ∃ m, k = m + 1 := ⟨k - 1, by omega⟩
    simp only [spec_goodFlat.l0]
    rw [if_neg (by omega)]
    obtain ⟨v, e, hv⟩ := p_one h k (by omega) hp (by omega) ([1, 2, 0, 3, 0]) (by decide)
    rw [e, Option.bind_some]
    dsimp only
    obtain ⟨n, rfl, hn⟩ : ∃ n : Nat, v = (n : Int) ∧ n ≤ 3 := by
      simp only [List.mem_cons, List.not_mem_nil, or_false] at hv
      exact ⟨v.toNat, by omega, by omega⟩
    obtain ⟨l', p', e, h3, h4, h5, h6⟩ := goodFlat_l1 h ps n k (p + 1) l (by omega) (by omega) (by omega) (by omega) hs
    exact ⟨ps, l', p', e, by omega, by omega, by omega, by omega, h6⟩
  | succ n ih =>
    intro k p ps l hk hp hp' hps hl hs
    obtain ⟨k, rfl⟩ : ∃ m, k = m + 1 := ⟨k - 1, by omega⟩
    simp only [spec_goodFlat.l0]
    rw [if_pos (by omega)]
    obtain ⟨v, e, h2⟩ := p_aNumber h k (by omega) hp (by omega)
    rw [e, Option.bind_some]
    dsimp only
    rw [if_pos (by omega)]
    have w : wrap64 (((n + 1 : Nat) : Int) - 1) = (n : Int) := by rw [wrap_in (by omega) (by omega)]; omega
    rw [w]
    obtain ⟨ps', l', p', e, h3, h4, h5, h6⟩ := ih k (p + 1) (ps ++ [v]) l (by omega) (by omega) (by omega) (by simp; omega) hl hs
    simp at h5
    exact ⟨ps', l', p', e, by omega, by omega, by omega, h6⟩
theorem p_goodFlat {r : List Int} (h : Rdr r) (k : Nat) (hk : 5000000 ≤ k) {p : Int} (hp : 0 ≤ p) (hp' : p ≤ 700000) : ∃ ps l p', spec_goodFlat.f k r p = some (ps, l, p') ∧ p ≤ p' ∧ p' ≤ p + 30 ∧ ps.length ≤ 8 ∧ l.length ≤ 3 ∧ ∀ x ∈ l, x.f0.size ≤ 7 := by
  unfold spec_goodFlat.f
  obtain ⟨v, e, hv⟩ := p_one h k (by omega) hp (by omega) ([2, 1, 3, 0, 4, 8]) (by decide)
  rw [e, Option.bind_some]
  dsimp only
  obtain ⟨n, rfl, hn⟩ : ∃ n : Nat, v = (n : Int) ∧ n ≤ 8 := by
    simp only [List.mem_cons, List.not_mem_nil, or_false] at hv
    exact ⟨v.toNat, by omega, by omega⟩
  obtain ⟨ps, l, p', e, h3, h4, h5, h6, h7⟩ := goodFlat_l0 h n k (p + 1) [] [] (by omega) (by omega) (by omega) (by simp; omega) (by simp) (by simp)
  exact ⟨ps, l, p', e, by omega, by omega, by simpa using (show ps.length ≤ 8 by simp at h5; omega), by simpa using h6, h7⟩
end Go.Proofs.Ytfcpbgedgedalaa.Pure

namespace Go.Proofs.Ytfcpbgedgedalaa.Pure
open Go.RowKit Go.Proofs.Ytfcpbgedgedalaa.Q Go.Proofs.YtfcpbgedgedalaaL.PrintWords Go.Proofs.YtfcpbgedgedalaaL.PrintLast Go.Proofs.YtfcpbgedgedalaaL.PrintMore
set_option linter.unusedVariables false
set_option linter.unusedSimpArgs false
theorem idxP_some {l : List PR} {s : ByteArray} {i : Nat} (e : pxIdx (fun x : PR => x.f0.toList == s.toList) l = (i : Int)) : ∃ h : i < l.length, l[i].f0 = s := by
  unfold pxIdx at e
  cases hf : l.findIdx? (fun x : PR => x.f0.toList == s.toList) with
  | none => rw [hf] at e; simp at e <;> omega
  | some j =>
    rw [hf] at e
    have : j = i := by
      simp only at e
      omega
    subst this
    rw [List.findIdx?_eq_some_iff_getElem] at hf
    obtain ⟨h1, h2, _⟩ := hf
    exact ⟨h1, (bt_eqv _ _).1 (by simpa using h2)⟩
theorem p_implPut (ps : List Int) (ns : List PR) (s : ByteArray) (v : Int) (hp : ps.length ≤ 2000000) (hl : ns.length ≤ 2000000) : impl_Flat_put.f ps ns s v = some (ps, putP ns ⟨s, v⟩) := by
  unfold impl_Flat_put.f putP impl_pairAt.f
  rw [p_copyOf ps ns hp hl, Option.bind_some]
  dsimp only
  rw [Option.bind_some]
  try dsimp only
  rcases pxIdx_range (fun x : PR => x.f0.toList == s.toList) ns with e | ⟨i, hi, e⟩
  · rw [e, if_neg (by omega), if_pos (by omega), if_neg (by omega)]
  · obtain ⟨_, en⟩ := idxP_some e
    rw [e, if_pos (by omega), if_pos (by omega), if_pos (by omega), if_pos (by omega), rdp, Int.toNat_natCast, List.getD_eq_getElem?_getD, List.getElem?_eq_getElem hi, Option.getD_some, en]
theorem putP_nil (x : PR) : putP [] x = [x] := rfl
theorem putP_cons (h : PR) (t : List PR) (x : PR) : putP (h :: t) x = if h.f0 = x.f0 then x :: t else h :: putP t x := by
  unfold putP pxIdx
  rw [List.findIdx?_cons]
  by_cases e : h.f0 = x.f0
  · have e1 : (h.f0.toList == x.f0.toList) = true := by rw [e]; simp
    rw [if_pos e, e1]
    simp
  · have e1 : (h.f0.toList == x.f0.toList) = false := by
      rw [beq_eq_false_iff_ne]
      intro h2
      exact e ((bt_eqv _ _).1 h2)
    rw [if_neg e, e1]
    cases hf : t.findIdx? (fun y : PR => y.f0.toList == x.f0.toList) with
    | none => simp
    | some i =>
      have a1 : ((i : Int) + 1) ≥ 0 := by omega
      have a2 : ((i : Int) + 1).toNat = i + 1 := by omega
      have a3 : (i : Int) ≥ 0 := by omega
      simp [a1, a2, a3]
def nms (l : List PR) : List ByteArray := l.map (·.f0)
theorem putP_mem2 {x y : PR} : ∀ {l : List PR}, (nms l).Nodup → y ∈ putP l x → y = x ∨ (y ∈ l ∧ y.f0 ≠ x.f0)
  | [], _, h => .inl (List.mem_singleton.1 h)
  | z :: t, hn, h => by
    have hn' := List.nodup_cons.1 hn
    rw [putP_cons] at h
    split at h
    · rename_i e
      rcases List.mem_cons.1 h with h | h
      · exact .inl h
      · refine .inr ⟨List.mem_cons_of_mem _ h, fun e2 => hn'.1 ?_⟩
        show z.f0 ∈ t.map (·.f0)
        rw [e, ← e2]
        exact List.mem_map_of_mem h
    · rename_i e
      rcases List.mem_cons.1 h with h | h
      · rw [h]
        exact .inr ⟨List.mem_cons_self .., e⟩
      · rcases putP_mem2 hn'.2 h with h | h
        · exact .inl h
        · exact .inr ⟨List.mem_cons_of_mem _ h.1, h.2⟩
open Classical in
theorem putP_nms (x : PR) : ∀ (l : List PR), nms (putP l x) = if x.f0 ∈ nms l then nms l else nms l ++ [x.f0]
  | [] => by simp [putP_nil, nms]
  | z :: t => by
    rw [putP_cons]
    have ih := putP_nms x t
    by_cases e : z.f0 = x.f0
    · rw [if_pos e]
      simp [nms, e]
    · have e' : ¬ x.f0 = z.f0 := fun h => e h.symm
      rw [if_neg e]
      unfold nms at ih ⊢
      simp only [List.map_cons, List.mem_cons, e', false_or]
      rw [ih]
      split <;> rfl
theorem putP_nodup {l : List PR} {x : PR} (h : (nms l).Nodup) : (nms (putP l x)).Nodup := by
  rw [putP_nms]
  split
  · exact h
  · rename_i hx
    rw [List.nodup_append]
    exact ⟨h, by simp, fun a ha b hb => by
      obtain rfl := List.mem_singleton.1 hb
      intro e
      exact hx (e ▸ ha)⟩
theorem putP_in {l : List PR} {x : PR} {s : ByteArray} : s ∈ nms (putP l x) ↔ s = x.f0 ∨ s ∈ nms l := by
  rw [putP_nms]
  split
  · rename_i h
    constructor
    · exact .inr
    · rintro (rfl | h2)
      · exact h
      · exact h2
  · simp only [List.mem_append, List.mem_singleton]
    exact Or.comm
theorem putP_twice {x y : PR} (e : y.f0 = x.f0) : ∀ (l : List PR), putP (putP l y) x = putP l x
  | [] => by rw [putP_nil, putP_cons, if_pos e, putP_nil]
  | z :: t => by
    rw [putP_cons, putP_cons z t x, e]
    by_cases h : z.f0 = x.f0
    · rw [if_pos h, if_pos h, putP_cons, if_pos e]
    · rw [if_neg h, if_neg h, putP_cons, if_neg h, putP_twice e t]
theorem putP_swap {x z : PR} (e : x.f0 ≠ z.f0) : ∀ (q : List PR), x.f0 ∈ nms q → putP (putP q z) x = putP (putP q x) z
  | [], h => by cases h
  | w :: t, h => by
    rw [putP_cons w t z, putP_cons w t x]
    by_cases h1 : w.f0 = x.f0
    · have h2 : ¬ w.f0 = z.f0 := fun h2 => e (h1.symm.trans h2)
      rw [if_pos h1, if_neg h2, putP_cons, if_pos h1, putP_cons, if_neg e]
    · by_cases h2 : w.f0 = z.f0
      · rw [if_neg h1, if_pos h2, putP_cons, if_neg (fun h3 => e h3.symm), putP_cons, if_pos h2]
      · rw [if_neg h1, if_neg h2, putP_cons, if_neg h1, putP_cons, if_neg h2]
        congr 1
        refine putP_swap e t ?_
        unfold nms at h ⊢
        rcases List.mem_cons.1 h with h | h
        · exact absurd h.symm h1
        · exact h
def overN (l n : List PR) : List PR := n.foldl putP l
theorem overN_cons (l : List PR) (x : PR) (n : List PR) : overN l (x :: n) = overN (putP l x) n := rfl
theorem overN_nodup : ∀ (n : List PR) {l : List PR}, (nms l).Nodup → (nms (overN l n)).Nodup
  | [], _, h => h
  | _ :: n, _, h => overN_nodup n (putP_nodup h)
theorem overN_in {s : ByteArray} : ∀ (n : List PR) {l : List PR}, s ∈ nms (overN l n) ↔ s ∈ nms l ∨ s ∈ nms n
  | [], l => by simp [overN, nms]
  | x :: n, l => by
    rw [overN_cons, overN_in n, putP_in]
    have : s ∈ nms (x :: n) ↔ s = x.f0 ∨ s ∈ nms n := List.mem_cons
    rw [this]
    constructor
    · rintro ((h | h) | h)
      · exact .inr (.inl h)
      · exact .inl h
      · exact .inr (.inr h)
    · rintro (h | h | h)
      · exact .inl (.inr h)
      · exact .inl (.inl h)
      · exact .inr h
theorem overN_mem {y : PR} : ∀ (n : List PR) {l : List PR}, (nms l).Nodup → y ∈ overN l n → y ∈ n ∨ (y ∈ l ∧ y.f0 ∉ nms n)
  | [], _, _, h => .inr ⟨h, by simp [nms]⟩
  | x :: n, l, hn, h => by
    rcases overN_mem n (putP_nodup hn) h with h | ⟨h1, h2⟩
    · exact .inl (List.mem_cons_of_mem _ h)
    · rcases putP_mem2 hn h1 with rfl | ⟨h3, h4⟩
      · exact .inl (List.mem_cons_self ..)
      · refine .inr ⟨h3, fun h5 => ?_⟩
        rcases List.mem_cons.1 (show y.f0 ∈ x.f0 :: nms n from h5) with h5 | h5
        · exact h4 h5
        · exact h2 h5
theorem overN_len : ∀ (n l : List PR), (overN l n).length ≤ l.length + n.length
  | [], l => by simp [overN]
  | x :: n, l => by
    have h1 := overN_len n (putP l x)
    have h2 := putP_len l x
    rw [overN_cons, List.length_cons]
    omega
theorem overN_small {m : Nat} : ∀ (n l : List PR), (∀ x ∈ l, x.f0.size ≤ m) → (∀ x ∈ n, x.f0.size ≤ m) → ∀ x ∈ overN l n, x.f0.size ≤ m
  | [], _, h, _ => h
  | x :: n, l, h, hn => overN_small n (putP l x) (fun y hy => by
      rcases putP_mem _ _ _ hy with rfl | hy
      · exact hn _ (List.mem_cons_self ..)
      · exact h y hy) (fun y hy => hn y (List.mem_cons_of_mem _ hy))
theorem overN_ge {l n : List PR} (hn : (nms n).Nodup) : n.length ≤ (overN l n).length := by
  have h := List.Nodup.length_le_of_subset (l₁ := nms n) (l₂ := nms (overN l n)) hn (fun s hs => (overN_in n).2 (.inr hs))
  unfold nms at h
  rwa [List.length_map, List.length_map] at h
theorem overN_app : ∀ (n l : List PR), (nms (l ++ n)).Nodup → overN l n = l ++ n
  | [], l, _ => by simp [overN]
  | x :: n, l, h => by
    have hp : putP l x = l ++ [x] := by
      have : x.f0 ∉ nms l := by
        intro hx
        unfold nms at h hx
        rw [List.map_append, List.nodup_append] at h
        exact h.2.2 _ hx _ (by simp) rfl
      clear h
      induction l with
      | nil => rfl
      | cons z t ih =>
        rw [putP_cons, if_neg (fun e => this (by unfold nms; simp [e])), ih (fun e => this (by unfold nms at e ⊢; exact List.mem_cons_of_mem _ e))]
        rfl
    rw [overN_cons, hp, overN_app n (l ++ [x]) (by rw [List.append_assoc]; exact h), List.append_assoc]
    rfl
theorem overN_put {x : PR} : ∀ (t q : List PR), x.f0 ∈ nms q → x.f0 ∉ nms t → putP (overN q t) x = overN (putP q x) t
  | [], _, _, _ => rfl
  | z :: t, q, hq, ht => by
    have h1 : x.f0 ≠ z.f0 := fun e => ht (by unfold nms; simp [e])
    have h2 : x.f0 ∉ nms t := fun e => ht (by unfold nms at e ⊢; exact List.mem_cons_of_mem _ e)
    rw [overN_cons, overN_cons, overN_put t (putP q z) (putP_in.2 (.inr hq)) h2, putP_swap h1 q hq]
theorem over_put {x : PR} : ∀ (n l : List PR), (nms n).Nodup → overN l (putP n x) = putP (overN l n) x
  | [], _, _ => rfl
  | h :: t, l, hn => by
    have hn' := List.nodup_cons.1 hn
    rw [putP_cons]
    by_cases e : h.f0 = x.f0
    · rw [if_pos e, overN_cons, overN_cons, overN_put t (putP l h) (putP_in.2 (.inl e.symm)) (by rw [← e]; exact hn'.1), putP_twice e]
    · rw [if_neg e, overN_cons, overN_cons, over_put t _ hn'.2]
theorem over_assoc : ∀ (th n l : List PR), (nms n).Nodup → overN l (overN n th) = overN (overN l n) th
  | [], _, _, _ => rfl
  | x :: th, n, l, hn => by
    rw [overN_cons, overN_cons, over_assoc th _ l (putP_nodup hn), over_put n l hn]
def overF (p1 : List Int) (n1 : List PR) (p2 : List Int) (n2 : List PR) : List Int × List PR × Bool :=
  if vflat p1 n1 = true then (if vflat p2 n2 = true then (if vflat (p1 ++ p2) (overN n1 n2) = true then (p1 ++ p2, overN n1 n2, true) else ([], [], false)) else ([], [], false)) else ([], [], false)
theorem p_implOver_l0 (n2 : List PR) (hl : n2.length ≤ 1000) (hs2 : SmallF n2) (P : List Int) (hp : P.length ≤ 100000) : ∀ (d k i : Nat) (N : List PR), i + d = n2.length → N.length ≤ 1000 + i → SmallF N → 9000001 + d ≤ k →
    impl_OverFlat.l0 k n2 (n2.length : Int) (i : Int) P N = some (if vflat P (overN N (n2.drop i)) = true then (P, overN N (n2.drop i), true) else ([], [], false)) := by
  intro d
  induction d with
  | zero =>
    intro k i N h hN hs hk
    obtain ⟨k, rfl⟩ : ∃ m, k = m + 1 := ⟨k - 1, by omega⟩
    simp only [impl_OverFlat.l0]
    rw [if_neg (by omega), List.drop_of_length_le (by omega), p_checked P N true (by omega) (by omega) hs k (by omega), Option.bind_some, Bool.true_and]
    show _ = some (if vflat P N = true then (P, N, true) else ([], [], false))
    split <;> rfl
  | succ d ih =>
    intro k i N h hN hs hk
    obtain ⟨k, rfl⟩ : ∃ m, k = m + 1 := ⟨k - 1, by omega⟩
    simp only [impl_OverFlat.l0]
    have hq := putP_len N (n2.getD i pz)
    rw [if_pos (by omega), if_pos (by omega), if_pos (by omega), rdp, p_implPut P N _ _ (by omega) (by omega), Option.bind_some, wrap_succ (n := n2.length) (by omega) (by omega), drop_getD n2 pz i (by omega), overN_cons]
    refine ih k (i + 1) (putP N (n2.getD i pz)) (by omega) (by omega) (fun x hx => ?_) (by omega)
    rcases putP_mem _ _ _ hx with rfl | hx
    · exact hs2 _ (getD_mem n2 pz i (by omega))
    · exact hs x hx
theorem p_implOver (p1 : List Int) (n1 : List PR) (p2 : List Int) (n2 : List PR) (h1 : p1.length ≤ 1000) (h2 : n1.length ≤ 1000) (h3 : p2.length ≤ 1000) (h4 : n2.length ≤ 1000) (s1 : SmallF n1) (s2 : SmallF n2) (k : Nat) (hk : 9002000 ≤ k) :
    impl_OverFlat.f k p1 n1 p2 n2 = some (overF p1 n1 p2 n2) := by
  obtain ⟨k, rfl⟩ : ∃ m, k = m + 1 := ⟨k - 1, by omega⟩
  unfold impl_OverFlat.f overF
  rw [p_implFlat p1 n1 (by omega) s1 (k + 1) (by omega), Option.bind_some]
  split
  · rw [p_implFlat p2 n2 (by omega) s2 (k + 1) (by omega), Option.bind_some]
    simp only [impl_OverFlat.j0]
    cases vflat p2 n2 with
    | false => rfl
    | true =>
      unfold slices_Concat_int_int.f
      have hf : ([p1, p2] : List (List Int)).flatten = p1 ++ p2 := by simp
      rw [if_neg (by decide), hf, if_pos (by rw [List.length_append]; omega), Option.bind_some, show (0 : Int) = ((0 : Nat) : Int) from rfl, p_implOver_l0 n2 h4 s2 (p1 ++ p2) (by rw [List.length_append]; omega) n2.length k 0 n1 (by omega) (by omega) s1 (by omega), List.drop_zero, if_pos rfl]
  · simp only [impl_OverFlat.j0]
    rfl
theorem p_specOver_l0 (p2 : List Int) (n2 : List PR) (hl : n2.length ≤ 1000) (P : List Int) : ∀ (d k i : Nat) (N : List PR), i + d = n2.length → N.length ≤ 1000 + i → 3000001 + d ≤ k →
    spec_over.l0 k (i : Int) p2 n2 P N = some (P, overN N (n2.drop i)) := by
  intro d
  induction d with
  | zero =>
    intro k i N h hN hk
    obtain ⟨k, rfl⟩ : ∃ m, k = m + 1 := ⟨k - 1, by omega⟩
    simp only [spec_over.l0]
    rw [if_neg (by omega), List.drop_of_length_le (by omega)]
    rfl
  | succ d ih =>
    intro k i N h hN hk
    obtain ⟨k, rfl⟩ : ∃ m, k = m + 1 := ⟨k - 1, by omega⟩
    simp only [spec_over.l0]
    have hq := putP_len N (n2.getD i pz)
    rw [if_pos (by omega), if_pos (by omega), rdp, p_putPair N _ _ (by omega) k (by omega), Option.bind_some, wrap_succ (n := n2.length) (by omega) (by omega), drop_getD n2 pz i (by omega), overN_cons]
    exact ih k (i + 1) (putP N (n2.getD i pz)) (by omega) (by omega) (by omega)
theorem p_specOver (p1 : List Int) (n1 : List PR) (p2 : List Int) (n2 : List PR) (h1 : p1.length ≤ 1000) (h2 : n1.length ≤ 1000) (h3 : p2.length ≤ 1000) (h4 : n2.length ≤ 1000) (s1 : SmallF n1) (s2 : SmallF n2) (k : Nat) (hk : 9002000 ≤ k) :
    spec_OverFlat.f k p1 n1 p2 n2 = some (overF p1 n1 p2 n2) := by
  obtain ⟨k, rfl⟩ : ∃ m, k = m + 1 := ⟨k - 1, by omega⟩
  unfold spec_OverFlat.f overF
  rw [p_specFlat p1 n1 (by omega) (by omega) s1 (k + 1) (by omega), Option.bind_some]
  split
  · rw [p_specFlat p2 n2 (by omega) (by omega) s2 (k + 1) (by omega), Option.bind_some]
    simp only [spec_OverFlat.j0]
    cases vflat p2 n2 with
    | false => rfl
    | true =>
      have hq := overN_len n2 n1
      unfold spec_over.f
      have := p_specOver_l0 p2 n2 h4 (p1 ++ p2) n2.length k 0 n1 (by omega) (by omega) (by omega)
      rw [show ((0 : Nat) : Int) = 0 from rfl, List.drop_zero] at this
      rw [if_neg (by decide), p_copyFlat p1 n1 (by omega) (by omega), Option.bind_some]
      dsimp only
      rw [if_pos (by omega), this, Option.bind_some]
      dsimp only
      rw [p_checkedFlat (p1 ++ p2) (overN n1 n2) (by rw [List.length_append]; omega) (by omega) (overN_small n2 n1 s1 s2) k (by omega), Option.bind_some, if_pos rfl]
  · simp only [spec_OverFlat.j0]
    rfl
theorem overF_len (p1 : List Int) (n1 : List PR) (p2 : List Int) (n2 : List PR) : (overF p1 n1 p2 n2).1.length ≤ 8 ∧ (overF p1 n1 p2 n2).2.1.length ≤ 8 := by
  unfold overF
  split
  · split
    · split
      · rename_i h
        have := (okF_iff _ _).1 h
        exact ⟨this.len1, this.len2⟩
      · simp
    · simp
  · simp
theorem overF_small {m : Nat} {p1 : List Int} {n1 : List PR} {p2 : List Int} {n2 : List PR} (h1 : ∀ x ∈ n1, x.f0.size ≤ m) (h2 : ∀ x ∈ n2, x.f0.size ≤ m) : ∀ x ∈ (overF p1 n1 p2 n2).2.1, x.f0.size ≤ m := by
  have none : ∀ x ∈ ([] : List PR), x.f0.size ≤ m := fun x hx => by cases hx
  unfold overF
  split
  · split
    · split
      · exact overN_small n2 n1 h1 h2
      · exact none
    · exact none
  · exact none
theorem overF_true {p1 : List Int} {n1 : List PR} {p2 : List Int} {n2 : List PR} (h : (overF p1 n1 p2 n2).2.2 = true) : vflat p1 n1 = true ∧ vflat p2 n2 = true ∧ vflat (p1 ++ p2) (overN n1 n2) = true ∧ overF p1 n1 p2 n2 = (p1 ++ p2, overN n1 n2, true) := by
  unfold overF at h ⊢
  by_cases a : vflat p1 n1 = true
  · rw [if_pos a] at h ⊢
    by_cases b : vflat p2 n2 = true
    · rw [if_pos b] at h ⊢
      by_cases c : vflat (p1 ++ p2) (overN n1 n2) = true
      · rw [if_pos c]
        exact ⟨a, b, c, rfl⟩
      · rw [if_neg c] at h
        cases h
    · rw [if_neg b] at h
      cases h
  · rw [if_neg a] at h
    cases h
end Go.Proofs.Ytfcpbgedgedalaa.Pure

namespace Go.Proofs.Ytfcpbgedgedalaa.Pure
open Go.RowKit Go.Proofs.Ytfcpbgedgedalaa.Q Go.Proofs.YtfcpbgedgedalaaL.PrintWords Go.Proofs.YtfcpbgedgedalaaL.PrintLast Go.Proofs.YtfcpbgedgedalaaL.PrintMore
set_option linter.unusedVariables false
set_option linter.unusedSimpArgs false
theorem p_someFlat {r : List Int} (h : Rdr r) (k : Nat) (hk : 5000000 ≤ k) {p : Int} (hp : 0 ≤ p) (hp' : p ≤ 700000) : ∃ ps l p', spec_someFlat.f k r p = some (ps, l, p') ∧ p ≤ p' ∧ p' ≤ p + 40 ∧ ps.length ≤ 9 ∧ l.length ≤ 4 ∧ ∀ x ∈ l, x.f0.size ≤ 7 := by
  unfold spec_someFlat.f
  obtain ⟨ps, l, p1, e, h1, h2, h3, h4, h5⟩ := p_goodFlat h k hk hp hp'
  rw [e, Option.bind_some]
  dsimp only
  obtain ⟨v, e, _, _⟩ := p_pick h k (by omega) (p := p1) (by omega) (by omega) (n := 24) (by omega)
  rw [e, Option.bind_some]
  dsimp only
  split
  · obtain ⟨v, e, _⟩ := p_one h k (by omega) (p := p1 + 1) (by omega) (by omega) ([100, (-100)]) (by decide)
    rw [e, Option.bind_some]
    dsimp only
    rw [if_pos (by omega)]
    exact ⟨_, _, _, rfl, by omega, by omega, by simp; omega, by omega, h5⟩
  · split
    · obtain ⟨s, e, hs⟩ := p_anyName h k (by omega) (p := p1 + 1) (by omega) (by omega)
      rw [e, Option.bind_some]
      dsimp only
      obtain ⟨v, e, _, _⟩ := p_anyNumber h k (by omega) (p := p1 + 1 + 2) (by omega) (by omega)
      rw [e, Option.bind_some]
      dsimp only
      rw [if_pos (by omega)]
      refine ⟨_, _, _, rfl, by omega, by omega, by omega, by simp; omega, fun x hx => ?_⟩
      simp only [List.mem_append, List.mem_singleton] at hx
      rcases hx with hx | rfl
      · exact h5 x hx
      · exact hs
    · split
      · rw [if_pos (by omega)]
        exact ⟨_, _, _, rfl, by omega, by omega, by simp, by omega, h5⟩
      · exact ⟨_, _, _, rfl, by omega, by omega, by omega, by omega, h5⟩
end Go.Proofs.Ytfcpbgedgedalaa.Pure

namespace Go.Proofs.Ytfcpbgedgedalaa.Pure
open Go.RowKit Go.Proofs.Ytfcpbgedgedalaa.Q Go.Proofs.YtfcpbgedgedalaaL.PrintWords Go.Proofs.YtfcpbgedgedalaaL.PrintLast Go.Proofs.YtfcpbgedgedalaaL.PrintMore
set_option linter.unusedVariables false
set_option linter.unusedSimpArgs false
/-- A loop that goes on to something else behind its end. -/
theorem loop_then {β : Type} (F : Nat → Int → Option β) (P : Nat → Bool) (G : Nat → Option β) (no : Option β) (n : Nat) (hn : n ≤ 9223372036854775807)
    (hstep : ∀ k i, i < n → F (k + 1) (i : Int) = if P i = true then F k (wrap64 ((i : Int) + 1)) else no) (hend : ∀ k, F (k + 1) (n : Int) = G k) :
    ∀ d k i, i + d = n → d < k → F k (i : Int) = if (List.range' i d).all P = true then G (k - 1 - d) else no := by
  intro d
  induction d with
  | zero =>
    intro k i h hk
    obtain ⟨k, rfl⟩ : ∃ m, k = m + 1 := ⟨k - 1, by omega⟩
    obtain rfl : i = n := by omega
    rw [hend k]
    simp
  | succ d ih =>
    intro k i h hk
    obtain ⟨k, rfl⟩ : ∃ m, k = m + 1 := ⟨k - 1, by omega⟩
    rw [hstep k i (by omega), wrap_succ (n := n) (by omega) hn, ih k (i + 1) (by omega) (by omega), List.range'_succ, List.all_cons]
    have e : k + 1 - 1 - (d + 1) = k - 1 - d := by omega
    rw [e]
    cases P i <;> simp only [Bool.true_and, Bool.false_and, if_true, Bool.false_eq_true, if_false]
theorem loop_then0 {β : Type} (F : Nat → Int → Option β) (P : Nat → Bool) (G : Nat → Option β) (no : Option β) (n k : Nat) (hn : n ≤ 9223372036854775807)
    (hstep : ∀ k i, i < n → F (k + 1) (i : Int) = if P i = true then F k (wrap64 ((i : Int) + 1)) else no) (hend : ∀ k, F (k + 1) (n : Int) = G k) (hk : n < k) :
    F k 0 = if (List.range n).all P = true then G (k - 1 - n) else no := by
  have := loop_then F P G no n hn hstep hend n k 0 (by omega) hk
  rw [List.range_eq_range']
  exact this
/-- A loop whose rounds take up to C steps. -/
theorem loop_wide (F : Nat → Int → Option Bool) (P : Nat → Bool) (T : Bool) (n B C : Nat) (hn : n ≤ 9223372036854775807)
    (hstep : ∀ k i, B + C ≤ k → i < n → (P i = true → ∃ k', k ≤ k' + C ∧ F k (i : Int) = F k' (wrap64 ((i : Int) + 1))) ∧ (P i = false → F k (i : Int) = some false)) (hend : ∀ k, B ≤ k → F k (n : Int) = some T) :
    ∀ d k i, i + d = n → B + d * C ≤ k → F k (i : Int) = some ((List.range' i d).all P && T) := by
  intro d
  induction d with
  | zero =>
    intro k i h hk
    obtain rfl : i = n := by omega
    rw [hend k (by omega)]
    simp
  | succ d ih =>
    intro k i h hk
    rw [Nat.succ_mul] at hk
    rw [List.range'_succ, List.all_cons]
    obtain ⟨h1, h2⟩ := hstep k i (by omega) (by omega)
    cases hq : P i with
    | true =>
      obtain ⟨k', hk', e⟩ := h1 hq
      rw [e, wrap_succ (n := n) (by omega) hn, ih k' (i + 1) (by omega) (by omega)]
      simp
    | false => rw [h2 hq]; simp
theorem loop_wide0 (F : Nat → Int → Option Bool) (P : Nat → Bool) (T : Bool) (n B C k : Nat) (hn : n ≤ 9223372036854775807)
    (hstep : ∀ k i, B + C ≤ k → i < n → (P i = true → ∃ k', k ≤ k' + C ∧ F k (i : Int) = F k' (wrap64 ((i : Int) + 1))) ∧ (P i = false → F k (i : Int) = some false)) (hend : ∀ k, B ≤ k → F k (n : Int) = some T)
    (hk : B + n * C ≤ k) : F k 0 = some ((List.range n).all P && T) := by
  have := loop_wide F P T n B C hn hstep hend n k 0 (by omega) hk
  rw [List.range_eq_range']
  exact this
end Go.Proofs.Ytfcpbgedgedalaa.Pure

namespace Go.Proofs.Ytfcpbgedgedalaa.Pure
open Go.RowKit Go.Proofs.Ytfcpbgedgedalaa.Q Go.Proofs.YtfcpbgedgedalaaL.PrintWords Go.Proofs.YtfcpbgedgedalaaL.PrintLast Go.Proofs.YtfcpbgedgedalaaL.PrintMore
set_option linter.unusedVariables false
set_option linter.unusedSimpArgs false
theorem p_drawOver (l : List Int) (hb : ∀ x ∈ l, (Lit.int .u8 x).wf = true) (k : Nat) (hk : 9000000 ≤ k) : ∃ p1 n1 p2 n2, spec_DrawOverFlat.f k l = some (p1, n1, p2, n2) ∧ p1.length ≤ 9 ∧ n1.length ≤ 4 ∧ p2.length ≤ 9 ∧ n2.length ≤ 4 ∧ (∀ x ∈ n1, x.f0.size ≤ 7) ∧ ∀ x ∈ n2, x.f0.size ≤ 7 := by
  unfold spec_DrawOverFlat.f
  obtain ⟨m, e, hm⟩ := p_newReader l hb
  rw [e, Option.bind_some]
  dsimp only
  unfold spec_twoFlats.f
  obtain ⟨ps, ns, p', e, g1, g2, g3, g4, g5⟩ := p_someFlat hm k (by omega) (p := 0) (by omega) (by omega)
  rw [e, Option.bind_some]
  dsimp only
  obtain ⟨k, rfl⟩ : ∃ m, k = m + 1 := ⟨k - 1, by omega⟩
  have j : ∀ (b : Bool) (q : Int), 0 ≤ q → q ≤ 1000 → (b = true → 1 < ns.length) → ∃ p1 n1 p2 n2 q', spec_twoFlats.j0 (k + 1) b m q ps ns = some (p1, n1, p2, n2, q') ∧ p1.length ≤ 9 ∧ n1.length ≤ 4 ∧ p2.length ≤ 9 ∧ n2.length ≤ 4 ∧ (∀ x ∈ n1, x.f0.size ≤ 7) ∧ ∀ x ∈ n2, x.f0.size ≤ 7 := by
    intro b q h0 h1 hb
    simp only [spec_twoFlats.j0]
    cases b with
    | true =>
      have hn := hb rfl
      rw [if_pos rfl, p_copyFlat ps ns (by omega) (by omega)]
      simp only [Option.bind_some, List.nil_append, List.length_nil, List.length_drop, List.length_singleton]
      rw [if_pos (by omega), if_pos (by omega), if_pos (by omega), if_pos (by omega)]
      refine ⟨_, _, _, _, _, rfl, g3, g4, g3, by simp; omega, g5, fun x hx => ?_⟩
      rcases List.mem_append.1 hx with h | h
      · exact g5 x (List.mem_of_mem_drop h)
      · obtain rfl := List.mem_singleton.1 h
        have e0 := rdp ns 0
        rw [show ((0 : Nat) : Int) = 0 from rfl] at e0
        rw [e0]
        exact g5 _ (getD_mem ns pz 0 (by omega))
    | false =>
      rw [if_neg (by decide)]
      obtain ⟨ps2, ns2, p2', e2, f1, f2, f3, f4, f5⟩ := p_someFlat hm k (by omega) (p := q) (by omega) (by omega)
      rw [e2, Option.bind_some]
      exact ⟨_, _, _, _, _, rfl, g3, g4, f3, f4, g5, f5⟩
  by_cases hc : (ns.length : Int) > 1
  · rw [if_pos hc]
    obtain ⟨v, e1, _, _⟩ := p_pick hm (k + 1) (by omega) (p := p') (by omega) (by omega) (n := 2) (by omega)
    rw [e1, Option.bind_some]
    obtain ⟨p1, n1, p2, n2, q', e2, r⟩ := j (v == 0) (p' + 1) (by omega) (by omega) (fun _ => by omega)
    rw [e2, Option.bind_some]
    exact ⟨p1, n1, p2, n2, rfl, r⟩
  · rw [if_neg hc]
    obtain ⟨p1, n1, p2, n2, q', e2, r⟩ := j false p' (by omega) (by omega) (fun h => by cases h)
    rw [e2, Option.bind_some]
    exact ⟨p1, n1, p2, n2, rfl, r⟩
end Go.Proofs.Ytfcpbgedgedalaa.Pure
