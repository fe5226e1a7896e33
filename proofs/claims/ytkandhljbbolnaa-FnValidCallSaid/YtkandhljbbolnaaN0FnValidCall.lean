-- written by px.py and merge.py (programs of this claim's), over the kit's print. Not trusted: Lean checks it.
import Derived.Test.YtkandhljbbolnaaLMore
import Derived.Test.YtkandhljbbolnaaM4FnValidCall
import Derived.Test.YtkandhljbbolnaaM0FnValidCall
import Derived.Test.YtkandhljbbolnaaM5FnValidCall
import Derived.Test.YtkandhljbbolnaaM6FnValidCall
import Derived.Test.YtkandhljbbolnaaM1FnValidCall
import Derived.Test.YtkandhljbbolnaaM2FnValidCall
import Derived.Test.YtkandhljbbolnaaM3FnValidCall
namespace Go.Proofs.Ytkandhljbbolnaa.Pure
open Go.RowKit Go.Proofs.Ytkandhljbbolnaa.Q Go.Proofs.YtkandhljbbolnaaL.PrintWords Go.Proofs.YtkandhljbbolnaaL.PrintLast Go.Proofs.YtkandhljbbolnaaL.PrintMore
set_option linter.unusedVariables false
set_option linter.unusedSimpArgs false

/-- A number of a call. -/
def val (v : Int) : Bool := decide (-99 ≤ v) && decide (v ≤ 99)
theorem p_inRange (a lo hi : Int) : spec_inRange.f a lo hi = some (decide (lo ≤ a) && decide (a ≤ hi)) := by
  unfold spec_inRange.f
  split <;> simp [*]
theorem p_in (a lo hi : Int) : impl_in.f a lo hi = some (decide (lo ≤ a) && decide (a ≤ hi)) := by
  unfold impl_in.f
  split
  · have : lo ≤ a := by omega
    simp [this]
  · have : ¬ lo ≤ a := by omega
    simp [this]
theorem p_isValue (v : Int) : impl_isValue.f v = some (val v) := by
  unfold impl_isValue.f val
  simp [p_in]
theorem p_validNumber (v : Int) : spec_validNumber.f v = some (val v) := by
  unfold spec_validNumber.f val
  simp [p_inRange]
theorem bt_eq (s t : ByteArray) : (s.toList == t.toList) = (s.data.toList == t.data.toList) := by
  rw [ByteArray.toList_eq, ByteArray.toList_eq]
theorem bt_eqv (s t : ByteArray) : s.toList = t.toList ↔ s = t := by
  rw [ByteArray.toList_eq, ByteArray.toList_eq]
  constructor
  · intro h
    cases s; cases t
    simp only at h
    exact congrArg _ (Array.toList_inj.1 h)
  · rintro rfl; rfl
/-- A loop that ends with false at the first place that is not good. -/
theorem loop_all (F : Nat → Int → Option Bool) (P : Nat → Bool) (T : Bool) (n B : Nat) (hn : n ≤ 9223372036854775807)
    (hstep : ∀ k i, B ≤ k → i < n → F (k + 1) (i : Int) = if P i = true then F k (wrap64 ((i : Int) + 1)) else some false) (hend : ∀ k, B ≤ k → F (k + 1) (n : Int) = some T) :
    ∀ d k i, i + d = n → B + d < k → F k (i : Int) = some ((List.range' i d).all P && T) := by
  intro d
  induction d with
  | zero =>
    intro k i h hk
    obtain ⟨k, rfl⟩ : ∃ m, k = m + 1 := ⟨k - 1, by omega⟩
    obtain rfl : i = n := by omega
    rw [hend k (by omega)]
    simp
  | succ d ih =>
    intro k i h hk
    obtain ⟨k, rfl⟩ : ∃ m, k = m + 1 := ⟨k - 1, by omega⟩
    rw [hstep k i (by omega) (by omega), wrap_succ (n := n) (by omega) hn, ih k (i + 1) (by omega) (by omega), List.range'_succ, List.all_cons]
    cases P i <;> simp
theorem loop_all0 (F : Nat → Int → Option Bool) (P : Nat → Bool) (T : Bool) (n B k : Nat) (hn : n ≤ 9223372036854775807)
    (hstep : ∀ k i, B ≤ k → i < n → F (k + 1) (i : Int) = if P i = true then F k (wrap64 ((i : Int) + 1)) else some false) (hend : ∀ k, B ≤ k → F (k + 1) (n : Int) = some T)
    (hk : B + n < k) : F k 0 = some ((List.range n).all P && T) := by
  have := loop_all F P T n B hn hstep hend n k 0 (by omega) hk
  rw [List.range_eq_range']
  exact this
theorem name_loop (s : ByteArray) : ((List.range s.size).all fun i => decide (97 ≤ bt s (i : Int)) && decide (bt s (i : Int) ≤ 122)) = s.data.toList.all (fun c => decide (97 ≤ c.toNat) && decide (c.toNat ≤ 122)) := by
  rw [Bool.eq_iff_iff, List.all_eq_true, List.all_eq_true]
  constructor
  · intro h c hc
    obtain ⟨i, hi, rfl⟩ := List.mem_iff_getElem.1 hc
    have hi' : i < s.size := by simpa using hi
    have := h i (List.mem_range.2 hi')
    rw [bt_nat s i hi'] at this
    simp only [Bool.and_eq_true, decide_eq_true_eq] at this ⊢
    have e : s.data.toList[i] = s[i] := rfl
    rw [e]
    omega
  · intro h i hi
    have hi' := List.mem_range.1 hi
    have := h s[i] (by
      have : s[i] = s.data.toList[i]'(by simpa using hi') := rfl
      rw [this]; exact List.getElem_mem _)
    rw [bt_nat s i hi']
    simp only [Bool.and_eq_true, decide_eq_true_eq] at this ⊢
    omega
theorem name_size (s : ByteArray) : (decide ((1 : Int) ≤ (s.size : Int)) && decide ((s.size : Int) ≤ 6)) = (decide (1 ≤ s.size) && decide (s.size ≤ 6)) := by
  rw [Bool.eq_iff_iff]
  simp only [Bool.and_eq_true, decide_eq_true_eq]
  omega
theorem p_validName (s : ByteArray) (hs : s.size ≤ 9223372036854775807) (k : Nat) (hk : s.size < k) : spec_validName.f k s = some (pxName s) := by
  unfold spec_validName.f pxName
  rw [← name_loop]
  refine loop_all0 (fun k i => spec_validName.l0 k s i) _ _ s.size 0 k hs (fun k i _ hi => ?_) (fun k _ => ?_) (by omega)
  · simp only [spec_validName.l0]
    rw [if_pos (by omega), if_pos (by omega)]
    by_cases h1 : bt s (i : Int) < 97
    · have : ¬ 97 ≤ bt s (i : Int) := by omega
      simp [h1, this]
    · have h1' : 97 ≤ bt s (i : Int) := by omega
      by_cases h2 : bt s (i : Int) > 122
      · have : ¬ bt s (i : Int) ≤ 122 := by omega
        simp [h1, h2, this]
      · have : bt s (i : Int) ≤ 122 := by omega
        simp [h1, h2, this, h1']
  · simp only [spec_validName.l0]
    rw [if_neg (by omega), p_inRange, Option.bind_some, name_size]
theorem p_isName (s : ByteArray) (hs : s.size ≤ 9223372036854775807) (k : Nat) (hk : s.size < k) : impl_isName.f k s = some (pxName s) := by
  unfold impl_isName.f pxName
  rw [← name_loop]
  refine loop_all0 (fun k i => impl_isName.l0 k s i) _ _ s.size 0 k hs (fun k i _ hi => ?_) (fun k _ => ?_) (by omega)
  · simp only [impl_isName.l0]
    rw [if_pos (by omega), if_pos (by omega)]
    by_cases h1 : bt s (i : Int) < 97
    · have : ¬ 97 ≤ bt s (i : Int) := by omega
      simp [h1, this]
    · have h1' : 97 ≤ bt s (i : Int) := by omega
      by_cases h2 : bt s (i : Int) > 122
      · have : ¬ bt s (i : Int) ≤ 122 := by omega
        simp [h1, h2, this]
      · have : bt s (i : Int) ≤ 122 := by omega
        simp [h1, h2, this, h1']
  · simp only [impl_isName.l0]
    rw [if_neg (by omega), p_in, Option.bind_some, name_size]

theorem wrap_in {n : Int} (h1 : -9223372036854775808 ≤ n) (h2 : n ≤ 9223372036854775807) : wrap64 n = n := by
  unfold wrap64
  omega
end Go.Proofs.Ytkandhljbbolnaa.Pure

namespace Go.Proofs.Ytkandhljbbolnaa.Pure
open Go.RowKit Go.Proofs.Ytkandhljbbolnaa.Q Go.Proofs.YtkandhljbbolnaaL.PrintWords Go.Proofs.YtkandhljbbolnaaL.PrintLast Go.Proofs.YtkandhljbbolnaaL.PrintMore
set_option linter.unusedVariables false
set_option linter.unusedSimpArgs false
/-! ### what is drawn -/
/-- A reader's row. -/
structure Rdr (l : List Int) : Prop where
  len : l.length ≤ 2000
  byte : ∀ x ∈ l, 0 ≤ x ∧ x ≤ 255
theorem Rdr.rd {l : List Int} (h : Rdr l) (i : Int) : 0 ≤ rd l i ∧ rd l i ≤ 255 := by
  unfold Go.Proofs.YtkandhljbbolnaaL.PrintWords.rd
  rw [List.getD_eq_getElem?_getD]
  rcases hq : l[i.toNat]? with _ | x
  · simp
  · exact h.byte x (List.mem_of_getElem? hq)
theorem xor_nonneg {a b : Int} (ha : 0 ≤ a) (ha' : a < 1099511627776) (hb : 0 ≤ b) (hb' : b < 1099511627776) : 0 ≤ Go.bits .xor .i64 a b := by
  obtain ⟨a, rfl⟩ := Int.eq_ofNat_of_zero_le ha
  obtain ⟨b, rfl⟩ := Int.eq_ofNat_of_zero_le hb
  have h1 : a < 2 ^ 40 := by omega
  have h2 : b < 2 ^ 40 := by omega
  have h3 := Nat.xor_lt_two_pow h1 h2
  have e1 : a % 2 ^ IntKind.i64.bits = a := Nat.mod_eq_of_lt (by simp only [IntKind.bits]; omega)
  have e2 : b % 2 ^ IntKind.i64.bits = b := Nat.mod_eq_of_lt (by simp only [IntKind.bits]; omega)
  simp only [Go.bits, BitVec.ofInt_natCast, BitVec.toNat_xor, BitVec.toNat_ofNat, e1, e2]
  rw [IntKind.wrap_i64]
  omega
theorem tmod_in {a n : Int} (ha : 0 ≤ a) (hn : 0 < n) : 0 ≤ Int.tmod a n ∧ Int.tmod a n < n := ⟨Int.tmod_nonneg _ ha, Int.tmod_lt_of_pos _ hn⟩
theorem p_pick {l : List Int} (h : Rdr l) (k : Nat) (hk : 1 ≤ k) {p n : Int} (hp : 0 ≤ p) (hp' : p ≤ 1000000) (hn : 1 ≤ n) : ∃ v, spec_reader_pick.f k l p n = some (v, p + 1) ∧ 0 ≤ v ∧ v < n := by
  obtain ⟨k, rfl⟩ : ∃ m, k = m + 1 := ⟨k - 1, by omega⟩
  have w1 : wrap64 (p + 1) = p + 1 := wrap_in (by omega) (by omega)
  have w2 : wrap64 (p + 1 - 1) = p := by rw [wrap_in (by omega) (by omega)]; omega
  unfold spec_reader_pick.f
  rw [if_neg (by omega)]
  simp only [spec_reader_pick.j0]
  rw [w1]
  by_cases h0 : l.length = 0
  · rw [if_pos (by simp [h0])]
    exact ⟨0, rfl, by omega, by omega⟩
  · have hL : 0 < (l.length : Int) := by omega
    have hlen := h.len
    rw [if_neg (by simpa using h0)]
    simp only [w2]
    by_cases h1 : p < (l.length : Int)
    · rw [if_pos h1, if_pos hp, if_neg (by omega)]
      have hr := h.rd p
      rw [wrap_in (n := rd l p) (by omega) (by omega)]
      have := tmod_in hr.1 (show 0 < n by omega)
      exact ⟨_, rfl, this.1, this.2⟩
    · have t1 := tmod_in hp hL
      have e1 : wrap64 (p * 7) = p * 7 := wrap_in (by omega) (by omega)
      have e2 : wrap64 (p * 7 + 3) = p * 7 + 3 := wrap_in (by omega) (by omega)
      rw [e1, e2]
      have t2 := tmod_in (show 0 ≤ p * 7 + 3 by omega) hL
      rw [if_neg h1, if_neg (by omega), if_pos t1.1, if_pos t1.2, if_pos t2.1, if_pos t2.2, if_neg (by omega)]
      have r1 := h.rd (Int.tmod p (l.length : Int))
      have r2 := h.rd (Int.tmod (p * 7 + 3) (l.length : Int))
      generalize rd l (Int.tmod p (l.length : Int)) = x at r1 ⊢
      generalize rd l (Int.tmod (p * 7 + 3) (l.length : Int)) = y at r2 ⊢
      have d1 : 0 ≤ Int.tdiv p (l.length : Int) := Int.tdiv_nonneg hp (by omega)
      have d2 : Int.tdiv p (l.length : Int) ≤ p := Int.tdiv_le_self _ hp
      generalize Int.tdiv p (l.length : Int) = z at d1 d2 ⊢
      rw [wrap_in (n := x) (by omega) (by omega), wrap_in (n := y) (by omega) (by omega), wrap_in (n := z) (by omega) (by omega), wrap_in (n := x * 131) (by omega) (by omega), wrap_in (n := y * 1117) (by omega) (by omega), wrap_in (n := p * 29) (by omega) (by omega), wrap_in (n := z * 53) (by omega) (by omega), wrap_in (n := x * 131 + y * 1117) (by omega) (by omega), wrap_in (n := x * 131 + y * 1117 + p * 29) (by omega) (by omega), wrap_in (n := x * 131 + y * 1117 + p * 29 + z * 53) (by omega) (by omega)]
      have a0 : 0 ≤ x * 131 + y * 1117 + p * 29 + z * 53 := by omega
      have a1 : x * 131 + y * 1117 + p * 29 + z * 53 < 1099511627776 := by omega
      generalize x * 131 + y * 1117 + p * 29 + z * 53 = u at a0 a1 ⊢
      have b0 : 0 ≤ Int.tdiv u 64 := Int.tdiv_nonneg a0 (by omega)
      have b1 : Int.tdiv u 64 ≤ u := Int.tdiv_le_self _ a0
      rw [wrap_in (n := Int.tdiv u 64) (by omega) (by omega)]
      have := tmod_in (xor_nonneg a0 a1 b0 (by omega)) (show 0 < n by omega)
      exact ⟨_, rfl, this.1, this.2⟩
theorem rd_mem {l : List Int} {i : Int} (h0 : 0 ≤ i) (h1 : i < (l.length : Int)) : rd l i ∈ l := by
  unfold Go.Proofs.YtkandhljbbolnaaL.PrintWords.rd
  rw [List.getD_eq_getElem?_getD, List.getElem?_eq_getElem (by omega)]
  exact List.getElem_mem _
theorem p_one {l : List Int} (h : Rdr l) (k : Nat) (hk : 1 ≤ k) {p : Int} (hp : 0 ≤ p) (hp' : p ≤ 1000000) (xs : List Int) (hx : 1 ≤ xs.length) : ∃ v, spec_reader_one.f k l p xs = some (v, p + 1) ∧ v ∈ xs := by
  unfold spec_reader_one.f
  obtain ⟨v, e, h0, h1⟩ := p_pick h k hk hp hp' (n := (xs.length : Int)) (by omega)
  rw [e, Option.bind_some]
  dsimp only
  rw [if_pos h0, if_pos h1]
  exact ⟨_, rfl, rd_mem h0 h1⟩
theorem p_of {l : List Int} (h : Rdr l) (k : Nat) (hk : 1 ≤ k) {p : Int} (hp : 0 ≤ p) (hp' : p ≤ 1000000) (xs : List ByteArray) (hx : 1 ≤ xs.length) : ∃ v, spec_reader_of.f k l p xs = some (v, p + 1) ∧ v ∈ xs := by
  unfold spec_reader_of.f
  obtain ⟨v, e, h0, h1⟩ := p_pick h k hk hp hp' (n := (xs.length : Int)) (by omega)
  rw [e, Option.bind_some]
  dsimp only
  rw [if_pos h0, if_pos h1]
  refine ⟨_, rfl, ?_⟩
  unfold rdOf
  rw [List.getD_eq_getElem?_getD, List.getElem?_eq_getElem (by omega)]
  exact List.getElem_mem _
theorem p_newReader (l : List Int) (hb : ∀ x ∈ l, (Lit.int .u8 x).wf = true) : ∃ m, spec_newReader.f l = some (m, 0) ∧ Rdr m := by
  have hb' : ∀ x ∈ l, 0 ≤ x ∧ x ≤ 255 := by
    intro x hx
    have := hb x hx
    simp [Lit.wf, IntKind.min, IntKind.max, IntKind.signed, IntKind.bits] at this
    omega
  unfold spec_newReader.f
  by_cases h : (l.length : Int) > 2000
  · rw [if_pos h, if_pos (by omega)]
    exact ⟨_, rfl, by rw [List.length_take]; omega, fun x hx => hb' x (List.mem_of_mem_take hx)⟩
  · rw [if_neg h]
    exact ⟨_, rfl, by omega, hb'⟩
end Go.Proofs.Ytkandhljbbolnaa.Pure

namespace Go.Proofs.Ytkandhljbbolnaa.Pure
open Go.RowKit Go.Proofs.Ytkandhljbbolnaa.Q Go.Proofs.YtkandhljbbolnaaL.PrintWords Go.Proofs.YtkandhljbbolnaaL.PrintLast Go.Proofs.YtkandhljbbolnaaL.PrintMore
set_option linter.unusedVariables false
set_option linter.unusedSimpArgs false
theorem p_aNumber {l : List Int} (h : Rdr l) (k : Nat) (hk : 1 ≤ k) {p : Int} (hp : 0 ≤ p) (hp' : p ≤ 1000000) : ∃ v, spec_aNumber.f k l p = some (v, p + 1) ∧ val v = true := by
  unfold spec_aNumber.f
  obtain ⟨v, e, hv⟩ := p_one h k hk hp hp' ([1, 2, 3, 0, 5, (-1), 7, 99, (-99)]) (by decide)
  rw [e, Option.bind_some]
  refine ⟨v, rfl, ?_⟩
  simp only [List.mem_cons, List.not_mem_nil, or_false] at hv
  rcases hv with rfl | rfl | rfl | rfl | rfl | rfl | rfl | rfl | rfl <;> rfl
end Go.Proofs.Ytkandhljbbolnaa.Pure

namespace Go.Proofs.Ytkandhljbbolnaa.Pure
open Go.RowKit Go.Proofs.Ytkandhljbbolnaa.Q Go.Proofs.YtkandhljbbolnaaL.PrintWords Go.Proofs.YtkandhljbbolnaaL.PrintLast Go.Proofs.YtkandhljbbolnaaL.PrintMore
set_option linter.unusedVariables false
set_option linter.unusedSimpArgs false
theorem p_anyNumber {l : List Int} (h : Rdr l) (k : Nat) (hk : 1 ≤ k) {p : Int} (hp : 0 ≤ p) (hp' : p ≤ 999999) : ∃ v, spec_anyNumber.f k l p = some (v, p + 2) ∧ -100 ≤ v ∧ v ≤ 100 := by
  unfold spec_anyNumber.f
  obtain ⟨v, e, _, _⟩ := p_pick h k hk hp (by omega) (n := 16) (by omega)
  have e2 : p + 1 + 1 = p + 2 := by omega
  rw [e, Option.bind_some]
  dsimp only
  split
  · obtain ⟨v, e, hv⟩ := p_one h k hk (p := p + 1) (by omega) (by omega) ([100, (-100)]) (by decide)
    rw [e, Option.bind_some, e2]
    refine ⟨v, rfl, ?_⟩
    simp only [List.mem_cons, List.not_mem_nil, or_false] at hv
    omega
  · obtain ⟨v, e, hv⟩ := p_aNumber h k hk (p := p + 1) (by omega) (by omega)
    rw [e, Option.bind_some, e2]
    refine ⟨v, rfl, ?_⟩
    unfold val at hv
    simp at hv
    omega
end Go.Proofs.Ytkandhljbbolnaa.Pure

namespace Go.Proofs.Ytkandhljbbolnaa.Pure
open Go.RowKit Go.Proofs.Ytkandhljbbolnaa.Q Go.Proofs.YtkandhljbbolnaaL.PrintWords Go.Proofs.YtkandhljbbolnaaL.PrintLast Go.Proofs.YtkandhljbbolnaaL.PrintMore
set_option linter.unusedVariables false
set_option linter.unusedSimpArgs false
theorem range_all {α : Type} (l : List α) (d : α) (p : α → Bool) : ((List.range l.length).all fun i => p (l.getD i d)) = l.all p := by
  rw [Bool.eq_iff_iff, List.all_eq_true, List.all_eq_true]
  constructor
  · intro h x hx
    obtain ⟨i, hi, rfl⟩ := List.mem_iff_getElem.1 hx
    have := h i (List.mem_range.2 hi)
    rwa [List.getD_eq_getElem?_getD, List.getElem?_eq_getElem hi] at this
  · intro h i hi
    have hi' := List.mem_range.1 hi
    rw [List.getD_eq_getElem?_getD, List.getElem?_eq_getElem hi']
    exact h _ (List.getElem_mem _)
theorem getD_mem {α : Type} (l : List α) (d : α) (i : Nat) (h : i < l.length) : l.getD i d ∈ l := by
  rw [List.getD_eq_getElem?_getD, List.getElem?_eq_getElem h]
  exact List.getElem_mem _
theorem rd_nat (l : List Int) (i : Nat) : rd l (i : Int) = l.getD i 0 := by
  unfold Go.Proofs.YtkandhljbbolnaaL.PrintWords.rd
  rw [Int.toNat_natCast]
theorem rdOf_nat {α : Type} (d : α) (l : List α) (i : Nat) : rdOf d l (i : Int) = l.getD i d := by
  unfold rdOf
  rw [Int.toNat_natCast]
/-- A loop that looks for the first one. -/
theorem loop_find {α : Type} (F : Nat → Int → Option Int) (l : List α) (d : α) (p : α → Bool) (B : Nat) (hn : l.length ≤ 9223372036854775807)
    (hstep : ∀ k i, B ≤ k → i < l.length → F (k + 1) (i : Int) = if p (l.getD i d) = true then some (i : Int) else F k (wrap64 ((i : Int) + 1))) (hend : ∀ k, B ≤ k → F (k + 1) (l.length : Int) = some (-1)) :
    ∀ e k i, i + e = l.length → B + e < k → (∀ j, j < i → p (l.getD j d) = false) → F k (i : Int) = some (pxIdx p l) := by
  intro e
  induction e with
  | zero =>
    intro k i h hk hm
    obtain ⟨k, rfl⟩ : ∃ m, k = m + 1 := ⟨k - 1, by omega⟩
    obtain rfl : i = l.length := by omega
    rw [hend k (by omega), pxIdx_miss p l d hm]
  | succ e ih =>
    intro k i h hk hm
    obtain ⟨k, rfl⟩ : ∃ m, k = m + 1 := ⟨k - 1, by omega⟩
    rw [hstep k i (by omega) (by omega)]
    cases hq : p (l.getD i d) with
    | true => rw [if_pos rfl, pxIdx_hit p l d i (by omega) hq hm]
    | false =>
      rw [if_neg (by simp), wrap_succ (n := l.length) (by omega) hn]
      refine ih k (i + 1) (by omega) (by omega) (fun j hj => ?_)
      by_cases e : j = i
      · rw [e]; exact hq
      · exact hm j (by omega)
theorem loop_find0 {α : Type} (F : Nat → Int → Option Int) (l : List α) (d : α) (p : α → Bool) (B k : Nat) (hn : l.length ≤ 9223372036854775807)
    (hstep : ∀ k i, B ≤ k → i < l.length → F (k + 1) (i : Int) = if p (l.getD i d) = true then some (i : Int) else F k (wrap64 ((i : Int) + 1))) (hend : ∀ k, B ≤ k → F (k + 1) (l.length : Int) = some (-1))
    (hk : B + l.length < k) : F k 0 = some (pxIdx p l) :=
  loop_find F l d p B hn hstep hend l.length k 0 (by omega) hk (fun j hj => absurd hj (Nat.not_lt_zero _))
theorem pxIdx_range {α : Type} (p : α → Bool) (l : List α) : pxIdx p l = -1 ∨ ∃ i : Nat, i < l.length ∧ pxIdx p l = (i : Int) := by
  unfold pxIdx
  cases h : l.findIdx? p with
  | none => exact .inl rfl
  | some i =>
    rw [List.findIdx?_eq_some_iff_getElem] at h
    exact .inr ⟨i, h.1, rfl⟩
end Go.Proofs.Ytkandhljbbolnaa.Pure

namespace Go.Proofs.Ytkandhljbbolnaa.Pure
open Go.RowKit Go.Proofs.Ytkandhljbbolnaa.Q Go.Proofs.YtkandhljbbolnaaL.PrintWords Go.Proofs.YtkandhljbbolnaaL.PrintLast Go.Proofs.YtkandhljbbolnaaL.PrintMore
set_option linter.unusedVariables false
set_option linter.unusedSimpArgs false
abbrev PR := S94
abbrev pz : PR := z94
theorem rdp (l : List PR) (i : Nat) : rd_T94 l (i : Int) = l.getD i pz := by
  unfold rd_T94
  rw [Int.toNat_natCast]
theorem p_validNumbers (l : List Int) (hl : l.length ≤ 2000000) (k : Nat) (hk : 3000000 ≤ k) : spec_validNumbers.f k l = some (l.all val) := by
  unfold spec_validNumbers.f
  rw [← range_all l 0 val, ← Bool.and_true (List.all _ _)]
  refine loop_all0 (fun k i => spec_validNumbers.l0 k l i) _ _ l.length 0 k (by omega) (fun k i _ hi => ?_) (fun k _ => ?_) (by omega)
  · simp only [spec_validNumbers.l0]
    rw [if_pos (by omega), if_pos (by omega), p_validNumber, Option.bind_some, rd_nat]
  · simp only [spec_validNumbers.l0]
    rw [if_neg (by omega)]
theorem p_areValues (l : List Int) : impl_areValues.f l = some (l.all val) := by
  unfold impl_areValues.f
  rw [Option.some.injEq, List.not_any_eq_all_not]
  simp only [Bool.not_not]
  rfl
theorem p_specPairAt (l : List PR) (s : ByteArray) (hl : l.length ≤ 2000000) (k : Nat) (hk : 3000000 ≤ k) : spec_pairAt.f k l s = some (pxIdx (fun x : PR => x.f0.toList == s.toList) l) := by
  unfold spec_pairAt.f
  refine loop_find0 (fun k i => spec_pairAt.l0 k l s i) l pz _ 0 k (by omega) (fun k i _ hi => ?_) (fun k _ => ?_) (by omega)
  · simp only [spec_pairAt.l0]
    rw [if_pos (by omega), if_pos (by omega), rdp]
    simp only [beq_iff_eq]
  · simp only [spec_pairAt.l0]
    rw [if_neg (by omega)]
/-- What a pair must be. -/
def pairOk (x : PR) : Bool := pxName x.f0 && val x.f1
def freshAt (l : List PR) (i : Nat) : Bool := !((l.take i).any fun x => x.f0.toList == (l.getD i pz).f0.toList)
def vflat (ps : List Int) (l : List PR) : Bool := (List.range l.length).all (freshAt l) && (ps.all val && l.all pairOk && decide (ps.length ≤ 8) && decide (l.length ≤ 8))
theorem p_validPairs (l : List PR) (hl : l.length ≤ 2000000) (hs : ∀ x ∈ l, x.f0.size ≤ 2000000) (k : Nat) (hk : 6000000 ≤ k) : spec_validPairs.f k l = some (l.all pairOk) := by
  unfold spec_validPairs.f
  rw [← range_all l pz pairOk, ← Bool.and_true (List.all _ _)]
  refine loop_all0 (fun k i => spec_validPairs.l0 k l i) _ _ l.length 3000000 k (by omega) (fun k i hk hi => ?_) (fun k _ => ?_) (by omega)
  · simp only [spec_validPairs.l0]
    have hsz := hs _ (getD_mem l pz i hi)
    rw [if_pos (by omega), if_pos (by omega), rdp, p_validName _ (by omega) k (by omega), Option.bind_some, p_validNumber, Option.bind_some]
    unfold pairOk
    cases pxName (l.getD i pz).f0 <;> cases val (l.getD i pz).f1 <;> simp
  · simp only [spec_validPairs.l0]
    rw [if_neg (by omega)]
theorem freshAt_idx (l : List PR) (i : Nat) : freshAt l i = !decide (pxIdx (fun x : PR => x.f0.toList == (l.getD i pz).f0.toList) (l.take i) ≥ 0) := by
  rw [pxIdx_any]; rfl
theorem int_le8 (n : Nat) : decide ((n : Int) ≤ 8) = decide (n ≤ 8) := by
  rw [decide_eq_decide]; omega
theorem p_specFlat (ps : List Int) (l : List PR) (hp : ps.length ≤ 2000000) (hl : l.length ≤ 2000000) (hs : ∀ x ∈ l, x.f0.size ≤ 2000000) (k : Nat) (hk : 9000000 ≤ k) : spec_validFlat.f k ps l = some (vflat ps l) := by
  unfold spec_validFlat.f vflat
  refine loop_all0 (fun k i => spec_validFlat.l0 k i ps l) _ _ l.length 6000000 k (by omega) (fun k i hk hi => ?_) (fun k hk => ?_) (by omega)
  · simp only [spec_validFlat.l0]
    rw [if_pos (by omega), if_pos (by omega), if_pos (by omega), Int.toNat_natCast, rdp, p_specPairAt _ _ (by rw [List.length_take]; omega) k (by omega), Option.bind_some, freshAt_idx]
    generalize pxIdx (fun x : PR => x.f0.toList == (l.getD i pz).f0.toList) (l.take i) = q
    by_cases h : q ≥ 0
    · rw [if_pos h, if_neg (by simp [h])]
    · rw [if_neg h, if_pos (by simp [h])]
  · simp only [spec_validFlat.l0]
    rw [if_neg (by omega), p_validNumbers ps hp k (by omega), Option.bind_some, p_validPairs l hl hs k hk, Option.bind_some, int_le8]
    cases ps.all val <;> cases l.all pairOk <;> by_cases h : ps.length ≤ 8 <;> simp [h] <;> omega
theorem p_pairValid (s : ByteArray) (v : Int) (hs : s.size ≤ 2000000) (k : Nat) (hk : 3000000 ≤ k) : impl_Pair_valid.f k s v = some (pxName s && val v) := by
  unfold impl_Pair_valid.f
  rw [p_isName s (by omega) k (by omega), Option.bind_some, p_isValue, Option.bind_some]
  cases pxName s <;> simp
theorem and_range (n : Nat) (p q : Nat → Bool) : ((List.range n).all fun i => p i && q i) = ((List.range n).all p && (List.range n).all q) := by
  induction n with
  | zero => rfl
  | succ n ih =>
    simp only [List.range_succ, List.all_append, List.all_cons, List.all_nil, ih]
    cases (List.range n).all p <;> cases (List.range n).all q <;> cases p n <;> cases q n <;> rfl
theorem p_implFlat (ps : List Int) (l : List PR) (hl : l.length ≤ 2000000) (hs : ∀ x ∈ l, x.f0.size ≤ 2000000) (k : Nat) (hk : 9000000 ≤ k) : impl_ValidFlat.f k ps l = some (vflat ps l) := by
  unfold impl_ValidFlat.f
  have e : vflat ps l = (((List.range l.length).all fun i => pairOk (l.getD i pz) && freshAt l i) && (decide (ps.length ≤ 8) && decide (l.length ≤ 8) && ps.all val)) := by
    rw [and_range, range_all l pz pairOk]
    unfold vflat
    cases (List.range l.length).all (freshAt l) <;> cases ps.all val <;> cases l.all pairOk <;> cases decide (ps.length ≤ 8) <;> cases decide (l.length ≤ 8) <;> rfl
  rw [e]
  refine loop_all0 (fun k i => impl_ValidFlat.l0 k l (l.length : Int) i ps l) _ _ l.length 6000000 k (by omega) (fun k i hk hi => ?_) (fun k hk => ?_) (by omega)
  · simp only [impl_ValidFlat.l0]
    have hsz := hs _ (getD_mem l pz i hi)
    rw [if_pos (by omega), if_pos (by omega), if_pos (by omega), rdp, p_pairValid _ _ hsz k (by omega), Option.bind_some, if_pos (show (i : Int) ≤ (l.length : Int) by omega), Int.toNat_natCast]
    unfold impl_pairAt.f
    rw [Option.bind_some, freshAt_idx]
    unfold pairOk
    cases pxName (l.getD i pz).f0 && val (l.getD i pz).f1 with
    | false => simp
    | true =>
      generalize pxIdx (fun x : PR => x.f0.toList == (l.getD i pz).f0.toList) (l.take i) = q
      by_cases h : q ≥ 0
      · simp [h]
      · simp [h]
  · simp only [impl_ValidFlat.l0]
    rw [if_neg (by omega), p_areValues, Option.bind_some]
    by_cases h1 : ps.length ≤ 8
    · rw [if_pos (by omega)]
      by_cases h2 : l.length ≤ 8
      · rw [if_pos (by omega)]
        simp [h1, h2]
      · rw [if_neg (by omega)]
        simp [h2]
    · rw [if_neg (by omega)]
      simp [h1]
end Go.Proofs.Ytkandhljbbolnaa.Pure

namespace Go.Proofs.Ytkandhljbbolnaa.Pure
open Go.RowKit Go.Proofs.Ytkandhljbbolnaa.Q Go.Proofs.YtkandhljbbolnaaL.PrintWords Go.Proofs.YtkandhljbbolnaaL.PrintLast Go.Proofs.YtkandhljbbolnaaL.PrintMore
set_option linter.unusedVariables false
set_option linter.unusedSimpArgs false
abbrev AR := S110
abbrev az : AR := z110
theorem rda (l : List AR) (i : Nat) : rd_T110 l (i : Int) = l.getD i az := by
  unfold rd_T110
  rw [Int.toNat_natCast]
def SmArg (x : AR) : Prop := x.f1.size ≤ 2000000 ∧ x.f2.length ≤ 2000000 ∧ x.f3.length ≤ 2000000 ∧ ∀ y ∈ x.f3, y.f0.size ≤ 2000000
def argB (x : AR) : Bool := pxArg x.f0 x.f1 x.f2 x.f3
theorem arg_range {x : AR} (h : argB x = true) : x.f0 = 0 ∨ x.f0 = 1 ∨ x.f0 = 2 ∨ x.f0 = 3 := by
  unfold argB pxArg at h
  by_cases h0 : x.f0 = 0
  · exact .inl h0
  by_cases h1 : x.f0 = 1
  · exact .inr (.inl h1)
  by_cases h2 : x.f0 = 2
  · exact .inr (.inr (.inl h2))
  by_cases h3 : x.f0 = 3
  · exact .inr (.inr (.inr h3))
  rw [if_neg h0, if_neg h1, if_neg h2, if_neg h3] at h
  cases h
theorem p_implArg (x : AR) (hs : SmArg x) : impl_Arg_valid.f x.f0 x.f1 x.f2 x.f3 = some (argB x) := by
  unfold impl_Arg_valid.f
  rw [if_pos]
  · rfl
  · obtain ⟨h1, h2, h3, h4⟩ := hs
    rw [Bool.and_eq_true, List.all_eq_true, decide_eq_true_eq]
    exact ⟨fun y hy => decide_eq_true (Nat.le_trans (h4 y hy) (by omega)), by omega⟩
def callAt (l : List AR) (i : Nat) : Bool := argB (l.getD i az) && (i == 0 || !(decide ((l.getD i az).f0 < 2) && decide ((l.getD (i - 1) az).f0 ≥ 2)))
def vcall (l : List AR) : Bool := (List.range l.length).all (callAt l) && decide (l.length ≤ 16)
theorem int_le16 (n : Nat) : decide ((n : Int) ≤ 16) = decide (n ≤ 16) := by
  rw [decide_eq_decide]; omega
theorem p_implCall_l0 (l : List AR) (hl : l.length ≤ 2000000) (hs : ∀ x ∈ l, SmArg x) : ∀ (d k i : Nat) (x3 : Bool), i + d = l.length → x3 = (decide (0 < i) && decide ((l.getD (i - 1) az).f0 ≥ 2)) → d < k →
    impl_ValidCall.l0 k x3 l (l.length : Int) (i : Int) l = some ((List.range' i d).all (callAt l) && decide (l.length ≤ 16)) := by
  intro d
  induction d with
  | zero =>
    intro k i x3 h hx hk
    obtain ⟨k, rfl⟩ : ∃ m, k = m + 1 := ⟨k - 1, by omega⟩
    simp only [impl_ValidCall.l0]
    rw [if_neg (by omega), int_le16]
    simp
  | succ d ih =>
    intro k i x3 h hx hk
    obtain ⟨k, rfl⟩ : ∃ m, k = m + 1 := ⟨k - 1, by omega⟩
    simp only [impl_ValidCall.l0]
    rw [if_pos (by omega), if_pos (by omega), if_pos (by omega), rda, p_implArg _ (hs _ (getD_mem l az i (by omega))), Option.bind_some, Option.bind_some, wrap_succ (n := l.length) (by omega) (by omega), List.range'_succ, List.all_cons]
    have next : ∀ b : Bool, b = decide ((l.getD i az).f0 ≥ 2) → impl_ValidCall.l0 k b l (l.length : Int) ((i + 1 : Nat) : Int) l = some ((List.range' (i + 1) d).all (callAt l) && decide (l.length ≤ 16)) := by
      intro b hb
      refine ih k (i + 1) b (by omega) ?_ (by omega)
      rw [hb, Nat.add_sub_cancel]
      simp
    unfold callAt at next ⊢
    generalize ((List.range' (i + 1) d).all fun i => argB (l.getD i az) && (i == 0 || !(decide ((l.getD i az).f0 < 2) && decide ((l.getD (i - 1) az).f0 ≥ 2)))) = R at next ⊢
    have hr := @arg_range (l.getD i az)
    generalize l.getD i az = x at hr next ⊢
    have hi0 : x3 = true → (i == 0) = false := by
      intro e
      rw [e] at hx
      have := (Bool.and_eq_true _ _ ▸ hx.symm : _ ∧ _).1
      have := of_decide_eq_true this
      simp; omega
    cases hb : argB x with
    | false =>
      by_cases h2 : x.f0 = 2
      · rw [if_pos h2]; rfl
      · rw [if_neg h2]; rfl
    | true =>
      have hr := hr hb
      by_cases h2 : x.f0 = 2
      · rw [if_pos h2, if_pos rfl, ite_self, next true (by rw [h2]; rfl), h2]
        simp
      · rw [if_neg h2, if_pos rfl]
        by_cases h3 : x.f0 = 3
        · rw [if_pos h3, ite_self, next (x.f0 == 3) (by rw [h3]; rfl), h3]
          simp
        · have lt : x.f0 < 2 := by omega
          have nge : ¬ x.f0 ≥ 2 := by omega
          rw [if_neg h3, next (x.f0 == 3) (by rw [decide_eq_false nge]; simpa using h3)]
          cases x3 with
          | true =>
            rw [if_pos rfl, hi0 rfl]
            have := (Bool.and_eq_true _ _ ▸ hx.symm : _ ∧ _).2
            rw [this, decide_eq_true lt]
            rfl
          | false =>
            rw [if_neg (by decide), decide_eq_true lt]
            have : (i == 0 || !(true && decide ((l.getD (i - 1) az).f0 ≥ 2))) = true := by
              by_cases h0 : i = 0
              · simp [h0]
              · have hp : decide (0 < i) = true := decide_eq_true (by omega)
                rw [hp, Bool.true_and] at hx
                rw [← hx]
                simp
            rw [this]
            simp
theorem p_implCall (l : List AR) (hl : l.length ≤ 2000000) (hs : ∀ x ∈ l, SmArg x) (k : Nat) (hk : 9000000 ≤ k) : impl_ValidCall.f k l = some (vcall l) := by
  unfold impl_ValidCall.f vcall
  have := p_implCall_l0 l hl hs l.length k 0 false (by omega) (by simp) (by omega)
  rw [List.range_eq_range']
  exact this
end Go.Proofs.Ytkandhljbbolnaa.Pure

namespace Go.Proofs.Ytkandhljbbolnaa.Pure
open Go.RowKit Go.Proofs.Ytkandhljbbolnaa.Q Go.Proofs.YtkandhljbbolnaaL.PrintWords Go.Proofs.YtkandhljbbolnaaL.PrintLast Go.Proofs.YtkandhljbbolnaaL.PrintMore
set_option linter.unusedVariables false
set_option linter.unusedSimpArgs false
theorem vals_eq (l : List Int) : pxVals l = l.all val := Option.some.inj (p_areValues l)
theorem pairs_eq (m : List PR) : (!m.any fun x => !pxPairOk x) = m.all pairOk := by
  rw [List.not_any_eq_all_not]
  simp only [Bool.not_not]
  rfl
theorem p_specArg (x : AR) (hs : SmArg x) (k : Nat) (hk : 6000000 ≤ k) : spec_validArg.f k x.f0 x.f1 x.f2 x.f3 = some (argB x) := by
  obtain ⟨a, b, l, m⟩ := x
  obtain ⟨h1, h2, h3, h4⟩ := hs
  dsimp only at h1 h2 h3 h4 ⊢
  unfold spec_validArg.f argB pxArg
  dsimp only
  rw [p_validNumbers l h2 k (by omega), p_validName b (by omega) k (by omega), p_validPairs m h3 h4 k hk, vals_eq, pairs_eq]
  simp only [Option.bind_some]
  have i0 : ((m.length : Int) == 0) = (m.length == 0) := by rw [Bool.eq_iff_iff]; simp
  have i1 : ((l.length : Int) = 1) ↔ l.length = 1 := by omega
  have i2 : ((l.length : Int) ≤ 8) ↔ l.length ≤ 8 := by omega
  have i3 : ((l.length : Int) = 0) ↔ l.length = 0 := by omega
  have i4 : ((m.length : Int) ≤ 8) ↔ m.length ≤ 8 := by omega
  rw [i0]
  simp only [i1, i2, i3, i4]
  generalize l.all val = v
  generalize m.all pairOk = u
  generalize (m.length == 0) = z
  by_cases e0 : a = 0
  · rw [if_pos e0, if_pos e0]
    by_cases c1 : b.toList = []
    · rw [if_pos c1]
      by_cases c2 : l.length = 1
      · rw [if_pos c2]
        cases v <;> cases z <;> simp [c1, c2]
      · rw [if_neg c2]
        simp [c1, c2]
    · rw [if_neg c1]
      simp [c1]
  rw [if_neg e0, if_neg e0]
  by_cases e1 : a = 1
  · rw [if_pos e1, if_pos e1]
    by_cases c1 : b.toList = []
    · rw [if_pos c1]
      by_cases c2 : l.length ≤ 8
      · rw [if_pos c2]
        cases v <;> cases z <;> simp [c1, c2]
      · rw [if_neg c2]
        simp [c1, c2]
    · rw [if_neg c1]
      simp [c1]
  rw [if_neg e1, if_neg e1]
  by_cases e2 : a = 2
  · rw [if_pos e2, if_pos e2]
    cases pxName b with
    | false => simp
    | true =>
      rw [if_pos rfl]
      by_cases c2 : l.length = 1
      · rw [if_pos c2]
        cases v <;> cases z <;> simp [c2]
      · rw [if_neg c2]
        simp [c2]
  rw [if_neg e2, if_neg e2]
  by_cases e3 : a = 3
  · rw [if_pos e3, if_pos e3]
    by_cases c1 : b.toList = []
    · rw [if_pos c1]
      by_cases c2 : l.length = 0
      · rw [if_pos c2]
        by_cases c3 : m.length ≤ 8
        · rw [if_pos c3]
          simp [c1, c2, c3]
        · rw [if_neg c3]
          simp [c3]
      · rw [if_neg c2]
        simp [c2]
    · rw [if_neg c1]
      simp [c1]
  rw [if_neg e3, if_neg e3]
theorem p_specCall (l : List AR) (hl : l.length ≤ 2000000) (hs : ∀ x ∈ l, SmArg x) (k : Nat) (hk : 9000000 ≤ k) : spec_validCall.f k l = some (vcall l) := by
  unfold spec_validCall.f vcall
  rw [← int_le16]
  refine loop_all0 (fun k i => spec_validCall.l0 k i l) (callAt l) _ l.length 6000000 k (by omega) (fun k i hk hi => ?_) (fun k _ => ?_) (by omega)
  · simp only [spec_validCall.l0]
    rw [if_pos (by omega), if_pos (by omega), rda, p_specArg _ (hs _ (getD_mem l az i hi)) k (by omega), Option.bind_some]
    unfold callAt
    cases argB (l.getD i az) with
    | false => rfl
    | true =>
      rw [if_pos rfl]
      by_cases h0 : i = 0
      · subst h0
        rw [if_neg (by omega)]
        simp
      · have hp : wrap64 ((i : Int) - 1) = ((i - 1 : Nat) : Int) := by rw [wrap_in (by omega) (by omega)]; omega
        have hz : (i == 0) = false := by simpa using h0
        rw [if_pos (by omega), hp, rda, hz]
        by_cases h2 : (l.getD i az).f0 < 2
        · rw [if_pos h2, if_pos (by omega), if_pos (by omega)]
          by_cases h3 : (l.getD (i - 1) az).f0 ≥ 2
          · rw [if_pos h3, decide_eq_true h2, decide_eq_true h3]
            rfl
          · rw [if_neg h3, decide_eq_true h2, decide_eq_false h3]
            rfl
        · rw [if_neg h2, decide_eq_false h2]
          rfl
  · simp only [spec_validCall.l0]
    rw [if_neg (by omega)]
end Go.Proofs.Ytkandhljbbolnaa.Pure

namespace Go.Proofs.Ytkandhljbbolnaa.Pure
open Go.RowKit Go.Proofs.Ytkandhljbbolnaa.Q Go.Proofs.YtkandhljbbolnaaL.PrintWords Go.Proofs.YtkandhljbbolnaaL.PrintLast Go.Proofs.YtkandhljbbolnaaL.PrintMore
set_option linter.unusedVariables false
set_option linter.unusedSimpArgs false
theorem p_aName {l : List Int} (h : Rdr l) (k : Nat) (hk : 1 ≤ k) {p : Int} (hp : 0 ≤ p) (hp' : p ≤ 1000000) : ∃ s, spec_aName.f k l p = some (s, p + 1) ∧ s.size = 1 ∧ pxName s = true := by
  unfold spec_aName.f
  obtain ⟨v, e, hv⟩ := p_of h k hk hp hp' ([(⟨#[97]⟩ : ByteArray), (⟨#[98]⟩ : ByteArray), (⟨#[99]⟩ : ByteArray), (⟨#[100]⟩ : ByteArray), (⟨#[120]⟩ : ByteArray), (⟨#[121]⟩ : ByteArray), (⟨#[97]⟩ : ByteArray), (⟨#[98]⟩ : ByteArray), (⟨#[99]⟩ : ByteArray)]) (by decide)
  rw [e, Option.bind_some]
  refine ⟨v, rfl, ?_⟩
  simp only [List.mem_cons, List.not_mem_nil, or_false] at hv
  rcases hv with rfl | rfl | rfl | rfl | rfl | rfl | rfl | rfl | rfl <;> exact ⟨rfl, by decide⟩
theorem p_anyName {l : List Int} (h : Rdr l) (k : Nat) (hk : 1 ≤ k) {p : Int} (hp : 0 ≤ p) (hp' : p ≤ 999999) : ∃ s, spec_anyName.f k l p = some (s, p + 2) ∧ s.size ≤ 7 := by
  unfold spec_anyName.f
  obtain ⟨v, e, _, _⟩ := p_pick h k hk hp (by omega) (n := 16) (by omega)
  rw [e, Option.bind_some]
  dsimp only
  have e2 : p + 1 + 1 = p + 2 := by omega
  split
  · obtain ⟨v, e, hv⟩ := p_of h k hk (p := p + 1) (by omega) (by omega) ([(⟨#[]⟩ : ByteArray), (⟨#[65]⟩ : ByteArray), (⟨#[116, 111, 111, 108, 111, 110, 103]⟩ : ByteArray), (⟨#[97, 49]⟩ : ByteArray), (⟨#[97, 98, 99, 100, 101, 102]⟩ : ByteArray)]) (by decide)
    rw [e, Option.bind_some, e2]
    refine ⟨v, rfl, ?_⟩
    simp only [List.mem_cons, List.not_mem_nil, or_false] at hv
    rcases hv with rfl | rfl | rfl | rfl | rfl <;> decide
  · obtain ⟨v, e, h1, _⟩ := p_aName h k hk (p := p + 1) (by omega) (by omega)
    rw [e, Option.bind_some, e2]
    exact ⟨v, rfl, by omega⟩
end Go.Proofs.Ytkandhljbbolnaa.Pure

namespace Go.Proofs.Ytkandhljbbolnaa.Pure
open Go.RowKit Go.Proofs.Ytkandhljbbolnaa.Q Go.Proofs.YtkandhljbbolnaaL.PrintWords Go.Proofs.YtkandhljbbolnaaL.PrintLast Go.Proofs.YtkandhljbbolnaaL.PrintMore
set_option linter.unusedVariables false
set_option linter.unusedSimpArgs false
def putP (l : List PR) (x : PR) : List PR := if pxIdx (fun y : PR => y.f0.toList == x.f0.toList) l ≥ 0 then l.set (pxIdx (fun y : PR => y.f0.toList == x.f0.toList) l).toNat x else l ++ [x]
theorem p_putPair (l : List PR) (s : ByteArray) (v : Int) (hl : l.length ≤ 2000000) (k : Nat) (hk : 3000000 ≤ k) : spec_putPair.f k l s v = some (putP l ⟨s, v⟩) := by
  unfold spec_putPair.f putP
  rw [Option.bind_some, if_pos (by simp; omega), Option.bind_some, List.nil_append, p_specPairAt l s hl k hk, Option.bind_some]
  dsimp only
  rcases pxIdx_range (fun x : PR => x.f0.toList == s.toList) l with e | ⟨i, hi, e⟩
  · rw [e, if_neg (by omega), if_pos (by omega), if_neg (by omega)]
  · rw [e, if_pos (by omega), if_pos (by omega), if_pos (by omega), if_pos (by omega)]
theorem putP_len (l : List PR) (x : PR) : (putP l x).length ≤ l.length + 1 := by
  unfold putP
  split
  · rw [List.length_set]; omega
  · rw [List.length_append]; simp
theorem putP_mem (l : List PR) (x y : PR) (h : y ∈ putP l x) : y = x ∨ y ∈ l := by
  unfold putP at h
  split at h
  · rcases List.mem_or_eq_of_mem_set h with h | h
    · exact .inr h
    · exact .inl h
  · simp at h
    rcases h with h | h
    · exact .inr h
    · exact .inl h
end Go.Proofs.Ytkandhljbbolnaa.Pure

namespace Go.Proofs.Ytkandhljbbolnaa.Pure
open Go.RowKit Go.Proofs.Ytkandhljbbolnaa.Q Go.Proofs.YtkandhljbbolnaaL.PrintWords Go.Proofs.YtkandhljbbolnaaL.PrintLast Go.Proofs.YtkandhljbbolnaaL.PrintMore
set_option linter.unusedVariables false
set_option linter.unusedSimpArgs false
theorem goodFlat_l1 {r : List Int} (h : Rdr r) (ps : List Int) : ∀ (n k : Nat) (p : Int) (l : List PR), 3000000 + n < k → 0 ≤ p → p + 2 * n ≤ 900000 → l.length + n ≤ 1000 → (∀ x ∈ l, x.f0.size ≤ 7) →
    ∃ l' p', spec_goodFlat.l1 k (n : Int) r p ps l = some (ps, l', p') ∧ p ≤ p' ∧ p' ≤ p + 2 * n ∧ l'.length ≤ l.length + n ∧ ∀ x ∈ l', x.f0.size ≤ 7 := by
  intro n
  induction n with
  | zero =>
    intro k p l hk hp hp' hl hs
    obtain ⟨k, rfl⟩ : ∃ m, k = m + 1 := ⟨k - 1, by omega⟩
    simp only [spec_goodFlat.l1]
    rw [if_neg (by omega)]
    exact ⟨l, p, rfl, by omega, by omega, by omega, hs⟩
  | succ n ih =>
    intro k p l hk hp hp' hl hs
    obtain ⟨k, rfl⟩ : ∃ m, k = m + 1 := ⟨k - 1, by omega⟩
    simp only [spec_goodFlat.l1]
    rw [if_pos (by omega)]
    obtain ⟨s, e, h1, _⟩ := p_aName h k (by omega) hp (by omega)
    rw [e, Option.bind_some]
    dsimp only
    obtain ⟨v, e, h2⟩ := p_aNumber h k (by omega) (p := p + 1) (by omega) (by omega)
    rw [e, Option.bind_some]
    dsimp only
    rw [p_putPair l s v (by omega) k (by omega), Option.bind_some]
    have w : wrap64 (((n + 1 : Nat) : Int) - 1) = (n : Int) := by rw [wrap_in (by omega) (by omega)]; omega
    rw [w]
    have hlen := putP_len l ⟨s, v⟩
    obtain ⟨l', p', e, h3, h4, h5, h6⟩ := ih k (p + 1 + 1) (putP l ⟨s, v⟩) (by omega) (by omega) (by omega) (by omega) (fun x hx => by
      rcases putP_mem l _ x hx with rfl | hx
      · show s.size ≤ 7
        omega
      · exact hs x hx)
    exact ⟨l', p', e, by omega, by omega, by omega, h6⟩
theorem goodFlat_l0 {r : List Int} (h : Rdr r) : ∀ (n k : Nat) (p : Int) (ps : List Int) (l : List PR), 4000000 + n < k → 0 ≤ p → p + n ≤ 800000 → ps.length + n ≤ 1000 → l.length ≤ 500 → (∀ x ∈ l, x.f0.size ≤ 7) →
    ∃ ps' l' p', spec_goodFlat.l0 k (n : Int) r p ps l = some (ps', l', p') ∧ p ≤ p' ∧ p' ≤ p + n + 10 ∧ ps'.length ≤ ps.length + n ∧ l'.length ≤ l.length + 3 ∧ ∀ x ∈ l', x.f0.size ≤ 7 := by
  intro n
  induction n with
  | zero =>
    intro k p ps l hk hp hp' hps hl hs
    obtain ⟨k, rfl⟩ : ∃ m, k = m + 1 := ⟨k - 1, by omega⟩
    simp only [spec_goodFlat.l0]
    rw [if_neg (by omega)]
    obtain ⟨v, e, hv⟩ := p_one h k (by omega) hp (by omega) ([1, 2, 0, 3, 0]) (by decide)
    rw [e, Option.bind_some]
    dsimp only
    obtain ⟨n, rfl, hn⟩ : ∃ n : Nat, v = (n : Int) ∧ n ≤ 3 := by
      simp only [List.mem_cons, List.not_mem_nil, or_false] at hv
      exact ⟨v.toNat, by omega, by omega⟩
    obtain ⟨l', p', e, h3, h4, h5, h6⟩ := goodFlat_l1 h ps n k (p + 1) l (by omega) (by omega) (by omega) (by omega) hs
    exact ⟨ps, l', p', e, by omega, by omega, by omega, by omega, h6⟩
  | succ n ih =>
    intro k p ps l hk hp hp' hps hl hs
    obtain ⟨k, rfl⟩ : ∃ m, k = m + 1 := ⟨k - 1, by omega⟩
    simp only [spec_goodFlat.l0]
    rw [if_pos (by omega)]
    obtain ⟨v, e, h2⟩ := p_aNumber h k (by omega) hp (by omega)
    rw [e, Option.bind_some]
    dsimp only
    rw [if_pos (by omega)]
    have w : wrap64 (((n + 1 : Nat) : Int) - 1) = (n : Int) := by rw [wrap_in (by omega) (by omega)]; omega
    rw [w]
    obtain ⟨ps', l', p', e, h3, h4, h5, h6⟩ := ih k (p + 1) (ps ++ [v]) l (by omega) (by omega) (by omega) (by simp; omega) hl hs
    simp at h5
    exact ⟨ps', l', p', e, by omega, by omega, by omega, h6⟩
theorem p_goodFlat {r : List Int} (h : Rdr r) (k : Nat) (hk : 5000000 ≤ k) {p : Int} (hp : 0 ≤ p) (hp' : p ≤ 700000) : ∃ ps l p', spec_goodFlat.f k r p = some (ps, l, p') ∧ p ≤ p' ∧ p' ≤ p + 30 ∧ ps.length ≤ 8 ∧ l.length ≤ 3 ∧ ∀ x ∈ l, x.f0.size ≤ 7 := by
  unfold spec_goodFlat.f
  obtain ⟨v, e, hv⟩ := p_one h k (by omega) hp (by omega) ([2, 1, 3, 0, 4, 8]) (by decide)
  rw [e, Option.bind_some]
  dsimp only
  obtain ⟨n, rfl, hn⟩ : ∃ n : Nat, v = (n : Int) ∧ n ≤ 8 := by
    simp only [List.mem_cons, List.not_mem_nil, or_false] at hv
    exact ⟨v.toNat, by omega, by omega⟩
  obtain ⟨ps, l, p', e, h3, h4, h5, h6, h7⟩ := goodFlat_l0 h n k (p + 1) [] [] (by omega) (by omega) (by omega) (by simp; omega) (by simp) (by simp)
  exact ⟨ps, l, p', e, by omega, by omega, by simpa using (show ps.length ≤ 8 by simp at h5; omega), by simpa using h6, h7⟩
end Go.Proofs.Ytkandhljbbolnaa.Pure

namespace Go.Proofs.Ytkandhljbbolnaa.Pure
open Go.RowKit Go.Proofs.Ytkandhljbbolnaa.Q Go.Proofs.YtkandhljbbolnaaL.PrintWords Go.Proofs.YtkandhljbbolnaaL.PrintLast Go.Proofs.YtkandhljbbolnaaL.PrintMore
set_option linter.unusedVariables false
set_option linter.unusedSimpArgs false
def LowA (x : AR) : Prop := x.f1.size ≤ 7 ∧ x.f2.length ≤ 20 ∧ x.f3.length ≤ 20 ∧ ∀ y ∈ x.f3, y.f0.size ≤ 7
theorem LowA.sm {x : AR} (h : LowA x) : SmArg x := ⟨Nat.le_trans h.1 (by omega), Nat.le_trans h.2.1 (by omega), Nat.le_trans h.2.2.1 (by omega), fun y hy => Nat.le_trans (h.2.2.2 y hy) (by omega)⟩
theorem low_app {acc : List AR} {x : AR} (h : ∀ y ∈ acc, LowA y) (hx : LowA x) : ∀ y ∈ acc ++ [x], LowA y := by
  intro y hy
  rcases List.mem_append.1 hy with hy | hy
  · exact h y hy
  · rw [List.mem_singleton.1 hy]; exact hx
theorem low_set {acc : List AR} {x : AR} (n : Nat) (h : ∀ y ∈ acc, LowA y) (hx : LowA x) : ∀ y ∈ acc.set n x, LowA y := by
  intro y hy
  rcases List.mem_or_eq_of_mem_set hy with hy | hy
  · exact h y hy
  · rw [hy]; exact hx
theorem goodCall_l1 {r : List Int} (h : Rdr r) : ∀ (n k : Nat) (p : Int) (acc : List AR), 6000000 + n < k → 0 ≤ p → p + 50 * n ≤ 500000 → acc.length ≤ 100 - n → n ≤ 3 → (∀ x ∈ acc, LowA x) →
    ∃ acc' p', spec_goodCallOf.l1 k (n : Int) r p acc = some (acc', p') ∧ p ≤ p' ∧ p' ≤ p + 50 * n ∧ acc'.length ≤ acc.length + n ∧ ∀ x ∈ acc', LowA x := by
  intro n
  induction n with
  | zero =>
    intro k p acc hk hp hp' hl hn hs
    obtain ⟨k, rfl⟩ : ∃ m, k = m + 1 := ⟨k - 1, by omega⟩
    simp only [spec_goodCallOf.l1]
    rw [if_neg (by omega)]
    exact ⟨acc, p, rfl, by omega, by omega, by omega, hs⟩
  | succ n ih =>
    intro k p acc hk hp hp' hl hn hs
    obtain ⟨k, rfl⟩ : ∃ m, k = m + 1 := ⟨k - 1, by omega⟩
    simp only [spec_goodCallOf.l1]
    rw [if_pos (by omega)]
    have w : wrap64 (((n + 1 : Nat) : Int) - 1) = (n : Int) := by rw [wrap_in (by omega) (by omega)]; omega
    obtain ⟨v, e, _, _⟩ := p_pick h k (by omega) hp (by omega) (n := 3) (by omega)
    rw [e, Option.bind_some]
    dsimp only
    split
    · obtain ⟨ps, ns, p', e, g1, g2, g3, g4, g5⟩ := p_goodFlat h k (by omega) (p := p + 1) (by omega) (by omega)
      rw [e, Option.bind_some]
      dsimp only
      rw [if_pos (by omega), w]
      obtain ⟨acc', q, e, h3, h4, h5, h6⟩ := ih k p' (acc ++ [⟨3, ⟨#[]⟩, [], ns⟩]) (by omega) (by omega) (by omega) (by simp; omega) (by omega) (low_app hs ⟨by show (0 : Nat) ≤ 7; omega, by simp, Nat.le_trans g4 (by omega), g5⟩)
      simp at h5
      exact ⟨acc', q, e, by omega, by omega, by omega, h6⟩
    · obtain ⟨s, e, h1, _⟩ := p_aName h k (by omega) (p := p + 1) (by omega) (by omega)
      rw [e, Option.bind_some]
      dsimp only
      obtain ⟨v, e, h2⟩ := p_aNumber h k (by omega) (p := p + 1 + 1) (by omega) (by omega)
      rw [e, Option.bind_some]
      dsimp only
      rw [if_pos (by omega), w]
      obtain ⟨acc', q, e, h3, h4, h5, h6⟩ := ih k (p + 1 + 1 + 1) (acc ++ [⟨2, s, [v], []⟩]) (by omega) (by omega) (by omega) (by simp; omega) (by omega) (low_app hs ⟨by show s.size ≤ 7; omega, by simp, by simp, by simp⟩)
      simp at h5
      exact ⟨acc', q, e, by omega, by omega, by omega, h6⟩
theorem goodCall_l0 {r : List Int} (h : Rdr r) : ∀ (n k : Nat) (p : Int) (acc : List AR), 7000000 + n < k → 0 ≤ p → p + 50 * n ≤ 400000 → acc.length ≤ 50 - n → n ≤ 3 → (∀ x ∈ acc, LowA x) →
    ∃ acc' p', spec_goodCallOf.l0 k (n : Int) r p acc = some (acc', p') ∧ p ≤ p' ∧ p' ≤ p + 50 * n + 200 ∧ acc'.length ≤ acc.length + n + 3 ∧ ∀ x ∈ acc', LowA x := by
  intro n
  induction n with
  | zero =>
    intro k p acc hk hp hp' hl hn hs
    obtain ⟨k, rfl⟩ : ∃ m, k = m + 1 := ⟨k - 1, by omega⟩
    simp only [spec_goodCallOf.l0]
    rw [if_neg (by omega)]
    obtain ⟨v, e, hv⟩ := p_one h k (by omega) hp (by omega) ([2, 1, 0, 3]) (by decide)
    rw [e, Option.bind_some]
    dsimp only
    obtain ⟨n, rfl, hn⟩ : ∃ n : Nat, v = (n : Int) ∧ n ≤ 3 := by
      simp only [List.mem_cons, List.not_mem_nil, or_false] at hv
      exact ⟨v.toNat, by omega, by omega⟩
    obtain ⟨acc', q, e, h3, h4, h5, h6⟩ := goodCall_l1 h n k (p + 1) acc (by omega) (by omega) (by omega) (by omega) hn hs
    exact ⟨acc', q, e, by omega, by omega, by omega, h6⟩
  | succ n ih =>
    intro k p acc hk hp hp' hl hn hs
    obtain ⟨k, rfl⟩ : ∃ m, k = m + 1 := ⟨k - 1, by omega⟩
    simp only [spec_goodCallOf.l0]
    rw [if_pos (by omega)]
    have w : wrap64 (((n + 1 : Nat) : Int) - 1) = (n : Int) := by rw [wrap_in (by omega) (by omega)]; omega
    obtain ⟨v, e, _, _⟩ := p_pick h k (by omega) hp (by omega) (n := 3) (by omega)
    rw [e, Option.bind_some]
    dsimp only
    split
    · obtain ⟨ps, ns, p', e, g1, g2, g3, g4, g5⟩ := p_goodFlat h k (by omega) (p := p + 1) (by omega) (by omega)
      rw [e, Option.bind_some]
      dsimp only
      rw [if_pos (by omega), w]
      obtain ⟨acc', q, e, h3, h4, h5, h6⟩ := ih k p' (acc ++ [⟨1, ⟨#[]⟩, ps, []⟩]) (by omega) (by omega) (by omega) (by simp; omega) (by omega) (low_app hs ⟨by show (0 : Nat) ≤ 7; omega, Nat.le_trans g3 (by omega), by simp, by simp⟩)
      simp at h5
      exact ⟨acc', q, e, by omega, by omega, by omega, h6⟩
    · obtain ⟨v, e, h2⟩ := p_aNumber h k (by omega) (p := p + 1) (by omega) (by omega)
      rw [e, Option.bind_some]
      dsimp only
      rw [if_pos (by omega), w]
      obtain ⟨acc', q, e, h3, h4, h5, h6⟩ := ih k (p + 1 + 1) (acc ++ [⟨0, ⟨#[]⟩, [v], []⟩]) (by omega) (by omega) (by omega) (by simp; omega) (by omega) (low_app hs ⟨by show (0 : Nat) ≤ 7; omega, by simp, by simp, by simp⟩)
      simp at h5
      exact ⟨acc', q, e, by omega, by omega, by omega, h6⟩
theorem p_goodCall {r : List Int} (h : Rdr r) (k : Nat) (hk : 8000000 ≤ k) {p : Int} (hp : 0 ≤ p) (hp' : p ≤ 300000) : ∃ acc' p', spec_goodCallOf.f k r p = some (acc', p') ∧ p ≤ p' ∧ p' ≤ p + 400 ∧ acc'.length ≤ 6 ∧ ∀ x ∈ acc', LowA x := by
  unfold spec_goodCallOf.f
  obtain ⟨v, e, hv⟩ := p_one h k (by omega) hp (by omega) ([2, 1, 3, 0]) (by decide)
  rw [e, Option.bind_some]
  dsimp only
  obtain ⟨n, rfl, hn⟩ : ∃ n : Nat, v = (n : Int) ∧ n ≤ 3 := by
    simp only [List.mem_cons, List.not_mem_nil, or_false] at hv
    exact ⟨v.toNat, by omega, by omega⟩
  obtain ⟨acc', q, e, h3, h4, h5, h6⟩ := goodCall_l0 h n k (p + 1) [] (by omega) (by omega) (by omega) (by simp) hn (by simp)
  simp at h5
  exact ⟨acc', q, e, by omega, by omega, by omega, h6⟩
theorem p_someCall {r : List Int} (h : Rdr r) (k : Nat) (hk : 8000000 ≤ k) {p : Int} (hp : 0 ≤ p) (hp' : p ≤ 300000) : ∃ acc' p', spec_someCall.f k r p = some (acc', p') ∧ acc'.length ≤ 7 ∧ ∀ x ∈ acc', SmArg x := by
  unfold spec_someCall.f
  obtain ⟨l, p1, e, h1, h2, h3, h4⟩ := p_goodCall h k hk hp hp'
  rw [e, Option.bind_some]
  dsimp only
  have sm : ∀ x ∈ l, SmArg x := fun x hx => (h4 x hx).sm
  by_cases c : (l.length : Int) > 0
  case neg =>
    rw [if_neg c]
    exact ⟨_, _, rfl, by omega, sm⟩
  rw [if_pos c]
  obtain ⟨v, e, hv0, hv1⟩ := p_pick h k (by omega) (p := p1) (by omega) (by omega) (n := (l.length : Int)) (by omega)
  rw [e, Option.bind_some]
  dsimp only
  obtain ⟨n, rfl⟩ : ∃ n : Nat, v = (n : Int) := ⟨v.toNat, by omega⟩
  have hx : LowA (l.getD n az) := h4 _ (getD_mem l az n (by omega))
  obtain ⟨v, e, _, _⟩ := p_pick h k (by omega) (p := p1 + 1) (by omega) (by omega) (n := 24) (by omega)
  rw [e, Option.bind_some]
  dsimp only
  simp only [rda]
  by_cases c0 : v = 0
  · rw [if_pos c0]
    obtain ⟨u, e, _⟩ := p_one h k (by omega) (p := p1 + 1 + 1) (by omega) (by omega) ([-1, 4, 0, 3]) (by decide)
    rw [e, Option.bind_some, if_pos hv0, if_pos hv1]
    exact ⟨_, _, rfl, by rw [List.length_set]; omega, fun x hm => (low_set _ h4 (show LowA ⟨u, _, _, _⟩ from ⟨hx.1, hx.2.1, hx.2.2.1, hx.2.2.2⟩) x hm).sm⟩
  rw [if_neg c0]
  by_cases c1 : v = 1
  · rw [if_pos c1, if_pos hv0, if_pos hv1]
    obtain ⟨u, e, _, _⟩ := p_anyNumber h k (by omega) (p := p1 + 1 + 1) (by omega) (by omega)
    rw [e, Option.bind_some, if_pos (Nat.lt_of_le_of_lt hx.2.1 (by omega))]
    refine ⟨_, _, rfl, by rw [List.length_set]; omega, fun x hm => ?_⟩
    rcases List.mem_or_eq_of_mem_set hm with hm | hm
    · exact sm x hm
    · rw [hm]
      refine ⟨hx.sm.1, ?_, hx.sm.2.2.1, hx.sm.2.2.2⟩
      show ((l.getD n az).f2 ++ [_]).length ≤ 2000000
      rw [List.length_append, List.length_singleton]
      have := hx.2.1
      omega
  rw [if_neg c1]
  by_cases c2 : v = 2
  · rw [if_pos c2]
    obtain ⟨s, e, hs⟩ := p_anyName h k (by omega) (p := p1 + 1 + 1) (by omega) (by omega)
    rw [e, Option.bind_some, if_pos hv0, if_pos hv1]
    exact ⟨_, _, rfl, by rw [List.length_set]; omega, fun x hm => (low_set _ h4 (show LowA ⟨_, s, _, _⟩ from ⟨hs, hx.2.1, hx.2.2.1, hx.2.2.2⟩) x hm).sm⟩
  rw [if_neg c2]
  by_cases c3 : v = 3
  · rw [if_pos c3, if_pos c, if_pos (by omega)]
    have h0 : LowA (rd_T110 l 0) := by
      rw [show (0 : Int) = ((0 : Nat) : Int) from rfl, rda]
      exact h4 _ (getD_mem l az 0 (by omega))
    exact ⟨_, _, rfl, by rw [List.length_append]; simp; omega, fun x hm => (low_app h4 (show LowA ⟨_, _, _, _⟩ from h0) x hm).sm⟩
  rw [if_neg c3]
  exact ⟨_, _, rfl, by omega, sm⟩
end Go.Proofs.Ytkandhljbbolnaa.Pure
