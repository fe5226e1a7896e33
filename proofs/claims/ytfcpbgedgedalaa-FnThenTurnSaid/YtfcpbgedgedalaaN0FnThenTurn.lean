-- written by px.py and merge.py (programs of this claim's), over the kit's print. Not trusted: Lean checks it.
import Derived.Test.YtfcpbgedgedalaaLMore
import Derived.Test.YtfcpbgedgedalaaM1FnThenTurn
import Derived.Test.YtfcpbgedgedalaaM0FnThenTurn
import Derived.Test.YtfcpbgedgedalaaM2FnThenTurn
import Derived.Test.YtfcpbgedgedalaaM3FnThenTurn
import Derived.Test.YtfcpbgedgedalaaM4FnThenTurn
import Derived.Test.YtfcpbgedgedalaaM5FnThenTurn
namespace Go.Proofs.Ytfcpbgedgedalaa.Pure
open Go.RowKit Go.Proofs.Ytfcpbgedgedalaa.Q Go.Proofs.YtfcpbgedgedalaaL.PrintWords Go.Proofs.YtfcpbgedgedalaaL.PrintLast Go.Proofs.YtfcpbgedgedalaaL.PrintMore
set_option linter.unusedVariables false
set_option linter.unusedSimpArgs false

/-- A number of a call. -/
def val (v : Int) : Bool := decide (-99 ≤ v) && decide (v ≤ 99)
theorem p_inRange (a lo hi : Int) : spec_inRange.f a lo hi = some (decide (lo ≤ a) && decide (a ≤ hi)) := by
  unfold spec_inRange.f
  split <;> simp [*]
theorem p_in (a lo hi : Int) : impl_in.f a lo hi = some (decide (lo ≤ a) && decide (a ≤ hi)) := by
  unfold impl_in.f
  split
  · have : lo ≤ a := by omega
    simp [this]
  · have : ¬ lo ≤ a := by omega
    simp [this]
theorem p_isValue (v : Int) : impl_isValue.f v = some (val v) := by
  unfold impl_isValue.f val
  simp [p_in]
theorem p_validNumber (v : Int) : spec_validNumber.f v = some (val v) := by
  unfold spec_validNumber.f val
  simp [p_inRange]
theorem bt_eq (s t : ByteArray) : (s.toList == t.toList) = (s.data.toList == t.data.toList) := by
  rw [ByteArray.toList_eq, ByteArray.toList_eq]
theorem bt_eqv (s t : ByteArray) : s.toList = t.toList ↔ s = t := by
  rw [ByteArray.toList_eq, ByteArray.toList_eq]
  constructor
  · intro h
    cases s; cases t
    simp only at h
    exact congrArg _ (Array.toList_inj.1 h)
  · rintro rfl; rfl
/-- A loop that ends with false at the first place that is not good. -/
theorem loop_all (F : Nat → Int → Option Bool) (P : Nat → Bool) (T : Bool) (n B : Nat) (hn : n ≤ 9223372036854775807)
    (hstep : ∀ k i, B ≤ k → i < n → F (k + 1) (i : Int) = if P i = true then F k (wrap64 ((i : Int) + 1)) else some false) (hend : ∀ k, B ≤ k → F (k + 1) (n : Int) = some T) :
    ∀ d k i, i + d = n → B + d < k → F k (i : Int) = some ((List.range' i d).all P && T) := by
  intro d
  induction d with
  | zero =>
    intro k i h hk
    obtain ⟨k, rfl⟩ : ∃ m, k = m + 1 := ⟨k - 1, by omega⟩
    obtain rfl : i = n := by omega
    rw [hend k (by omega)]
    simp
  | succ d ih =>
    intro k i h hk
    obtain ⟨k, rfl⟩ : ∃ m, k = m + 1 := ⟨k - 1, by omega⟩
    rw [hstep k i (by omega) (by omega), wrap_succ (n := n) (by omega) hn, ih k (i + 1) (by omega) (by omega), List.range'_succ, List.all_cons]
    cases P i <;> simp
theorem loop_all0 (F : Nat → Int → Option Bool) (P : Nat → Bool) (T : Bool) (n B k : Nat) (hn : n ≤ 9223372036854775807)
    (hstep : ∀ k i, B ≤ k → i < n → F (k + 1) (i : Int) = if P i = true then F k (wrap64 ((i : Int) + 1)) else some false) (hend : ∀ k, B ≤ k → F (k + 1) (n : Int) = some T)
    (hk : B + n < k) : F k 0 = some ((List.range n).all P && T) := by
  have := loop_all F P T n B hn hstep hend n k 0 (by omega) hk
  rw [List.range_eq_range']
  exact this
theorem name_loop (s : ByteArray) : ((List.range s.size).all fun i => decide (97 ≤ bt s (i : Int)) && decide (bt s (i : Int) ≤ 122)) = s.data.toList.all (fun c => decide (97 ≤ c.toNat) && decide (c.toNat ≤ 122)) := by
  rw [Bool.eq_iff_iff, List.all_eq_true, List.all_eq_true]
  constructor
  · intro h c hc
    obtain ⟨i, hi, rfl⟩ := List.mem_iff_getElem.1 hc
    have hi' : i < s.size := by simpa using hi
    have := h i (List.mem_range.2 hi')
    rw [bt_nat s i hi'] at this
    simp only [Bool.and_eq_true, decide_eq_true_eq] at this ⊢
    have e : s.data.toList[i] = s[i] := rfl
    rw [e]
    omega
  · intro h i hi
    have hi' := List.mem_range.1 hi
    have := h s[i] (by
      have : s[i] = s.data.toList[i]'(by simpa using hi') := rfl
      rw [this]; exact List.getElem_mem _)
    rw [bt_nat s i hi']
    simp only [Bool.and_eq_true, decide_eq_true_eq] at this ⊢
    omega
theorem name_size (s : ByteArray) : (decide ((1 : Int) ≤ (s.size : Int)) && decide ((s.size : Int) ≤ 6)) = (decide (1 ≤ s.size) && decide (s.size ≤ 6)) := by
  rw [Bool.eq_iff_iff]
  simp only [Bool.and_eq_true, decide_eq_true_eq]
  omega
theorem p_validName (s : ByteArray) (hs : s.size ≤ 9223372036854775807) (k : Nat) (hk : s.size < k) : spec_validName.f k s = some (pxName s) := by
  unfold spec_validName.f pxName
  rw [← name_loop]
  refine loop_all0 (fun k i => spec_validName.l0 k s i) _ _ s.size 0 k hs (fun k i _ hi => ?_) (fun k _ => ?_) (by omega)
  · simp only [spec_validName.l0]
    rw [if_pos (by omega), if_pos (by omega)]
    by_cases h1 : bt s (i : Int) < 97
    · have : ¬ 97 ≤ bt s (i : Int) := by omega
      simp [h1, this]
    · have h1' : 97 ≤ bt s (i : Int) := by omega
      by_cases h2 : bt s (i : Int) > 122
      · have : ¬ bt s (i : Int) ≤ 122 := by omega
        simp [h1, h2, this]
      · have : bt s (i : Int) ≤ 122 := by omega
        simp [h1, h2, this, h1']
  · simp only [spec_validName.l0]
    rw [if_neg (by omega), p_inRange, Option.bind_some, name_size]
theorem p_isName (s : ByteArray) (hs : s.size ≤ 9223372036854775807) (k : Nat) (hk : s.size < k) : impl_isName.f k s = some (pxName s) := by
  unfold impl_isName.f pxName
  rw [← name_loop]
  refine loop_all0 (fun k i => impl_isName.l0 k s i) _ _ s.size 0 k hs (fun k i _ hi => ?_) (fun k _ => ?_) (by omega)
  · simp only [impl_isName.l0]
    rw [if_pos (by omega), if_pos (by omega)]
    by_cases h1 : bt s (i : Int) < 97
    · have : ¬ 97 ≤ bt s (i : Int) := by omega
      simp [h1, this]
    · have h1' : 97 ≤ bt s (i : Int) := by omega
      by_cases h2 : bt s (i : Int) > 122
      · have : ¬ bt s (i : Int) ≤ 122 := by omega
        simp [h1, h2, this]
      · have : bt s (i : Int) ≤ 122 := by omega
        simp [h1, h2, this, h1']
  · simp only [impl_isName.l0]
    rw [if_neg (by omega), p_in, Option.bind_some, name_size]

theorem wrap_in {n : Int} (h1 : -9223372036854775808 ≤ n) (h2 : n ≤ 9223372036854775807) : wrap64 n = n := by
  unfold wrap64
  omega
end Go.Proofs.Ytfcpbgedgedalaa.Pure

namespace Go.Proofs.Ytfcpbgedgedalaa.Pure
open Go.RowKit Go.Proofs.Ytfcpbgedgedalaa.Q Go.Proofs.YtfcpbgedgedalaaL.PrintWords Go.Proofs.YtfcpbgedgedalaaL.PrintLast Go.Proofs.YtfcpbgedgedalaaL.PrintMore
set_option linter.unusedVariables false
set_option linter.unusedSimpArgs false
/-! ### what is drawn -/
/-- A reader's row. -/
structure Rdr (l : List Int) : Prop where
  len : l.length ≤ 2000
  byte : ∀ x ∈ l, 0 ≤ x ∧ x ≤ 255
theorem Rdr.rd {l : List Int} (h : Rdr l) (i : Int) : 0 ≤ rd l i ∧ rd l i ≤ 255 := by
  unfold Go.Proofs.YtfcpbgedgedalaaL.PrintWords.rd
  rw [List.getD_eq_getElem?_getD]
  rcases hq : l[i.toNat]? with _ | x
  · simp
  · exact h.byte x (List.mem_of_getElem? hq)
theorem xor_nonneg {a b : Int} (ha : 0 ≤ a) (ha' : a < 1099511627776) (hb : 0 ≤ b) (hb' : b < 1099511627776) : 0 ≤ Go.bits .xor .i64 a b := by
  obtain ⟨a, rfl⟩ := Int.eq_ofNat_of_zero_le ha
  obtain ⟨b, rfl⟩ := Int.eq_ofNat_of_zero_le hb
  have h1 : a < 2 ^ 40 := by omega
  have h2 : b < 2 ^ 40 := by omega
  have h3 := Nat.xor_lt_two_pow h1 h2
  have e1 : a % 2 ^ IntKind.i64.bits = a := Nat.mod_eq_of_lt (by simp only [IntKind.bits]; omega)
  have e2 : b % 2 ^ IntKind.i64.bits = b := Nat.mod_eq_of_lt (by simp only [IntKind.bits]; omega)
  simp only [Go.bits, BitVec.ofInt_natCast, BitVec.toNat_xor, BitVec.toNat_ofNat, e1, e2]
  rw [IntKind.wrap_i64]
  omega
theorem tmod_in {a n : Int} (ha : 0 ≤ a) (hn : 0 < n) : 0 ≤ Int.tmod a n ∧ Int.tmod a n < n := ⟨Int.tmod_nonneg _ ha, Int.tmod_lt_of_pos _ hn⟩
theorem p_pick {l : List Int} (h : Rdr l) (k : Nat) (hk : 1 ≤ k) {p n : Int} (hp : 0 ≤ p) (hp' : p ≤ 1000000) (hn : 1 ≤ n) : ∃ v, spec_reader_pick.f k l p n = some (v, p + 1) ∧ 0 ≤ v ∧ v < n := by
  obtain ⟨k, rfl⟩ : ∃ m, k = m + 1 := ⟨k - 1, by omega⟩
  have w1 : wrap64 (p + 1) = p + 1 := wrap_in (by omega) (by omega)
  have w2 : wrap64 (p + 1 - 1) = p := by rw [wrap_in (by omega) (by omega)]; omega
  unfold spec_reader_pick.f
  rw [if_neg (by omega)]
  simp only [spec_reader_pick.j0]
  rw [w1]
  by_cases h0 : l.length = 0
  · rw [if_pos (by simp [h0])]
    exact ⟨0, rfl, by omega, by omega⟩
  · have hL : 0 < (l.length : Int) := by omega
    have hlen := h.len
    rw [if_neg (by simpa using h0)]
    simp only [w2]
    by_cases h1 : p < (l.length : Int)
    · rw [if_pos h1, if_pos hp, if_neg (by omega)]
      have hr := h.rd p
      rw [wrap_in (n := rd l p) (by omega) (by omega)]
      have := tmod_in hr.1 (show 0 < n by omega)
      exact ⟨_, rfl, this.1, this.2⟩
    · have t1 := tmod_in hp hL
      have e1 : wrap64 (p * 7) = p * 7 := wrap_in (by omega) (by omega)
      have e2 : wrap64 (p * 7 + 3) = p * 7 + 3 := wrap_in (by omega) (by omega)
      rw [e1, e2]
      have t2 := tmod_in (show 0 ≤ p * 7 + 3 by omega) hL
      rw [if_neg h1, if_neg (by omega), if_pos t1.1, if_pos t1.2, if_pos t2.1, if_pos t2.2, if_neg (by omega)]
      have r1 := h.rd (Int.tmod p (l.length : Int))
      have r2 := h.rd (Int.tmod (p * 7 + 3) (l.length : Int))
      generalize rd l (Int.tmod p (l.length : Int)) = x at r1 ⊢
      generalize rd l (Int.tmod (p * 7 + 3) (l.length : Int)) = y at r2 ⊢
      have d1 : 0 ≤ Int.tdiv p (l.length : Int) := Int.tdiv_nonneg hp (by omega)
      have d2 : Int.tdiv p (l.length : Int) ≤ p := Int.tdiv_le_self _ hp
      generalize Int.tdiv p (l.length : Int) = z at d1 d2 ⊢
      rw [wrap_in (n := x) (by omega) (by omega), wrap_in (n := y) (by omega) (by omega), wrap_in (n := z) (by omega) (by omega), wrap_in (n := x * 131) (by omega) (by omega), wrap_in (n := y * 1117) (by omega) (by omega), wrap_in (n := p * 29) (by omega) (by omega), wrap_in (n := z * 53) (by omega) (by omega), wrap_in (n := x * 131 + y * 1117) (by omega) (by omega), wrap_in (n := x * 131 + y * 1117 + p * 29) (by omega) (by omega), wrap_in (n := x * 131 + y * 1117 + p * 29 + z * 53) (by omega) (by omega)]
      have a0 : 0 ≤ x * 131 + y * 1117 + p * 29 + z * 53 := by omega
      have a1 : x * 131 + y * 1117 + p * 29 + z * 53 < 1099511627776 := by omega
      generalize x * 131 + y * 1117 + p * 29 + z * 53 = u at a0 a1 ⊢
      have b0 : 0 ≤ Int.tdiv u 64 := Int.tdiv_nonneg a0 (by omega)
      have b1 : Int.tdiv u 64 ≤ u := Int.tdiv_le_self _ a0
      rw [wrap_in (n := Int.tdiv u 64) (by omega) (by omega)]
      have := tmod_in (xor_nonneg a0 a1 b0 (by omega)) (show 0 < n by omega)
      exact ⟨_, rfl, this.1, this.2⟩
theorem rd_mem {l : List Int} {i : Int} (h0 : 0 ≤ i) (h1 : i < (l.length : Int)) : rd l i ∈ l := by
  unfold Go.Proofs.YtfcpbgedgedalaaL.PrintWords.rd
  rw [List.getD_eq_getElem?_getD, List.getElem?_eq_getElem (by omega)]
  exact List.getElem_mem _
theorem p_one {l : List Int} (h : Rdr l) (k : Nat) (hk : 1 ≤ k) {p : Int} (hp : 0 ≤ p) (hp' : p ≤ 1000000) (xs : List Int) (hx : 1 ≤ xs.length) : ∃ v, spec_reader_one.f k l p xs = some (v, p + 1) ∧ v ∈ xs := by
  unfold spec_reader_one.f
  obtain ⟨v, e, h0, h1⟩ := p_pick h k hk hp hp' (n := (xs.length : Int)) (by omega)
  rw [e, Option.bind_some]
  dsimp only
  rw [if_pos h0, if_pos h1]
  exact ⟨_, rfl, rd_mem h0 h1⟩
theorem p_of {l : List Int} (h : Rdr l) (k : Nat) (hk : 1 ≤ k) {p : Int} (hp : 0 ≤ p) (hp' : p ≤ 1000000) (xs : List ByteArray) (hx : 1 ≤ xs.length) : ∃ v, spec_reader_of.f k l p xs = some (v, p + 1) ∧ v ∈ xs := by
  unfold spec_reader_of.f
  obtain ⟨v, e, h0, h1⟩ := p_pick h k hk hp hp' (n := (xs.length : Int)) (by omega)
  rw [e, Option.bind_some]
  dsimp only
  rw [if_pos h0, if_pos h1]
  refine ⟨_, rfl, ?_⟩
  unfold rdOf
  rw [List.getD_eq_getElem?_getD, List.getElem?_eq_getElem (by omega)]
  exact List.getElem_mem _
theorem p_newReader (l : List Int) (hb : ∀ x ∈ l, (Lit.int .u8 x).wf = true) : ∃ m, spec_newReader.f l = some (m, 0) ∧ Rdr m := by
  have hb' : ∀ x ∈ l, 0 ≤ x ∧ x ≤ 255 := by
    intro x hx
    have := hb x hx
    simp [Lit.wf, IntKind.min, IntKind.max, IntKind.signed, IntKind.bits] at this
    omega
  unfold spec_newReader.f
  by_cases h : (l.length : Int) > 2000
  · rw [if_pos h, if_pos (by omega)]
    exact ⟨_, rfl, by rw [List.length_take]; omega, fun x hx => hb' x (List.mem_of_mem_take hx)⟩
  · rw [if_neg h]
    exact ⟨_, rfl, by omega, hb'⟩
end Go.Proofs.Ytfcpbgedgedalaa.Pure

namespace Go.Proofs.Ytfcpbgedgedalaa.Pure
open Go.RowKit Go.Proofs.Ytfcpbgedgedalaa.Q Go.Proofs.YtfcpbgedgedalaaL.PrintWords Go.Proofs.YtfcpbgedgedalaaL.PrintLast Go.Proofs.YtfcpbgedgedalaaL.PrintMore
set_option linter.unusedVariables false
set_option linter.unusedSimpArgs false
theorem range_all {α : Type} (l : List α) (d : α) (p : α → Bool) : ((List.range l.length).all fun i => p (l.getD i d)) = l.all p := by
  rw [Bool.eq_iff_iff, List.all_eq_true, List.all_eq_true]
  constructor
  · intro h x hx
    obtain ⟨i, hi, rfl⟩ := List.mem_iff_getElem.1 hx
    have := h i (List.mem_range.2 hi)
    rwa [List.getD_eq_getElem?_getD, List.getElem?_eq_getElem hi] at this
  · intro h i hi
    have hi' := List.mem_range.1 hi
    rw [List.getD_eq_getElem?_getD, List.getElem?_eq_getElem hi']
    exact h _ (List.getElem_mem _)
theorem getD_mem {α : Type} (l : List α) (d : α) (i : Nat) (h : i < l.length) : l.getD i d ∈ l := by
  rw [List.getD_eq_getElem?_getD, List.getElem?_eq_getElem h]
  exact List.getElem_mem _
theorem rd_nat (l : List Int) (i : Nat) : rd l (i : Int) = l.getD i 0 := by
  unfold Go.Proofs.YtfcpbgedgedalaaL.PrintWords.rd
  rw [Int.toNat_natCast]
theorem rdOf_nat {α : Type} (d : α) (l : List α) (i : Nat) : rdOf d l (i : Int) = l.getD i d := by
  unfold rdOf
  rw [Int.toNat_natCast]
/-- A loop that looks for the first one. -/
theorem loop_find {α : Type} (F : Nat → Int → Option Int) (l : List α) (d : α) (p : α → Bool) (B : Nat) (hn : l.length ≤ 9223372036854775807)
    (hstep : ∀ k i, B ≤ k → i < l.length → F (k + 1) (i : Int) = if p (l.getD i d) = true then some (i : Int) else F k (wrap64 ((i : Int) + 1))) (hend : ∀ k, B ≤ k → F (k + 1) (l.length : Int) = some (-1)) :
    ∀ e k i, i + e = l.length → B + e < k → (∀ j, j < i → p (l.getD j d) = false) → F k (i : Int) = some (pxIdx p l) := by
  intro e
  induction e with
  | zero =>
    intro k i h hk hm
    obtain ⟨k, rfl⟩ : ∃ m, k = m + 1 := ⟨k - 1, by omega⟩
    obtain rfl : i = l.length := by omega
    rw [hend k (by omega), pxIdx_miss p l d hm]
  | succ e ih =>
    intro k i h hk hm
    obtain ⟨k, rfl⟩ : ∃ m, k = m + 1 := ⟨k - 1, by omega⟩
    rw [hstep k i (by omega) (by omega)]
    cases hq : p (l.getD i d) with
    | true => rw [if_pos rfl, pxIdx_hit p l d i (by omega) hq hm]
    | false =>
      rw [if_neg (by simp), wrap_succ (n := l.length) (by omega) hn]
      refine ih k (i + 1) (by omega) (by omega) (fun j hj => ?_)
      by_cases e : j = i
      · rw [e]; exact hq
      · exact hm j (by omega)
theorem loop_find0 {α : Type} (F : Nat → Int → Option Int) (l : List α) (d : α) (p : α → Bool) (B k : Nat) (hn : l.length ≤ 9223372036854775807)
    (hstep : ∀ k i, B ≤ k → i < l.length → F (k + 1) (i : Int) = if p (l.getD i d) = true then some (i : Int) else F k (wrap64 ((i : Int) + 1))) (hend : ∀ k, B ≤ k → F (k + 1) (l.length : Int) = some (-1))
    (hk : B + l.length < k) : F k 0 = some (pxIdx p l) :=
  loop_find F l d p B hn hstep hend l.length k 0 (by omega) hk (fun j hj => absurd hj (Nat.not_lt_zero _))
theorem pxIdx_range {α : Type} (p : α → Bool) (l : List α) : pxIdx p l = -1 ∨ ∃ i : Nat, i < l.length ∧ pxIdx p l = (i : Int) := by
  unfold pxIdx
  cases h : l.findIdx? p with
  | none => exact .inl rfl
  | some i =>
    rw [List.findIdx?_eq_some_iff_getElem] at h
    exact .inr ⟨i, h.1, rfl⟩
end Go.Proofs.Ytfcpbgedgedalaa.Pure

namespace Go.Proofs.Ytfcpbgedgedalaa.Pure
open Go.RowKit Go.Proofs.Ytfcpbgedgedalaa.Q Go.Proofs.YtfcpbgedgedalaaL.PrintWords Go.Proofs.YtfcpbgedgedalaaL.PrintLast Go.Proofs.YtfcpbgedgedalaaL.PrintMore
set_option linter.unusedVariables false
set_option linter.unusedSimpArgs false
abbrev PR := S33
abbrev pz : PR := z33
theorem rdp (l : List PR) (i : Nat) : rd_T33 l (i : Int) = l.getD i pz := by
  unfold rd_T33
  rw [Int.toNat_natCast]
theorem p_validNumbers (l : List Int) (hl : l.length ≤ 2000000) (k : Nat) (hk : 3000000 ≤ k) : spec_validNumbers.f k l = some (l.all val) := by
  unfold spec_validNumbers.f
  rw [← range_all l 0 val, ← Bool.and_true (List.all _ _)]
  refine loop_all0 (fun k i => spec_validNumbers.l0 k l i) _ _ l.length 0 k (by omega) (fun k i _ hi => ?_) (fun k _ => ?_) (by omega)
  · simp only [spec_validNumbers.l0]
    rw [if_pos (by omega), if_pos (by omega), p_validNumber, Option.bind_some, rd_nat]
  · simp only [spec_validNumbers.l0]
    rw [if_neg (by omega)]
theorem p_areValues (l : List Int) : impl_areValues.f l = some (l.all val) := by
  unfold impl_areValues.f
  rw [Option.some.injEq, List.not_any_eq_all_not]
  simp only [Bool.not_not]
  rfl
theorem p_specPairAt (l : List PR) (s : ByteArray) (hl : l.length ≤ 2000000) (k : Nat) (hk : 3000000 ≤ k) : spec_pairAt.f k l s = some (pxIdx (fun x : PR => x.f0.toList == s.toList) l) := by
  unfold spec_pairAt.f
  refine loop_find0 (fun k i => spec_pairAt.l0 k l s i) l pz _ 0 k (by omega) (fun k i _ hi => ?_) (fun k _ => ?_) (by omega)
  · simp only [spec_pairAt.l0]
    rw [if_pos (by omega), if_pos (by omega), rdp]
    simp only [beq_iff_eq]
  · simp only [spec_pairAt.l0]
    rw [if_neg (by omega)]
/-- What a pair must be. -/
def pairOk (x : PR) : Bool := pxName x.f0 && val x.f1
def freshAt (l : List PR) (i : Nat) : Bool := !((l.take i).any fun x => x.f0.toList == (l.getD i pz).f0.toList)
def vflat (ps : List Int) (l : List PR) : Bool := (List.range l.length).all (freshAt l) && (ps.all val && l.all pairOk && decide (ps.length ≤ 8) && decide (l.length ≤ 8))
theorem p_validPairs (l : List PR) (hl : l.length ≤ 2000000) (hs : ∀ x ∈ l, x.f0.size ≤ 2000000) (k : Nat) (hk : 6000000 ≤ k) : spec_validPairs.f k l = some (l.all pairOk) := by
  unfold spec_validPairs.f
  rw [← range_all l pz pairOk, ← Bool.and_true (List.all _ _)]
  refine loop_all0 (fun k i => spec_validPairs.l0 k l i) _ _ l.length 3000000 k (by omega) (fun k i hk hi => ?_) (fun k _ => ?_) (by omega)
  · simp only [spec_validPairs.l0]
    have hsz := hs _ (getD_mem l pz i hi)
    rw [if_pos (by omega), if_pos (by omega), rdp, p_validName _ (by omega) k (by omega), Option.bind_some, p_validNumber, Option.bind_some]
    unfold pairOk
    cases pxName (l.getD i pz).f0 <;> cases val (l.getD i pz).f1 <;> simp
  · simp only [spec_validPairs.l0]
    rw [if_neg (by omega)]
theorem freshAt_idx (l : List PR) (i : Nat) : freshAt l i = !decide (pxIdx (fun x : PR => x.f0.toList == (l.getD i pz).f0.toList) (l.take i) ≥ 0) := by
  rw [pxIdx_any]; rfl
theorem int_le8 (n : Nat) : decide ((n : Int) ≤ 8) = decide (n ≤ 8) := by
  rw [decide_eq_decide]; omega
theorem p_specFlat (ps : List Int) (l : List PR) (hp : ps.length ≤ 2000000) (hl : l.length ≤ 2000000) (hs : ∀ x ∈ l, x.f0.size ≤ 2000000) (k : Nat) (hk : 9000000 ≤ k) : spec_validFlat.f k ps l = some (vflat ps l) := by
  unfold spec_validFlat.f vflat
  refine loop_all0 (fun k i => spec_validFlat.l0 k i ps l) _ _ l.length 6000000 k (by omega) (fun k i hk hi => ?_) (fun k hk => ?_) (by omega)
  · simp only [spec_validFlat.l0]
    rw [if_pos (by omega), if_pos (by omega), if_pos (by omega), Int.toNat_natCast, rdp, p_specPairAt _ _ (by rw [List.length_take]; omega) k (by omega), Option.bind_some, freshAt_idx]
    generalize pxIdx (fun x : PR => x.f0.toList == (l.getD i pz).f0.toList) (l.take i) = q
    by_cases h : q ≥ 0
    · rw [if_pos h, if_neg (by simp [h])]
    · rw [if_neg h, if_pos (by simp [h])]
  · simp only [spec_validFlat.l0]
    rw [if_neg (by omega), p_validNumbers ps hp k (by omega), Option.bind_some, p_validPairs l hl hs k hk, Option.bind_some, int_le8]
    cases ps.all val <;> cases l.all pairOk <;> by_cases h : ps.length ≤ 8 <;> simp [h] <;> omega
theorem p_pairValid (s : ByteArray) (v : Int) (hs : s.size ≤ 2000000) (k : Nat) (hk : 3000000 ≤ k) : impl_Pair_valid.f k s v = some (pxName s && val v) := by
  unfold impl_Pair_valid.f
  rw [p_isName s (by omega) k (by omega), Option.bind_some, p_isValue, Option.bind_some]
  cases pxName s <;> simp
theorem and_range (n : Nat) (p q : Nat → Bool) : ((List.range n).all fun i => p i && q i) = ((List.range n).all p && (List.range n).all q) := by
  induction n with
  | zero => rfl
  | succ n ih =>
    simp only [List.range_succ, List.all_append, List.all_cons, List.all_nil, ih]
    cases (List.range n).all p <;> cases (List.range n).all q <;> cases p n <;> cases q n <;> rfl
theorem p_implFlat (ps : List Int) (l : List PR) (hl : l.length ≤ 2000000) (hs : ∀ x ∈ l, x.f0.size ≤ 2000000) (k : Nat) (hk : 9000000 ≤ k) : impl_ValidFlat.f k ps l = some (vflat ps l) := by
  unfold impl_ValidFlat.f
  have e : vflat ps l = (((List.range l.length).all fun i => pairOk (l.getD i pz) && freshAt l i) && (decide (ps.length ≤ 8) && decide (l.length ≤ 8) && ps.all val)) := by
    rw [and_range, range_all l pz pairOk]
    unfold vflat
    cases (List.range l.length).all (freshAt l) <;> cases ps.all val <;> cases l.all pairOk <;> cases decide (ps.length ≤ 8) <;> cases decide (l.length ≤ 8) <;> rfl
  rw [e]
  refine loop_all0 (fun k i => impl_ValidFlat.l0 k l (l.length : Int) i ps l) _ _ l.length 6000000 k (by omega) (fun k i hk hi => ?_) (fun k hk => ?_) (by omega)
  · simp only [impl_ValidFlat.l0]
    have hsz := hs _ (getD_mem l pz i hi)
    rw [if_pos (by omega), if_pos (by omega), if_pos (by omega), rdp, p_pairValid _ _ hsz k (by omega), Option.bind_some, if_pos (show (i : Int) ≤ (l.length : Int) by omega), Int.toNat_natCast]
    unfold impl_pairAt.f
    rw [Option.bind_some, freshAt_idx]
    unfold pairOk
    cases pxName (l.getD i pz).f0 && val (l.getD i pz).f1 with
    | false => simp
    | true =>
      generalize pxIdx (fun x : PR => x.f0.toList == (l.getD i pz).f0.toList) (l.take i) = q
      by_cases h : q ≥ 0
      · simp [h]
      · simp [h]
  · simp only [impl_ValidFlat.l0]
    rw [if_neg (by omega), p_areValues, Option.bind_some]
    by_cases h1 : ps.length ≤ 8
    · rw [if_pos (by omega)]
      by_cases h2 : l.length ≤ 8
      · rw [if_pos (by omega)]
        simp [h1, h2]
      · rw [if_neg (by omega)]
        simp [h2]
    · rw [if_neg (by omega)]
      simp [h1]
end Go.Proofs.Ytfcpbgedgedalaa.Pure

namespace Go.Proofs.Ytfcpbgedgedalaa.Pure
open Go.RowKit Go.Proofs.Ytfcpbgedgedalaa.Q Go.Proofs.YtfcpbgedgedalaaL.PrintWords Go.Proofs.YtfcpbgedgedalaaL.PrintLast Go.Proofs.YtfcpbgedgedalaaL.PrintMore
set_option linter.unusedVariables false
set_option linter.unusedSimpArgs false
theorem p_eqInts_self (l : List Int) (hl : l.length ≤ 2000000) (k : Nat) (hk : 3000000 ≤ k) : laws_equalInts.f k l l = some true := by
  unfold laws_equalInts.f
  rw [if_pos rfl]
  have := loop_all0 (fun k i => laws_equalInts.l0 k l l i) (fun _ => true) true l.length 0 k (by omega) (fun k i _ hi => by
    simp only [laws_equalInts.l0]
    rw [if_pos (by omega), if_pos (by omega), if_pos (by omega)]
    try simp) (fun k _ => by
    simp only [laws_equalInts.l0]
    rw [if_neg (by omega)]) (by omega)
  rw [this]
  simp
theorem p_eqPairs_self (l : List PR) (hl : l.length ≤ 2000000) (k : Nat) (hk : 3000000 ≤ k) : laws_equalPairs.f k l l = some true := by
  unfold laws_equalPairs.f
  rw [if_pos rfl]
  have := loop_all0 (fun k i => laws_equalPairs.l0 k l l i) (fun _ => true) true l.length 0 k (by omega) (fun k i _ hi => by
    simp only [laws_equalPairs.l0]
    rw [if_pos (by omega), if_pos (by omega), if_pos (by omega)]
    try simp) (fun k _ => by
    simp only [laws_equalPairs.l0]
    rw [if_neg (by omega)]) (by omega)
  rw [this]
  simp
theorem p_eqFlat_self (ps : List Int) (l : List PR) (hp : ps.length ≤ 2000000) (hl : l.length ≤ 2000000) (k : Nat) (hk : 3000000 ≤ k) : laws_equalFlat.f k ps l ps l = some true := by
  unfold laws_equalFlat.f
  rw [p_eqInts_self ps hp k hk, Option.bind_some, if_pos rfl, p_eqPairs_self l hl k hk]
  rfl
end Go.Proofs.Ytfcpbgedgedalaa.Pure

namespace Go.Proofs.Ytfcpbgedgedalaa.Pure
open Go.RowKit Go.Proofs.Ytfcpbgedgedalaa.Q Go.Proofs.YtfcpbgedgedalaaL.PrintWords Go.Proofs.YtfcpbgedgedalaaL.PrintLast Go.Proofs.YtfcpbgedgedalaaL.PrintMore
set_option linter.unusedVariables false
set_option linter.unusedSimpArgs false
def SmallF (l : List PR) : Prop := ∀ x ∈ l, x.f0.size ≤ 2000000
theorem p_copyOf (ps : List Int) (l : List PR) (hp : ps.length ≤ 2000000) (hl : l.length ≤ 2000000) : impl_Flat_copyOf.f ps l = some (ps, l) := by
  unfold impl_Flat_copyOf.f impl_clone_int.f impl_Pair_63.f
  rw [if_pos (by omega), if_pos (by omega)]
  rfl
theorem p_checked (ps : List Int) (l : List PR) (b : Bool) (hp : ps.length ≤ 2000000) (hl : l.length ≤ 2000000) (hs : SmallF l) (k : Nat) (hk : 9000000 ≤ k) :
    impl_checked.f k ps l b = some (if (b && vflat ps l) = true then (ps, l, true) else ([], [], false)) := by
  unfold impl_checked.f
  cases b with
  | false => rfl
  | true =>
    rw [if_pos rfl, p_implFlat ps l hl hs k hk, Option.bind_some, p_copyOf ps l hp hl, Option.bind_some, Bool.true_and]
    split <;> rfl
theorem p_copyFlat (ps : List Int) (l : List PR) (hp : ps.length ≤ 2000000) (hl : l.length ≤ 2000000) : spec_copyFlat.f ps l = some (ps, l) := by
  unfold spec_copyFlat.f
  simp only [Option.bind_some, List.nil_append, List.length_nil]
  rw [if_pos (by omega), if_pos (by omega)]
theorem p_checkedFlat (ps : List Int) (l : List PR) (hp : ps.length ≤ 2000000) (hl : l.length ≤ 2000000) (hs : SmallF l) (k : Nat) (hk : 9000000 ≤ k) :
    spec_checkedFlat.f k ps l = some (if vflat ps l = true then (ps, l, true) else ([], [], false)) := by
  unfold spec_checkedFlat.f
  rw [p_specFlat ps l hp hl hs k hk, Option.bind_some]
  split <;> rfl
end Go.Proofs.Ytfcpbgedgedalaa.Pure

namespace Go.Proofs.Ytfcpbgedgedalaa.Pure
open Go.RowKit Go.Proofs.Ytfcpbgedgedalaa.Q Go.Proofs.YtfcpbgedgedalaaL.PrintWords Go.Proofs.YtfcpbgedgedalaaL.PrintLast Go.Proofs.YtfcpbgedgedalaaL.PrintMore
set_option linter.unusedVariables false
set_option linter.unusedSimpArgs false
structure OkF (ps : List Int) (l : List PR) : Prop where
  nums : ps.all val = true
  ok : ∀ x ∈ l, pairOk x = true
  names : (l.map (·.f0)).Nodup
  len1 : ps.length ≤ 8
  len2 : l.length ≤ 8
theorem okF_iff (ps : List Int) (l : List PR) : vflat ps l = true ↔ OkF ps l := by
  unfold vflat
  simp only [Bool.and_eq_true, decide_eq_true_eq]
  constructor
  · rintro ⟨hf, ⟨⟨h1, h2⟩, h3⟩, h4⟩
    refine ⟨h1, fun x hx => List.all_eq_true.1 h2 x hx, ?_, h3, h4⟩
    rw [List.all_eq_true] at hf
    rw [List.Nodup, List.pairwise_map, List.pairwise_iff_getElem]
    intro i j hi hj hij
    have := hf j (List.mem_range.2 hj)
    unfold freshAt at this
    have e : l.getD j pz = l[j] := by rw [List.getD_eq_getElem?_getD, List.getElem?_eq_getElem hj]; rfl
    rw [e] at this
    simp only [Bool.not_eq_true', List.any_eq_false, beq_iff_eq, bt_eqv] at this
    exact this l[i] (List.mem_take_iff_getElem.2 ⟨i, by omega, rfl⟩)
  · intro h
    refine ⟨?_, ⟨⟨h.nums, List.all_eq_true.2 h.ok⟩, h.len1⟩, h.len2⟩
    rw [List.all_eq_true]
    intro j hj
    have hj := List.mem_range.1 hj
    unfold freshAt
    have e : l.getD j pz = l[j] := by rw [List.getD_eq_getElem?_getD, List.getElem?_eq_getElem hj]; rfl
    rw [e]
    simp only [Bool.not_eq_true', List.any_eq_false, beq_iff_eq, bt_eqv]
    intro x hx
    obtain ⟨i, hi, rfl⟩ := List.mem_take_iff_getElem.1 hx
    have hf := h.names
    rw [List.Nodup, List.pairwise_map, List.pairwise_iff_getElem] at hf
    exact hf i j (by omega) hj (by omega)
end Go.Proofs.Ytfcpbgedgedalaa.Pure

namespace Go.Proofs.Ytfcpbgedgedalaa.Pure
open Go.RowKit Go.Proofs.Ytfcpbgedgedalaa.Q Go.Proofs.YtfcpbgedgedalaaL.PrintWords Go.Proofs.YtfcpbgedgedalaaL.PrintLast Go.Proofs.YtfcpbgedgedalaaL.PrintMore
set_option linter.unusedVariables false
set_option linter.unusedSimpArgs false
theorem p_aName {l : List Int} (h : Rdr l) (k : Nat) (hk : 1 ≤ k) {p : Int} (hp : 0 ≤ p) (hp' : p ≤ 1000000) : ∃ s, spec_aName.f k l p = some (s, p + 1) ∧ s.size = 1 ∧ pxName s = true := by
  unfold spec_aName.f
  obtain ⟨v, e, hv⟩ := p_of h k hk hp hp' ([(⟨#[97]⟩ : ByteArray), (⟨#[98]⟩ : ByteArray), (⟨#[99]⟩ : ByteArray), (⟨#[100]⟩ : ByteArray), (⟨#[120]⟩ : ByteArray), (⟨#[121]⟩ : ByteArray), (⟨#[97]⟩ : ByteArray), (⟨#[98]⟩ : ByteArray), (⟨#[99]⟩ : ByteArray)]) (by decide)
  rw [e, Option.bind_some]
  refine ⟨v, rfl, ?_⟩
  simp only [List.mem_cons, List.not_mem_nil, or_false] at hv
  rcases hv with rfl | rfl | rfl | rfl | rfl | rfl | rfl | rfl | rfl <;> exact ⟨rfl, by decide⟩
theorem p_anyName {l : List Int} (h : Rdr l) (k : Nat) (hk : 1 ≤ k) {p : Int} (hp : 0 ≤ p) (hp' : p ≤ 999999) : ∃ s, spec_anyName.f k l p = some (s, p + 2) ∧ s.size ≤ 7 := by
  unfold spec_anyName.f
  obtain ⟨v, e, _, _⟩ := p_pick h k hk hp (by omega) (n := 16) (by omega)
  rw [e, Option.bind_some]
  dsimp only
  have e2 : p + 1 + 1 = p + 2 := by omega
  split
  · obtain ⟨v, e, hv⟩ := p_of h k hk (p := p + 1) (by omega) (by omega) ([(⟨#[]⟩ : ByteArray), (⟨#[65]⟩ : ByteArray), (⟨#[116, 111, 111, 108, 111, 110, 103]⟩ : ByteArray), (⟨#[97, 49]⟩ : ByteArray), (⟨#[97, 98, 99, 100, 101, 102]⟩ : ByteArray)]) (by decide)
    rw [e, Option.bind_some, e2]
    refine ⟨v, rfl, ?_⟩
    simp only [List.mem_cons, List.not_mem_nil, or_false] at hv
    rcases hv with rfl | rfl | rfl | rfl | rfl <;> decide
  · obtain ⟨v, e, h1, _⟩ := p_aName h k hk (p := p + 1) (by omega) (by omega)
    rw [e, Option.bind_some, e2]
    exact ⟨v, rfl, by omega⟩
end Go.Proofs.Ytfcpbgedgedalaa.Pure

namespace Go.Proofs.Ytfcpbgedgedalaa.Pure
open Go.RowKit Go.Proofs.Ytfcpbgedgedalaa.Q Go.Proofs.YtfcpbgedgedalaaL.PrintWords Go.Proofs.YtfcpbgedgedalaaL.PrintLast Go.Proofs.YtfcpbgedgedalaaL.PrintMore
set_option linter.unusedVariables false
set_option linter.unusedSimpArgs false
/-- A loop that goes on to something else behind its end. -/
theorem loop_then {β : Type} (F : Nat → Int → Option β) (P : Nat → Bool) (G : Nat → Option β) (no : Option β) (n : Nat) (hn : n ≤ 9223372036854775807)
    (hstep : ∀ k i, i < n → F (k + 1) (i : Int) = if P i = true then F k (wrap64 ((i : Int) + 1)) else no) (hend : ∀ k, F (k + 1) (n : Int) = G k) :
    ∀ d k i, i + d = n → d < k → F k (i : Int) = if (List.range' i d).all P = true then G (k - 1 - d) else no := by
  intro d
  induction d with
  | zero =>
    intro k i h hk
    obtain ⟨k, rfl⟩ : ∃ m, k = m + 1 := ⟨k - 1, by omega⟩
    obtain rfl : i = n := by omega
    rw [hend k]
    simp
  | succ d ih =>
    intro k i h hk
    obtain ⟨k, rfl⟩ : ∃ m, k = m + 1 := ⟨k - 1, by omega⟩
    rw [hstep k i (by omega), wrap_succ (n := n) (by omega) hn, ih k (i + 1) (by omega) (by omega), List.range'_succ, List.all_cons]
    have e : k + 1 - 1 - (d + 1) = k - 1 - d := by omega
    rw [e]
    cases P i <;> simp only [Bool.true_and, Bool.false_and, if_true, Bool.false_eq_true, if_false]
theorem loop_then0 {β : Type} (F : Nat → Int → Option β) (P : Nat → Bool) (G : Nat → Option β) (no : Option β) (n k : Nat) (hn : n ≤ 9223372036854775807)
    (hstep : ∀ k i, i < n → F (k + 1) (i : Int) = if P i = true then F k (wrap64 ((i : Int) + 1)) else no) (hend : ∀ k, F (k + 1) (n : Int) = G k) (hk : n < k) :
    F k 0 = if (List.range n).all P = true then G (k - 1 - n) else no := by
  have := loop_then F P G no n hn hstep hend n k 0 (by omega) hk
  rw [List.range_eq_range']
  exact this
/-- A loop whose rounds take up to C steps. -/
theorem loop_wide (F : Nat → Int → Option Bool) (P : Nat → Bool) (T : Bool) (n B C : Nat) (hn : n ≤ 9223372036854775807)
    (hstep : ∀ k i, B + C ≤ k → i < n → (P i = true → ∃ k', k ≤ k' + C ∧ F k (i : Int) = F k' (wrap64 ((i : Int) + 1))) ∧ (P i = false → F k (i : Int) = some false)) (hend : ∀ k, B ≤ k → F k (n : Int) = some T) :
    ∀ d k i, i + d = n → B + d * C ≤ k → F k (i : Int) = some ((List.range' i d).all P && T) := by
  intro d
  induction d with
  | zero =>
    intro k i h hk
    obtain rfl : i = n := by omega
    rw [hend k (by omega)]
    simp
  | succ d ih =>
    intro k i h hk
    rw [Nat.succ_mul] at hk
    rw [List.range'_succ, List.all_cons]
    obtain ⟨h1, h2⟩ := hstep k i (by omega) (by omega)
    cases hq : P i with
    | true =>
      obtain ⟨k', hk', e⟩ := h1 hq
      rw [e, wrap_succ (n := n) (by omega) hn, ih k' (i + 1) (by omega) (by omega)]
      simp
    | false => rw [h2 hq]; simp
theorem loop_wide0 (F : Nat → Int → Option Bool) (P : Nat → Bool) (T : Bool) (n B C k : Nat) (hn : n ≤ 9223372036854775807)
    (hstep : ∀ k i, B + C ≤ k → i < n → (P i = true → ∃ k', k ≤ k' + C ∧ F k (i : Int) = F k' (wrap64 ((i : Int) + 1))) ∧ (P i = false → F k (i : Int) = some false)) (hend : ∀ k, B ≤ k → F k (n : Int) = some T)
    (hk : B + n * C ≤ k) : F k 0 = some ((List.range n).all P && T) := by
  have := loop_wide F P T n B C hn hstep hend n k 0 (by omega) hk
  rw [List.range_eq_range']
  exact this
end Go.Proofs.Ytfcpbgedgedalaa.Pure

namespace Go.Proofs.Ytfcpbgedgedalaa.Pure
open Go.RowKit Go.Proofs.Ytfcpbgedgedalaa.Q Go.Proofs.YtfcpbgedgedalaaL.PrintWords Go.Proofs.YtfcpbgedgedalaaL.PrintLast Go.Proofs.YtfcpbgedgedalaaL.PrintMore
set_option linter.unusedVariables false
set_option linter.unusedSimpArgs false
abbrev TU := S107
abbrev tuz : TU := z107
theorem rdtu (l : List TU) (i : Nat) : rd_T107 l (i : Int) = l.getD i tuz := by
  unfold rd_T107
  rw [Int.toNat_natCast]
theorem p_turnAt (l : List TU) (s : ByteArray) (hl : l.length ≤ 2000000) (k : Nat) (hk : 3000000 ≤ k) : spec_turnAt.f k l s = some (pxIdx (fun x : TU => x.f0.toList == s.toList) l) := by
  unfold spec_turnAt.f
  refine loop_find0 (fun k i => spec_turnAt.l0 k l s i) l tuz _ 0 k (by omega) (fun k i _ hi => ?_) (fun k _ => ?_) (by omega)
  · simp only [spec_turnAt.l0]
    rw [if_pos (by omega), if_pos (by omega), rdtu]
    simp only [beq_iff_eq]
  · simp only [spec_turnAt.l0]
    rw [if_neg (by omega)]
theorem p_implTurns (l : List TU) (hs : ∀ x ∈ l, x.f0.size ≤ 2000000) : impl_ValidTurns.f l = some (pxTurns l) := by
  unfold impl_ValidTurns.f
  rw [if_pos]
  rw [List.all_eq_true]
  intro x hx
  have := hs x hx
  simp only [decide_eq_true_eq]
  omega
theorem range_take {α : Type} (l : List α) (d : α) (i : Nat) (hi : i ≤ l.length) (p : α → Bool) : ((List.range i).all fun j => p (l.getD j d)) = (l.take i).all p := by
  have e := range_all (l.take i) d p
  rw [List.length_take, Nat.min_eq_left hi] at e
  rw [← e, Bool.eq_iff_iff, List.all_eq_true, List.all_eq_true]
  have : ∀ j, j < i → l.getD j d = (l.take i).getD j d := by
    intro j hj
    rw [List.getD_eq_getElem?_getD, List.getD_eq_getElem?_getD, List.getElem?_take_of_lt hj]
  constructor
  · intro h j hj
    rw [← this j (List.mem_range.1 hj)]
    exact h j hj
  · intro h j hj
    rw [this j (List.mem_range.1 hj)]
    exact h j hj
theorem p_specTurns (l : List TU) (hl : l.length ≤ 2000000) (hs : ∀ x ∈ l, x.f0.size ≤ 2000000) (k : Nat) (hk : 5000000000000 ≤ k) : spec_validTurns.f k l = some (pxTurns l) := by
  unfold spec_validTurns.f pxTurns
  refine loop_wide0 (fun k i => spec_validTurns.l0 k l i) _ _ l.length 4000000 2000003 k (by omega) (fun k i hk hi => ?_) (fun k hk => ?_) ?_
  · obtain ⟨k, rfl⟩ : ∃ m, k = m + 1 := ⟨k - 1, by omega⟩
    have hsz := hs _ (getD_mem l tuz i hi)
    simp only [spec_validTurns.l0]
    rw [if_pos (by omega), if_pos (by omega), rdtu, p_validName _ (by omega) k (by omega), Option.bind_some, p_turnAt l _ hl k (by omega), Option.bind_some, if_pos (show (i : Int) ≤ (l.length : Int) by omega), Int.toNat_natCast, p_turnAt _ _ (by rw [List.length_take]; omega) k (by omega), Option.bind_some]
    have inner := loop_then0 (fun k j => spec_validTurns.l1 k l i j) (fun j => !((l.getD j tuz).f1.toList == (l.getD i tuz).f1.toList)) (fun k => spec_validTurns.l0 k l (wrap64 ((i : Int) + 1))) (some false) i k (by omega)
      (fun k j hj => by
        simp only [spec_validTurns.l1]
        rw [if_pos (by omega), if_pos (by omega), if_pos (by omega), if_pos (by omega), if_pos (by omega), rdtu, rdtu]
        cases hq : ((l.getD j tuz).f1.toList == (l.getD i tuz).f1.toList) with
        | true => rw [if_pos (by simpa using hq)]; simp
        | false => rw [if_neg (by simpa using hq)]; simp) (fun k => by
        simp only [spec_validTurns.l1]
        rw [if_neg (by omega)]) (by omega)
    rw [range_take l tuz i (by omega) (fun x => !(x.f1.toList == (l.getD i tuz).f1.toList))] at inner
    rw [inner]
    have e1 := pxIdx_any (fun x : TU => x.f0.toList == (l.getD i tuz).f1.toList) l
    have e2 := pxIdx_any (fun x : TU => x.f0.toList == (l.getD i tuz).f0.toList) (l.take i)
    have e3 : ((l.take i).any fun x => x.f0.toList == (l.getD i tuz).f0.toList || x.f1.toList == (l.getD i tuz).f1.toList) = ((l.take i).any (fun x => x.f0.toList == (l.getD i tuz).f0.toList) || !(l.take i).all fun x => !(x.f1.toList == (l.getD i tuz).f1.toList)) := by
      rw [List.not_all_eq_any_not]
      simp only [Bool.not_not]
      generalize l.take i = m
      induction m with
      | nil => rfl
      | cons a m ih =>
        simp only [List.any_cons, ih]
        cases a.f0.toList == (l.getD i tuz).f0.toList <;> cases a.f1.toList == (l.getD i tuz).f1.toList <;> simp
    unfold pxTurnOk
    rw [e3, ← e1, ← e2]
    generalize pxIdx (fun x : TU => x.f0.toList == (l.getD i tuz).f1.toList) l = q1
    generalize pxIdx (fun x : TU => x.f0.toList == (l.getD i tuz).f0.toList) (l.take i) = q2
    generalize (l.take i).all (fun x => !(x.f1.toList == (l.getD i tuz).f1.toList)) = q3
    generalize pxName (l.getD i tuz).f0 = q4
    have hlt : k - 1 - i + 2000003 ≥ k + 1 := by omega
    cases q4 with
    | false => simp
    | true =>
      by_cases h1 : q1 < 0
      · have : ¬ 0 ≤ q1 := by omega
        simp [h1, this]
      · have h1' : 0 ≤ q1 := by omega
        by_cases h2 : 0 ≤ q2
        · simp [h1, h2]
        · cases q3 with
          | false => simp [h1, h2]
          | true =>
            simp [h1, h2, h1']
            exact ⟨k - 1 - i, by omega, rfl⟩
  · obtain ⟨k, rfl⟩ : ∃ m, k = m + 1 := ⟨k - 1, by omega⟩
    simp only [spec_validTurns.l0]
    rw [if_neg (by omega)]
    congr 1
    rw [decide_eq_decide]
    omega
  · have : l.length * 2000003 ≤ 2000000 * 2000003 := Nat.mul_le_mul_right _ hl
    omega
end Go.Proofs.Ytfcpbgedgedalaa.Pure

namespace Go.Proofs.Ytfcpbgedgedalaa.Pure
open Go.RowKit Go.Proofs.Ytfcpbgedgedalaa.Q Go.Proofs.YtfcpbgedgedalaaL.PrintWords Go.Proofs.YtfcpbgedgedalaaL.PrintLast Go.Proofs.YtfcpbgedgedalaaL.PrintMore
set_option linter.unusedVariables false
set_option linter.unusedSimpArgs false
/-- What turns must be, as a Prop. -/
structure OkT (l : List TU) : Prop where
  name : ∀ x ∈ l, pxName x.f0 = true
  back : ∀ x ∈ l, x.f1 ∈ l.map (·.f0)
  froms : (l.map (·.f0)).Nodup
  tos : (l.map (·.f1)).Nodup
  len : l.length ≤ 8
theorem getD_get {α : Type} (l : List α) (d : α) (i : Nat) (h : i < l.length) : l.getD i d = l[i] := by
  rw [List.getD_eq_getElem?_getD, List.getElem?_eq_getElem h]; rfl
theorem okT_iff (l : List TU) : pxTurns l = true ↔ OkT l := by
  unfold pxTurns
  rw [Bool.and_eq_true, List.all_eq_true, decide_eq_true_eq]
  constructor
  · rintro ⟨h, hl⟩
    have h' : ∀ i (hi : i < l.length), pxName l[i].f0 = true ∧ (∃ x ∈ l, x.f0 = l[i].f1) ∧ ∀ x ∈ l.take i, x.f0 ≠ l[i].f0 ∧ x.f1 ≠ l[i].f1 := by
      intro i hi
      have := h i (List.mem_range.2 hi)
      unfold pxTurnOk at this
      rw [getD_get l tuz i hi] at this
      simp only [Bool.and_eq_true, List.any_eq_true, Bool.not_eq_true', List.any_eq_false, Bool.or_eq_true, beq_iff_eq, bt_eqv, not_or] at this
      exact ⟨this.1.1, this.1.2, this.2⟩
    refine ⟨fun x hx => ?_, fun x hx => ?_, ?_, ?_, hl⟩
    · obtain ⟨i, hi, rfl⟩ := List.mem_iff_getElem.1 hx
      exact (h' i hi).1
    · obtain ⟨i, hi, rfl⟩ := List.mem_iff_getElem.1 hx
      obtain ⟨y, hy, e⟩ := (h' i hi).2.1
      exact List.mem_map.2 ⟨y, hy, e⟩
    · rw [List.Nodup, List.pairwise_map, List.pairwise_iff_getElem]
      intro i j hi hj hij
      exact ((h' j hj).2.2 l[i] (List.mem_take_iff_getElem.2 ⟨i, by omega, rfl⟩)).1
    · rw [List.Nodup, List.pairwise_map, List.pairwise_iff_getElem]
      intro i j hi hj hij
      exact ((h' j hj).2.2 l[i] (List.mem_take_iff_getElem.2 ⟨i, by omega, rfl⟩)).2
  · intro h
    refine ⟨fun i hi => ?_, h.len⟩
    have hi := List.mem_range.1 hi
    unfold pxTurnOk
    rw [getD_get l tuz i hi]
    simp only [Bool.and_eq_true, List.any_eq_true, Bool.not_eq_true', List.any_eq_false, Bool.or_eq_true, beq_iff_eq, bt_eqv, not_or]
    refine ⟨⟨h.name _ (List.getElem_mem hi), ?_⟩, fun x hx => ?_⟩
    · obtain ⟨y, hy, e⟩ := List.mem_map.1 (h.back _ (List.getElem_mem hi))
      exact ⟨y, hy, e⟩
    · obtain ⟨j, hj, rfl⟩ := List.mem_take_iff_getElem.1 hx
      have hf := h.froms
      have ht := h.tos
      rw [List.Nodup, List.pairwise_map, List.pairwise_iff_getElem] at hf ht
      exact ⟨hf j i (by omega) hi (by omega), ht j i (by omega) hi (by omega)⟩
/-- As many different ones, all among others of that number: the others are among them. -/
theorem pigeon {α : Type} [DecidableEq α] : ∀ (a b : List α), a.Nodup → (∀ x ∈ a, x ∈ b) → b.length ≤ a.length → ∀ x ∈ b, x ∈ a
  | [], b, _, _, h, x, hx => by
    have : b = [] := List.eq_nil_of_length_eq_zero (by simpa using h)
    rw [this] at hx; exact hx
  | t :: a, b, hn, hs, h, x, hx => by
    have ht : t ∈ b := hs t (by simp)
    rw [List.nodup_cons] at hn
    by_cases e : x = t
    · simp [e]
    · have := pigeon a (b.erase t) hn.2 (fun y hy => (List.mem_erase_of_ne (fun e' => hn.1 (by rw [← e']; exact hy))).2 (hs y (by simp [hy]))) (by rw [List.length_erase_of_mem ht]; simp at h; omega) x ((List.mem_erase_of_ne e).2 hx)
      simp [this]
def sw (x : TU) : TU := ⟨x.f1, x.f0⟩
theorem sw_sw (l : List TU) : (l.map sw).map sw = l := by
  rw [List.map_map]
  have : sw ∘ sw = id := by funext x; rfl
  rw [this, List.map_id]
theorem okT_all (l : List TU) (h : OkT l) : ∀ x ∈ l.map (·.f0), x ∈ l.map (·.f1) :=
  pigeon _ _ h.tos (fun x hx => by
    obtain ⟨y, hy, rfl⟩ := List.mem_map.1 hx
    exact h.back y hy) (by simp)
theorem okT_sw (l : List TU) (h : OkT l) : OkT (l.map sw) := by
  have e0 : (l.map sw).map (·.f0) = l.map (·.f1) := by rw [List.map_map]; rfl
  have e1 : (l.map sw).map (·.f1) = l.map (·.f0) := by rw [List.map_map]; rfl
  refine ⟨fun x hx => ?_, fun x hx => ?_, by rw [e0]; exact h.tos, by rw [e1]; exact h.froms, by rw [List.length_map]; exact h.len⟩
  · obtain ⟨y, hy, rfl⟩ := List.mem_map.1 hx
    obtain ⟨z, hz, e⟩ := List.mem_map.1 (h.back y hy)
    show pxName y.f1 = true
    rw [← e]
    exact h.name z hz
  · rw [e0]
    obtain ⟨y, hy, rfl⟩ := List.mem_map.1 hx
    exact okT_all l h _ (List.mem_map.2 ⟨y, hy, rfl⟩)
theorem turnBack_l0 (l : List TU) (hl : l.length ≤ 2000000) : ∀ (d k i : Nat) (acc : List TU), i + d = l.length → acc.length = l.length → d < k → impl_TurnBack.l0 k acc l (l.length : Int) (i : Int) = some (acc.take i ++ (l.map sw).drop i) := by
  intro d
  induction d with
  | zero =>
    intro k i acc h ha hk
    obtain ⟨k, rfl⟩ : ∃ m, k = m + 1 := ⟨k - 1, by omega⟩
    simp only [impl_TurnBack.l0]
    rw [if_neg (by omega), List.drop_of_length_le (by simp; omega), List.take_of_length_le (by omega), List.append_nil]
  | succ d ih =>
    intro k i acc h ha hk
    obtain ⟨k, rfl⟩ : ∃ m, k = m + 1 := ⟨k - 1, by omega⟩
    simp only [impl_TurnBack.l0]
    rw [if_pos (by omega), if_pos (by omega), if_pos (by omega), if_pos (by omega), wrap_succ (n := l.length) (by omega) (by omega), ih k (i + 1) _ (by omega) (by rw [List.length_set]; exact ha) (by omega), Int.toNat_natCast, rdtu, getD_get l tuz i (by omega)]
    rw [List.drop_eq_getElem_cons (i := i) (l := l.map sw) (by simp; omega), List.getElem_map, List.take_succ_eq_append_getElem (by rw [List.length_set]; omega), List.getElem_set_self, List.take_set_of_le (Nat.le_refl i)]
    simp [sw]
theorem p_implTurnBack (l : List TU) (hl : l.length ≤ 2000000) (hs : ∀ x ∈ l, x.f0.size ≤ 2000000) (k : Nat) (hk : 3000000 ≤ k) : impl_TurnBack.f k l = some (if pxTurns l = true then l.map sw else []) := by
  unfold impl_TurnBack.f
  rw [p_implTurns l hs, Option.bind_some]
  split
  · rw [if_pos (by omega), Int.toNat_natCast, if_pos (by omega)]
    have := turnBack_l0 l hl l.length k 0 (List.replicate l.length tuz) (by omega) (by simp) (by omega)
    simpa using this
  · rfl

/-! ### what is drawn -/
end Go.Proofs.Ytfcpbgedgedalaa.Pure

namespace Go.Proofs.Ytfcpbgedgedalaa.Pure
open Go.RowKit Go.Proofs.Ytfcpbgedgedalaa.Q Go.Proofs.YtfcpbgedgedalaaL.PrintWords Go.Proofs.YtfcpbgedgedalaaL.PrintLast Go.Proofs.YtfcpbgedgedalaaL.PrintMore
set_option linter.unusedVariables false
set_option linter.unusedSimpArgs false
def tn (T : List TU) (s : ByteArray) : ByteArray := match T.find? (fun x : TU => x.f0.toList == s.toList) with | some x => x.f1 | none => s
theorem tn_cases (T : List TU) (s : ByteArray) : (∃ x ∈ T, x.f0 = s ∧ tn T s = x.f1) ∨ ((∀ x ∈ T, x.f0 ≠ s) ∧ tn T s = s) := by
  unfold tn
  cases h : T.find? (fun x : TU => x.f0.toList == s.toList) with
  | none =>
    right
    rw [List.find?_eq_none] at h
    refine ⟨fun x hx e => ?_, rfl⟩
    have := h x hx
    rw [e] at this
    simp at this
  | some x =>
    left
    refine ⟨x, List.mem_of_find?_eq_some h, ?_, rfl⟩
    have := List.find?_some h
    exact (bt_eqv _ _).1 (by simpa using this)
theorem turn_l0 (T : List TU) (s : ByteArray) (hl : T.length ≤ 2000000) : ∀ (d k i : Nat), i + d = T.length → d < k → impl_turn.l0 k s T (T.length : Int) (i : Int) = some (tn (T.drop i) s) := by
  intro d
  induction d with
  | zero =>
    intro k i h hk
    obtain ⟨k, rfl⟩ : ∃ m, k = m + 1 := ⟨k - 1, by omega⟩
    simp only [impl_turn.l0]
    rw [if_neg (by omega), List.drop_of_length_le (by omega)]
    rfl
  | succ d ih =>
    intro k i h hk
    obtain ⟨k, rfl⟩ : ∃ m, k = m + 1 := ⟨k - 1, by omega⟩
    simp only [impl_turn.l0]
    rw [if_pos (by omega), if_pos (by omega), if_pos (by omega), rdtu, wrap_succ (n := T.length) (by omega) (by omega), ih k (i + 1) (by omega) (by omega), drop_getD T tuz i (by omega)]
    unfold tn
    rw [List.find?_cons]
    by_cases e : (T.getD i tuz).f0.toList = s.toList
    · rw [if_pos e]
      simp only [beq_iff_eq.2 e]
    · rw [if_neg e]
      have : ((T.getD i tuz).f0.toList == s.toList) = false := by simpa using e
      simp only [this]
theorem p_implTurn (T : List TU) (s : ByteArray) (hl : T.length ≤ 2000000) (k : Nat) (hk : 3000000 ≤ k) : impl_turn.f k T s = some (tn T s) := by
  unfold impl_turn.f
  have := turn_l0 T s hl T.length k 0 (by omega) (by omega)
  simpa using this
theorem p_specTurn (T : List TU) (s : ByteArray) (hl : T.length ≤ 2000000) (k : Nat) (hk : 3000000 ≤ k) : spec_turned.f k T s = some (tn T s) := by
  unfold spec_turned.f
  rw [p_turnAt T s hl k hk, Option.bind_some]
  unfold tn
  unfold pxIdx
  cases h : T.findIdx? (fun x : TU => x.f0.toList == s.toList) with
  | none =>
    rw [List.findIdx?_eq_none_iff] at h
    have : T.find? (fun x : TU => x.f0.toList == s.toList) = none := by
      rw [List.find?_eq_none]
      intro x hx
      have := h x hx
      simpa using this
    dsimp only
    rw [this, if_neg (by omega)]
  | some i =>
    rw [List.findIdx?_eq_some_iff_getElem] at h
    obtain ⟨hi, hp, hm⟩ := h
    have : T.find? (fun x : TU => x.f0.toList == s.toList) = some T[i] := by
      rw [List.find?_eq_some_iff_getElem]
      exact ⟨hp, i, hi, rfl, fun j hj => by simpa using hm j hj⟩
    dsimp only
    rw [this, if_pos (by omega), if_pos (by omega), if_pos (by omega), rdtu, getD_get T tuz i hi]
theorem nodup_inj {α β : Type} (f : α → β) (l : List α) (h : (l.map f).Nodup) {x y : α} (hx : x ∈ l) (hy : y ∈ l) (e : f x = f y) : x = y := by
  rw [List.Nodup, List.pairwise_map, List.pairwise_iff_getElem] at h
  obtain ⟨i, hi, rfl⟩ := List.mem_iff_getElem.1 hx
  obtain ⟨j, hj, rfl⟩ := List.mem_iff_getElem.1 hy
  by_cases hij : i = j
  · subst hij; rfl
  · rcases Nat.lt_or_gt_of_ne hij with h1 | h1
    · exact absurd e (h i j hi hj h1)
    · exact absurd e.symm (h j i hj hi h1)
theorem tn_back (T : List TU) (h : OkT T) (s : ByteArray) : tn (T.map sw) (tn T s) = s := by
  rcases tn_cases T s with ⟨x, hx, e1, e2⟩ | ⟨h1, e2⟩
  · rw [e2]
    rcases tn_cases (T.map sw) x.f1 with ⟨y, hy, f1, f2⟩ | ⟨h1, _⟩
    · obtain ⟨z, hz, rfl⟩ := List.mem_map.1 hy
      have : z = x := nodup_inj (·.f1) T h.tos hz hx f1
      subst this
      rw [f2]
      exact e1
    · exact absurd rfl (h1 (sw x) (List.mem_map.2 ⟨x, hx, rfl⟩))
  · rw [e2]
    rcases tn_cases (T.map sw) s with ⟨y, hy, f1, f2⟩ | ⟨_, f2⟩
    · obtain ⟨z, hz, rfl⟩ := List.mem_map.1 hy
      obtain ⟨w, hw, e⟩ := List.mem_map.1 (h.back z hz)
      exact absurd (e.trans f1) (h1 w hw)
    · exact f2
theorem tn_inj (T : List TU) (h : OkT T) {s t : ByteArray} (e : tn T s = tn T t) : s = t := by
  rw [← tn_back T h s, e, tn_back T h t]
theorem tn_name (T : List TU) (h : OkT T) {s : ByteArray} (hs : pxName s = true) : pxName (tn T s) = true := by
  rcases tn_cases T s with ⟨x, hx, e1, e2⟩ | ⟨h1, e2⟩
  · rw [e2]
    obtain ⟨w, hw, e⟩ := List.mem_map.1 (h.back x hx)
    rw [← e]
    exact h.name w hw
  · rw [e2]; exact hs
theorem tn_size (T : List TU) (hT : ∀ x ∈ T, x.f1.size ≤ 7) {s : ByteArray} (hs : s.size ≤ 7) : (tn T s).size ≤ 7 := by
  rcases tn_cases T s with ⟨x, hx, e1, e2⟩ | ⟨h1, e2⟩
  · rw [e2]; exact hT x hx
  · rw [e2]; exact hs
theorem set_take_map {α : Type} (f : α → α) (d : α) (l : List α) (i : Nat) (hi : i < l.length) : ((l.take i).map f ++ l.drop i).set i (f (((l.take i).map f ++ l.drop i).getD i d)) = (l.take (i + 1)).map f ++ l.drop (i + 1) := by
  have hlen : ((l.take i).map f).length = i := by rw [List.length_map, List.length_take]; omega
  have e1 : ((l.take i).map f ++ l.drop i).getD i d = l[i] := by
    rw [List.getD_eq_getElem?_getD, List.getElem?_append_right (by omega), hlen, Nat.sub_self, List.getElem?_drop, Nat.add_zero, List.getElem?_eq_getElem hi]
    rfl
  rw [e1, List.set_append_right i _ (by omega), hlen, Nat.sub_self, List.drop_eq_getElem_cons hi, List.set_cons_zero, List.take_succ_eq_append_getElem hi, List.map_append]
  simp
end Go.Proofs.Ytfcpbgedgedalaa.Pure

namespace Go.Proofs.Ytfcpbgedgedalaa.Pure
open Go.RowKit Go.Proofs.Ytfcpbgedgedalaa.Q Go.Proofs.YtfcpbgedgedalaaL.PrintWords Go.Proofs.YtfcpbgedgedalaaL.PrintLast Go.Proofs.YtfcpbgedgedalaaL.PrintMore
set_option linter.unusedVariables false
set_option linter.unusedSimpArgs false
def thenN (a b : List TU) (s : ByteArray) : List TU := if (tn b (tn a s)).toList == s.toList then [] else [⟨s, tn b (tn a s)⟩]
def newIn (a : List TU) (x : TU) : Bool := !a.any (fun u : TU => u.f0.toList == x.f0.toList)
def thenR (a b : List TU) : List TU := ((a.map (·.f0)) ++ ((b.filter (newIn a)).map (·.f0))).flatMap (thenN a b)
def thenT (a b : List TU) : List TU × Bool := if (pxTurns a && pxTurns b) = true then (if pxTurns (thenR a b) = true then (thenR a b, true) else ([], false)) else ([], false)
theorem thenN_len (a b : List TU) (s : ByteArray) : (thenN a b s).length ≤ 1 := by
  unfold thenN
  split <;> simp
theorem flat_thenN (a b : List TU) : ∀ l : List ByteArray, (l.flatMap (thenN a b)).length ≤ l.length
  | [] => by simp
  | x :: l => by
    rw [List.flatMap_cons, List.length_append, List.length_cons]
    have := thenN_len a b x
    have := flat_thenN a b l
    omega
theorem then_one (a b cc : List TU) (ha : a.length ≤ 2000000) (hb : b.length ≤ 2000000) (k : Nat) (hk : 3000000 ≤ k) (d i : Nat) (acc : List TU) (hacc : acc.length < 4398046511104) (hc : (decide (a.length ≤ i) && a.any (fun u : TU => u.f0.toList == (cc.getD i tuz).f0.toList)) = false) :
    thenL k a b cc (d + 1) i acc = thenL k a b cc d (i + 1) (acc ++ thenN a b (cc.getD i tuz).f0) := by
  rw [thenL, hc, if_neg (by decide), p_implTurn a _ ha k hk, Option.bind_some, p_implTurn b _ hb k hk, Option.bind_some]
  unfold thenN
  cases h : ((tn b (tn a (cc.getD i tuz).f0)).toList == (cc.getD i tuz).f0.toList) with
  | true => rw [if_pos rfl, if_pos rfl, List.append_nil]
  | false => rw [if_neg (by decide), if_pos hacc, if_neg (by decide)]
theorem then_two (a b cc : List TU) (ha : a.length ≤ 2000000) (hb : b.length ≤ 2000000) (k : Nat) (hk : 3000000 ≤ k) : ∀ (d i : Nat) (acc : List TU), a.length ≤ i → i + d = cc.length → acc.length + d ≤ 9000000 →
    thenL k a b cc d i acc = some (acc ++ (((cc.drop i).filter (newIn a)).map (·.f0)).flatMap (thenN a b)) := by
  intro d
  induction d with
  | zero =>
    intro i acc _ h _
    rw [thenL, List.drop_of_length_le (by omega)]
    simp
  | succ d ih =>
    intro i acc hi h hacc
    rw [drop_getD cc tuz i (by omega), List.filter_cons]
    cases hq : a.any (fun u : TU => u.f0.toList == (cc.getD i tuz).f0.toList) with
    | true =>
      have hn : newIn a (cc.getD i tuz) = false := by unfold newIn; rw [hq]; rfl
      rw [thenL, decide_eq_true hi, Bool.true_and]
      show (if a.any (fun u : TU => u.f0.toList == (cc.getD i tuz).f0.toList) = true then _ else _) = _
      rw [hq, if_pos rfl, ih (i + 1) acc (by omega) (by omega) (by omega), hn, if_neg (by decide)]
    | false =>
      have hn : newIn a (cc.getD i tuz) = true := by unfold newIn; rw [hq]; rfl
      have hlen := thenN_len a b (cc.getD i tuz).f0
      rw [then_one a b cc ha hb k hk d i acc (by omega) (by rw [hq, Bool.and_false]), ih (i + 1) _ (by omega) (by omega) (by rw [List.length_append]; omega), hn, if_pos rfl, List.map_cons, List.flatMap_cons, List.append_assoc]
theorem then_first (a b : List TU) (ha : a.length ≤ 2000000) (hb : b.length ≤ 2000000) (k : Nat) (hk : 3000000 ≤ k) : ∀ (e i : Nat) (acc : List TU), i + e = a.length → acc.length + e + b.length ≤ 9000000 →
    thenL k a b (a ++ b) (e + b.length) i acc = some (acc ++ ((a.drop i).map (·.f0)).flatMap (thenN a b) ++ ((b.filter (newIn a)).map (·.f0)).flatMap (thenN a b)) := by
  intro e
  induction e with
  | zero =>
    intro i acc h hacc
    rw [Nat.zero_add, then_two a b (a ++ b) ha hb k hk b.length i acc (by omega) (by rw [List.length_append]; omega) (by omega), List.drop_of_length_le (l := a) (by omega), show i = a.length by omega, List.drop_left' rfl]
    simp
  | succ e ih =>
    intro i acc h hacc
    have hx : (a ++ b).getD i tuz = a.getD i tuz := by rw [List.getD_eq_getElem?_getD, List.getD_eq_getElem?_getD, List.getElem?_append_left (by omega)]
    have hlen := thenN_len a b (a.getD i tuz).f0
    rw [show e + 1 + b.length = e + b.length + 1 by omega, then_one a b (a ++ b) ha hb k hk _ i acc (by omega) (by rw [decide_eq_false (by omega), Bool.false_and]), hx, ih (i + 1) _ (by omega) (by rw [List.length_append]; omega), drop_getD a tuz i (by omega), List.map_cons, List.flatMap_cons, List.append_assoc acc]
theorem p_implThen (a b : List TU) (ha : a.length ≤ 2000000) (hb : b.length ≤ 2000000) (sa : ∀ x ∈ a, x.f0.size ≤ 2000000) (sb : ∀ x ∈ b, x.f0.size ≤ 2000000) (k : Nat) (hk : 3000000 ≤ k) : impl_ThenTurn.f k a b = some (thenT a b) := by
  have hR : ∀ x ∈ thenR a b, x.f0.size ≤ 2000000 := by
    intro x hx
    unfold thenR at hx
    obtain ⟨s, hs, hx⟩ := List.mem_flatMap.1 hx
    have e : x.f0 = s := by
      unfold thenN at hx
      split at hx
      · simp at hx
      · simp at hx; rw [hx]
    rw [e]
    rcases List.mem_append.1 hs with hs | hs
    · obtain ⟨y, hy, rfl⟩ := List.mem_map.1 hs; exact sa y hy
    · obtain ⟨y, hy, rfl⟩ := List.mem_map.1 hs; exact sb y (List.mem_filter.1 hy).1
  unfold impl_ThenTurn.f thenT
  rw [p_implTurns a sa, Option.bind_some, p_implTurns b sb]
  cases pxTurns a with
  | false => rfl
  | true =>
    rw [if_pos rfl, Option.bind_some]
    cases pxTurns b with
    | false => rfl
    | true =>
      unfold impl_Turn_82.f
      have hf : ([a, b] : List (List TU)).flatten = a ++ b := by simp
      have h1 := then_first a b ha hb k hk a.length 0 [] (by omega) (by simp; omega)
      rw [if_pos rfl, hf, if_pos (by rw [List.length_append]; omega), Option.bind_some, List.length_append, h1, Option.bind_some]
      have h2 : [] ++ ((a.drop 0).map (·.f0)).flatMap (thenN a b) ++ ((b.filter (newIn a)).map (·.f0)).flatMap (thenN a b) = thenR a b := by
        unfold thenR
        rw [List.drop_zero, List.nil_append, List.flatMap_append]
      rw [h2, p_implTurns _ hR, Option.bind_some]
      cases pxTurns (thenR a b) <;> rfl
end Go.Proofs.Ytfcpbgedgedalaa.Pure

namespace Go.Proofs.Ytfcpbgedgedalaa.Pure
open Go.RowKit Go.Proofs.Ytfcpbgedgedalaa.Q Go.Proofs.YtfcpbgedgedalaaL.PrintWords Go.Proofs.YtfcpbgedgedalaaL.PrintLast Go.Proofs.YtfcpbgedgedalaaL.PrintMore
set_option linter.unusedVariables false
set_option linter.unusedSimpArgs false
theorem p_hasText (l : List ByteArray) (s : ByteArray) (hl : l.length ≤ 5000000) (k : Nat) (hk : 6000000 ≤ k) : spec_hasText.f k l s = some (l.any (fun u : ByteArray => u.toList == s.toList)) := by
  have key : ∀ (d k i : Nat), i + d = l.length → d < k → spec_hasText.l0 k l s (i : Int) = some ((l.drop i).any (fun u : ByteArray => u.toList == s.toList)) := by
    intro d
    induction d with
    | zero =>
      intro k i h hk
      obtain ⟨k, rfl⟩ : ∃ m, k = m + 1 := ⟨k - 1, by omega⟩
      simp only [spec_hasText.l0]
      rw [if_neg (by omega), List.drop_of_length_le (by omega)]
      rfl
    | succ d ih =>
      intro k i h hk
      obtain ⟨k, rfl⟩ : ∃ m, k = m + 1 := ⟨k - 1, by omega⟩
      simp only [spec_hasText.l0]
      rw [if_pos (by omega), if_pos (by omega), rdOf_nat, wrap_succ (n := l.length) (by omega) (by omega), drop_getD l ByteArray.empty i (by omega), List.any_cons]
      by_cases hx : (l.getD i ByteArray.empty).toList = s.toList
      · rw [if_pos hx, hx]
        simp
      · rw [if_neg hx, ih k (i + 1) (by omega) (by omega)]
        have : ((l.getD i ByteArray.empty).toList == s.toList) = false := by simpa using hx
        rw [this, Bool.false_or]
  unfold spec_hasText.f
  have := key l.length k 0 (by omega) (by omega)
  simpa using this
def finT (r : List TU) : List TU × Bool := if pxTurns r = true then (r, true) else ([], false)
theorem then_l2 (a b : List TU) (ha : a.length ≤ 2000000) (hb : b.length ≤ 2000000) (names : List ByteArray) (hN : names.length ≤ 9000000) : ∀ (d k i : Nat) (acc : List TU), i + d = names.length → acc.length + d ≤ 1900000 → (∀ x ∈ acc ++ (names.drop i).flatMap (thenN a b), x.f0.size ≤ 2000000) → 5000000000000 + d < k →
    spec_ThenTurn.l2 k a b names acc (i : Int) = some (finT (acc ++ (names.drop i).flatMap (thenN a b))) := by
  intro d
  induction d with
  | zero =>
    intro k i acc h hacc hs hk
    obtain ⟨k, rfl⟩ : ∃ m, k = m + 1 := ⟨k - 1, by omega⟩
    rw [List.drop_of_length_le (by omega), List.flatMap_nil, List.append_nil] at hs ⊢
    simp only [spec_ThenTurn.l2]
    rw [if_neg (by omega), p_specTurns acc (by omega) hs k (by omega), Option.bind_some]
    unfold finT
    cases pxTurns acc <;> rfl
  | succ d ih =>
    intro k i acc h hacc hs hk
    obtain ⟨k, rfl⟩ : ∃ m, k = m + 1 := ⟨k - 1, by omega⟩
    rw [drop_getD names ByteArray.empty i (by omega), List.flatMap_cons, ← List.append_assoc] at hs ⊢
    have hlen := thenN_len a b (names.getD i ByteArray.empty)
    simp only [spec_ThenTurn.l2]
    rw [if_pos (by omega), if_pos (by omega), rdOf_nat, p_specTurn a _ ha k (by omega), Option.bind_some, p_specTurn b _ hb k (by omega), Option.bind_some, wrap_succ (n := names.length) (by omega) (by omega)]
    have nx := ih k (i + 1) (acc ++ thenN a b (names.getD i ByteArray.empty)) (by omega) (by rw [List.length_append]; omega) hs (by omega)
    unfold thenN at nx ⊢
    by_cases hc : (tn b (tn a (names.getD i ByteArray.empty))).toList = (names.getD i ByteArray.empty).toList
    · rw [if_pos hc]
      have e : ((tn b (tn a (names.getD i ByteArray.empty))).toList == (names.getD i ByteArray.empty).toList) = true := by simpa using hc
      rw [e, if_pos rfl] at nx ⊢
      rw [← nx, List.append_nil]
    · rw [if_neg hc, if_pos (by omega)]
      have e : ((tn b (tn a (names.getD i ByteArray.empty))).toList == (names.getD i ByteArray.empty).toList) = false := by simpa using hc
      rw [e, if_neg (by decide)] at nx ⊢
      exact nx
theorem any_map_f0 (l : List TU) (s : ByteArray) : (l.map (·.f0)).any (fun u : ByteArray => u.toList == s.toList) = l.any (fun u : TU => u.f0.toList == s.toList) := by
  rw [List.any_map]
  rfl
theorem then_l1 (a b : List TU) (ha : a.length ≤ 900000) (hb : b.length ≤ 900000) (hn : (b.map (·.f0)).Nodup) (sa : ∀ x ∈ thenR a b, x.f0.size ≤ 2000000) : ∀ (d k i : Nat), i + d = b.length → 5000009000000 + d < k →
    spec_ThenTurn.l1 k a b (a.map (·.f0) ++ ((b.take i).filter (newIn a)).map (·.f0)) (i : Int) = some (finT (thenR a b)) := by
  intro d
  induction d with
  | zero =>
    intro k i h hk
    obtain ⟨k, rfl⟩ : ∃ m, k = m + 1 := ⟨k - 1, by omega⟩
    simp only [spec_ThenTurn.l1]
    have hf : (b.filter (newIn a)).length ≤ b.length := List.length_filter_le _ _
    rw [if_neg (by omega), List.take_of_length_le (by omega), show (0 : Int) = ((0 : Nat) : Int) from rfl, then_l2 a b (by omega) (by omega) _ (by rw [List.length_append, List.length_map, List.length_map]; omega) (a.map (·.f0) ++ (b.filter (newIn a)).map (·.f0)).length k 0 [] (by omega) (by rw [List.length_append, List.length_map, List.length_map, List.length_nil]; omega) (by rw [List.drop_zero, List.nil_append]; exact sa) (by rw [List.length_append, List.length_map, List.length_map]; omega)]
    rfl
  | succ d ih =>
    intro k i h hk
    obtain ⟨k, rfl⟩ : ∃ m, k = m + 1 := ⟨k - 1, by omega⟩
    have hi : i < b.length := by omega
    have hl : ((b.take i).filter (newIn a)).length ≤ i := Nat.le_trans (List.length_filter_le _ _) (by rw [List.length_take]; omega)
    simp only [spec_ThenTurn.l1]
    rw [if_pos (by omega), if_pos (by omega), rdtu, p_hasText _ _ (by rw [List.length_append, List.length_map, List.length_map]; omega) k (by omega), Option.bind_some, wrap_succ (n := b.length) hi (by omega), List.any_append, any_map_f0, any_map_f0]
    have hx : b.getD i tuz = b[i] := getD_get b tuz i hi
    have old : ((b.take i).filter (newIn a)).any (fun u : TU => u.f0.toList == (b.getD i tuz).f0.toList) = false := by
      rw [List.any_eq_false]
      intro u hu
      obtain ⟨hu, _⟩ := List.mem_filter.1 hu
      obtain ⟨j, hj, rfl⟩ := List.mem_take_iff_getElem.1 hu
      rw [List.Nodup, List.pairwise_map, List.pairwise_iff_getElem] at hn
      have := hn j i (by omega) hi (by omega)
      rw [hx]
      simp only [beq_iff_eq]
      exact fun e => this ((bt_eqv _ _).1 e)
    have tk : b.take (i + 1) = b.take i ++ [b.getD i tuz] := by rw [hx, List.take_succ_eq_append_getElem hi]
    have nx := ih k (i + 1) (by omega) (by omega)
    rw [tk, List.filter_append] at nx
    rw [old, Bool.or_false]
    cases hq : a.any (fun u : TU => u.f0.toList == (b.getD i tuz).f0.toList) with
    | true =>
      have hnew : newIn a (b.getD i tuz) = false := by unfold newIn; rw [hq]; rfl
      rw [if_pos rfl]
      rw [List.filter_cons, hnew, if_neg (by decide), List.filter_nil, List.append_nil] at nx
      exact nx
    | false =>
      have hnew : newIn a (b.getD i tuz) = true := by unfold newIn; rw [hq]; rfl
      rw [if_neg (by decide), if_pos (by rw [List.length_append, List.length_map, List.length_map]; omega)]
      rw [List.filter_cons, hnew, if_pos rfl, List.filter_nil, List.map_append, ← List.append_assoc] at nx
      exact nx
theorem then_l0 (a b : List TU) (ha : a.length ≤ 900000) (hb : b.length ≤ 900000) (hn : (b.map (·.f0)).Nodup) (sa : ∀ x ∈ thenR a b, x.f0.size ≤ 2000000) : ∀ (d k i : Nat), i + d = a.length → 5000010000000 + d < k →
    spec_ThenTurn.l0 k a b ((a.take i).map (·.f0)) (i : Int) = some (finT (thenR a b)) := by
  intro d
  induction d with
  | zero =>
    intro k i h hk
    obtain ⟨k, rfl⟩ : ∃ m, k = m + 1 := ⟨k - 1, by omega⟩
    simp only [spec_ThenTurn.l0]
    have := then_l1 a b ha hb hn sa b.length k 0 (by omega) (by omega)
    rw [List.take_zero, List.filter_nil, List.map_nil, List.append_nil] at this
    rw [if_neg (by omega), List.take_of_length_le (by omega)]
    exact this
  | succ d ih =>
    intro k i h hk
    obtain ⟨k, rfl⟩ : ∃ m, k = m + 1 := ⟨k - 1, by omega⟩
    have hi : i < a.length := by omega
    have nx := ih k (i + 1) (by omega) (by omega)
    have tk : a.take (i + 1) = a.take i ++ [a.getD i tuz] := by rw [getD_get a tuz i hi, List.take_succ_eq_append_getElem hi]
    rw [tk, List.map_append] at nx
    simp only [spec_ThenTurn.l0]
    rw [if_pos (by omega), if_pos (by omega), rdtu, if_pos (by rw [List.length_map, List.length_take]; omega), wrap_succ (n := a.length) hi (by omega)]
    exact nx
theorem p_specThen (a b : List TU) (ha : a.length ≤ 2000000) (hb : b.length ≤ 2000000) (sa : ∀ x ∈ a, x.f0.size ≤ 2000000) (sb : ∀ x ∈ b, x.f0.size ≤ 2000000) (k : Nat) (hk : 5000022000000 ≤ k) : spec_ThenTurn.f k a b = some (thenT a b) := by
  have hR : ∀ x ∈ thenR a b, x.f0.size ≤ 2000000 := by
    intro x hx
    unfold thenR at hx
    obtain ⟨s, hs, hx⟩ := List.mem_flatMap.1 hx
    have e : x.f0 = s := by
      unfold thenN at hx
      split at hx
      · simp at hx
      · simp at hx; rw [hx]
    rw [e]
    rcases List.mem_append.1 hs with hs | hs
    · obtain ⟨y, hy, rfl⟩ := List.mem_map.1 hs; exact sa y hy
    · obtain ⟨y, hy, rfl⟩ := List.mem_map.1 hs; exact sb y (List.mem_filter.1 hy).1
  obtain ⟨k, rfl⟩ : ∃ m, k = m + 1 := ⟨k - 1, by omega⟩
  unfold spec_ThenTurn.f thenT
  rw [p_specTurns a (by omega) sa (k + 1) (by omega), Option.bind_some]
  cases ha' : pxTurns a with
  | false =>
    rw [if_neg (by decide)]
    simp only [spec_ThenTurn.j0]
    rfl
  | true =>
    rw [if_pos rfl, p_specTurns b (by omega) sb (k + 1) (by omega), Option.bind_some]
    cases hb' : pxTurns b with
    | false =>
      simp only [spec_ThenTurn.j0]
      rfl
    | true =>
      simp only [spec_ThenTurn.j0]
      have := then_l0 a b (by have := ((okT_iff a).1 ha').len; omega) (by have := ((okT_iff b).1 hb').len; omega) ((okT_iff b).1 hb').froms hR a.length k 0 (by omega) (by omega)
      rw [List.take_zero, List.map_nil] at this
      rw [if_neg (by decide)]
      show spec_ThenTurn.l0 k a b [] ((0 : Nat) : Int) = _
      rw [this]
      unfold finT
      rfl
theorem thenT_len (a b : List TU) : (thenT a b).1.length ≤ 8 := by
  unfold thenT
  split
  · split
    · rename_i h
      exact ((okT_iff _).1 h).len
    · simp
  · simp
end Go.Proofs.Ytfcpbgedgedalaa.Pure

namespace Go.Proofs.Ytfcpbgedgedalaa.Pure
open Go.RowKit Go.Proofs.Ytfcpbgedgedalaa.Q Go.Proofs.YtfcpbgedgedalaaL.PrintWords Go.Proofs.YtfcpbgedgedalaaL.PrintLast Go.Proofs.YtfcpbgedgedalaaL.PrintMore
set_option linter.unusedVariables false
set_option linter.unusedSimpArgs false
theorem specTurnBack_l0 (l : List TU) (hl : l.length ≤ 2000000) : ∀ (d k i : Nat) (acc : List TU), i + d = l.length → acc.length ≤ i → d < k → spec_TurnBack.l0 k l acc (i : Int) = some (acc ++ (l.drop i).map sw) := by
  intro d
  induction d with
  | zero =>
    intro k i acc h ha hk
    obtain ⟨k, rfl⟩ : ∃ m, k = m + 1 := ⟨k - 1, by omega⟩
    simp only [spec_TurnBack.l0]
    rw [if_neg (by omega), List.drop_of_length_le (by omega)]
    simp
  | succ d ih =>
    intro k i acc h ha hk
    obtain ⟨k, rfl⟩ : ∃ m, k = m + 1 := ⟨k - 1, by omega⟩
    simp only [spec_TurnBack.l0]
    rw [if_pos (by omega), if_pos (by omega), if_pos (by omega), wrap_succ (n := l.length) (by omega) (by omega), ih k (i + 1) _ (by omega) (by simp; omega) (by omega), rdtu, drop_getD l tuz i (by omega)]
    simp [sw]
theorem p_specTurnBack (l : List TU) (hl : l.length ≤ 2000000) (hs : ∀ x ∈ l, x.f0.size ≤ 2000000) (k : Nat) (hk : 5000000000000 ≤ k) : spec_TurnBack.f k l = some (if pxTurns l = true then l.map sw else []) := by
  unfold spec_TurnBack.f
  rw [p_specTurns l hl hs k hk, Option.bind_some]
  split
  · have := specTurnBack_l0 l hl l.length k 0 [] (by omega) (by simp) (by omega)
    simpa using this
  · rfl
theorem p_eqTurns_self (l : List TU) (hl : l.length ≤ 2000000) (k : Nat) (hk : 3000000 ≤ k) : laws_equalTurns.f k l l = some true := by
  unfold laws_equalTurns.f
  rw [if_pos rfl]
  have := loop_all0 (fun k i => laws_equalTurns.l0 k l l i) (fun _ => true) true l.length 0 k (by omega) (fun k i _ hi => by
    simp only [laws_equalTurns.l0]
    rw [if_pos (by omega), if_pos (by omega), if_pos (by omega), if_neg (by simp)]
    simp) (fun k _ => by
    simp only [laws_equalTurns.l0]
    rw [if_neg (by omega)]) (by omega)
  rw [this]
  simp
end Go.Proofs.Ytfcpbgedgedalaa.Pure

namespace Go.Proofs.Ytfcpbgedgedalaa.Pure
open Go.RowKit Go.Proofs.Ytfcpbgedgedalaa.Q Go.Proofs.YtfcpbgedgedalaaL.PrintWords Go.Proofs.YtfcpbgedgedalaaL.PrintLast Go.Proofs.YtfcpbgedgedalaaL.PrintMore
set_option linter.unusedVariables false
set_option linter.unusedSimpArgs false
def tnP (T : List TU) (x : PR) : PR := ⟨tn T x.f0, x.f1⟩
theorem implTurnFlat_l0 (T : List TU) (ps : List Int) (l : List PR) (hT : T.length ≤ 2000000) (hl : l.length ≤ 2000000) : ∀ (d k i : Nat), i + d = l.length → 3000000 + d < k →
    impl_TurnFlat.l0 k T (l.length : Int) (i : Int) ps ((l.take i).map (tnP T) ++ l.drop i) = some (ps, l.map (tnP T)) := by
  intro d
  induction d with
  | zero =>
    intro k i h hk
    obtain ⟨k, rfl⟩ : ∃ m, k = m + 1 := ⟨k - 1, by omega⟩
    simp only [impl_TurnFlat.l0]
    rw [if_neg (by omega), List.drop_of_length_le (by omega), List.take_of_length_le (by omega), List.append_nil]
  | succ d ih =>
    intro k i h hk
    obtain ⟨k, rfl⟩ : ∃ m, k = m + 1 := ⟨k - 1, by omega⟩
    simp only [impl_TurnFlat.l0]
    have hlen : ((l.take i).map (tnP T) ++ l.drop i).length = l.length := by rw [List.length_append, List.length_map, List.length_take, List.length_drop]; omega
    rw [if_pos (by omega), if_pos (by omega), if_pos (by omega), rdp, p_implTurn T _ hT k (by omega), Option.bind_some, wrap_succ (n := l.length) (by omega) (by omega), Int.toNat_natCast]
    have := set_take_map (tnP T) pz l i (by omega)
    unfold tnP at this
    unfold tnP
    rw [this]
    exact ih k (i + 1) (by omega) (by omega)
def turnFlat (T : List TU) (ps : List Int) (l : List PR) : List Int × List PR := if (pxTurns T && vflat ps l) = true then (ps, l.map (tnP T)) else ([], [])
theorem p_implTurnFlat (T : List TU) (ps : List Int) (l : List PR) (hT : T.length ≤ 2000000) (hTs : ∀ x ∈ T, x.f0.size ≤ 2000000) (hp : ps.length ≤ 2000000) (hl : l.length ≤ 2000000) (hs : SmallF l) (k : Nat) (hk : 10000000 ≤ k) :
    impl_TurnFlat.f k T ps l = some (turnFlat T ps l) := by
  obtain ⟨k, rfl⟩ : ∃ m, k = m + 1 := ⟨k - 1, by omega⟩
  unfold impl_TurnFlat.f turnFlat
  rw [p_implTurns T hTs, Option.bind_some, p_implFlat ps l hl hs (k + 1) (by omega), Option.bind_some]
  simp only [impl_TurnFlat.j0]
  have := implTurnFlat_l0 T ps l hT hl l.length k 0 (by omega) (by omega)
  simp only [List.take_zero, List.map_nil, List.nil_append, List.drop_zero] at this
  rw [p_copyOf ps l hp hl, Option.bind_some]
  rw [show ((0 : Nat) : Int) = 0 from rfl] at this
  cases pxTurns T <;> cases vflat ps l <;> simp [this]
theorem okF_turn (T : List TU) (h : OkT T) (ps : List Int) (l : List PR) (hf : OkF ps l) : OkF ps (l.map (tnP T)) := by
  refine ⟨hf.nums, fun x hx => ?_, ?_, hf.len1, by rw [List.length_map]; exact hf.len2⟩
  · obtain ⟨y, hy, rfl⟩ := List.mem_map.1 hx
    have := hf.ok y hy
    unfold pairOk at this ⊢
    rw [Bool.and_eq_true] at this ⊢
    exact ⟨tn_name T h this.1, this.2⟩
  · have hn := hf.names
    rw [List.Nodup, List.pairwise_map] at hn
    rw [List.map_map, List.Nodup, List.pairwise_map]
    exact hn.imp (fun hne e => hne (tn_inj T h e))
end Go.Proofs.Ytfcpbgedgedalaa.Pure

namespace Go.Proofs.Ytfcpbgedgedalaa.Pure
open Go.RowKit Go.Proofs.Ytfcpbgedgedalaa.Q Go.Proofs.YtfcpbgedgedalaaL.PrintWords Go.Proofs.YtfcpbgedgedalaaL.PrintLast Go.Proofs.YtfcpbgedgedalaaL.PrintMore
set_option linter.unusedVariables false
set_option linter.unusedSimpArgs false
theorem rdOf5 (i : Int) (h0 : 0 ≤ i) (h1 : i < 5) : (rdOf ByteArray.empty (([(⟨#[97]⟩ : ByteArray), (⟨#[98]⟩ : ByteArray), (⟨#[99]⟩ : ByteArray), (⟨#[120]⟩ : ByteArray), (⟨#[100]⟩ : ByteArray)] : List ByteArray)) i).size = 1 := by
  have : i = 0 ∨ i = 1 ∨ i = 2 ∨ i = 3 ∨ i = 4 := by omega
  rcases this with rfl | rfl | rfl | rfl | rfl <;> rfl
theorem goodTurns_l0 (r : List Int) (p : Int) (n s : Int) (hn : 1 ≤ n) (hn' : n ≤ 4) (hs : 0 ≤ s) (hs' : s < 5) : ∀ (d k : Nat) (i : Int) (acc : List TU), i + d = n → 0 ≤ i → d < k → acc.length + d ≤ 100 → (∀ x ∈ acc, x.f0.size ≤ 7 ∧ x.f1.size ≤ 7) →
    ∃ l, spec_goodTurns.l0 k (([(⟨#[97]⟩ : ByteArray), (⟨#[98]⟩ : ByteArray), (⟨#[99]⟩ : ByteArray), (⟨#[120]⟩ : ByteArray), (⟨#[100]⟩ : ByteArray)] : List ByteArray)) n s acc i r p = some (l, p) ∧ l.length ≤ acc.length + d ∧ ∀ x ∈ l, x.f0.size ≤ 7 ∧ x.f1.size ≤ 7 := by
  intro d
  induction d with
  | zero =>
    intro k i acc h hi hk hl hx
    obtain ⟨k, rfl⟩ : ∃ m, k = m + 1 := ⟨k - 1, by omega⟩
    simp only [spec_goodTurns.l0]
    rw [if_neg (by omega)]
    exact ⟨acc, rfl, by omega, hx⟩
  | succ d ih =>
    intro k i acc h hi hk hl hx
    obtain ⟨k, rfl⟩ : ∃ m, k = m + 1 := ⟨k - 1, by omega⟩
    simp only [spec_goodTurns.l0]
    rw [wrap_in (n := s + i) (by omega) (by omega), wrap_in (n := i + 1) (by omega) (by omega)]
    have t0 := tmod_in (show 0 ≤ i + 1 by omega) (show 0 < n by omega)
    rw [wrap_in (n := s + Int.tmod (i + 1) n) (by omega) (by omega)]
    have t1 := tmod_in (show 0 ≤ s + i by omega) (show (0 : Int) < 5 by omega)
    have t2 := tmod_in (show 0 ≤ s + Int.tmod (i + 1) n by omega) (show (0 : Int) < 5 by omega)
    rw [if_pos (by omega), if_pos t1.1, if_pos (by simpa using t1.2), if_neg (by omega), if_pos t2.1, if_pos (by simpa using t2.2), if_pos (by omega)]
    have z1 := rdOf5 _ t1.1 t1.2
    have z2 := rdOf5 _ t2.1 t2.2
    generalize rdOf ByteArray.empty _ (Int.tmod (s + i) 5) = a at z1 ⊢
    generalize rdOf ByteArray.empty _ (Int.tmod (s + Int.tmod (i + 1) n) 5) = b at z2 ⊢
    obtain ⟨l, e, h1, h2⟩ := ih k (i + 1) (acc ++ [(⟨a, b⟩ : TU)]) (by omega) (by omega) (by omega) (by simp; omega) (fun x hx' => by
      simp only [List.mem_append, List.mem_singleton] at hx'
      rcases hx' with hx' | rfl
      · exact hx x hx'
      · exact ⟨by show a.size ≤ 7; omega, by show b.size ≤ 7; omega⟩)
    exact ⟨l, e, by simp at h1; omega, h2⟩
theorem p_goodTurns {r : List Int} (h : Rdr r) (k : Nat) (hk : 1000 ≤ k) {p : Int} (hp : 0 ≤ p) (hp' : p ≤ 700000) : ∃ l p', spec_goodTurns.f k r p = some (l, p') ∧ p ≤ p' ∧ p' ≤ p + 2 ∧ l.length ≤ 4 ∧ ∀ x ∈ l, x.f0.size ≤ 7 ∧ x.f1.size ≤ 7 := by
  unfold spec_goodTurns.f
  obtain ⟨v, e, hv⟩ := p_one h k (by omega) hp (by omega) ([3, 2, 4, 1, 0]) (by decide)
  rw [e, Option.bind_some]
  dsimp only
  obtain ⟨s, e, hs, hs'⟩ := p_pick h k (by omega) (p := p + 1) (by omega) (by omega) (n := 5) (by omega)
  rw [e, Option.bind_some]
  dsimp only
  by_cases h0 : v = 0
  · subst h0
    obtain ⟨k, rfl⟩ : ∃ m, k = m + 1 := ⟨k - 1, by omega⟩
    simp only [spec_goodTurns.l0]
    rw [if_neg (by omega)]
    exact ⟨[], _, rfl, by omega, by omega, by simp, by simp⟩
  · have hv' : 1 ≤ v ∧ v ≤ 4 := by
      simp only [List.mem_cons, List.not_mem_nil, or_false] at hv
      omega
    obtain ⟨l, e, h1, h2⟩ := goodTurns_l0 r (p + 1 + 1) v s hv'.1 hv'.2 hs hs' v.toNat k 0 [] (by omega) (by omega) (by omega) (by simp; omega) (by simp)
    exact ⟨l, _, e, by omega, by omega, by simp at h1; omega, h2⟩
theorem set_mem {α : Type} (l : List α) (i : Nat) (x y : α) (h : y ∈ l.set i x) : y = x ∨ y ∈ l := by
  rcases List.mem_or_eq_of_mem_set h with h | h
  · exact .inr h
  · exact .inl h
theorem p_someTurns {r : List Int} (h : Rdr r) (k : Nat) (hk : 2000 ≤ k) {p : Int} (hp : 0 ≤ p) (hp' : p ≤ 600000) : ∃ l p', spec_someTurns.f k r p = some (l, p') ∧ p ≤ p' ∧ p' ≤ p + 10 ∧ l.length ≤ 4 ∧ ∀ x ∈ l, x.f0.size ≤ 7 ∧ x.f1.size ≤ 7 := by
  unfold spec_someTurns.f
  obtain ⟨k, rfl⟩ : ∃ m, k = m + 1 := ⟨k - 1, by omega⟩
  obtain ⟨l, p1, e, h1, h2, h3, h4⟩ := p_goodTurns h (k + 1) (by omega) hp (by omega)
  rw [e, Option.bind_some]
  dsimp only
  have done : ∀ q, p ≤ q → q ≤ p + 10 → ∃ l' p', spec_someTurns.j0 (k + 1) l false r q = some (l', p') ∧ p ≤ p' ∧ p' ≤ p + 10 ∧ l'.length ≤ 4 ∧ ∀ x ∈ l', x.f0.size ≤ 7 ∧ x.f1.size ≤ 7 := by
    intro q hq1 hq2
    simp only [spec_someTurns.j0]
    rw [if_neg (by decide)]
    exact ⟨l, q, rfl, hq1, hq2, h3, h4⟩
  split
  · rename_i hpos
    obtain ⟨v, e, _, _⟩ := p_pick h (k + 1) (by omega) (p := p1) (by omega) (by omega) (n := 12) (by omega)
    rw [e, Option.bind_some]
    dsimp only
    by_cases hv : v = 0
    · subst hv
      rw [show ((0 : Int) == 0) = true from rfl]
      simp only [spec_someTurns.j0, if_true]
      obtain ⟨i, e, hi, hi'⟩ := p_pick h k (by omega) (p := p1 + 1) (by omega) (by omega) (n := (l.length : Int)) (by omega)
      rw [e, Option.bind_some]
      dsimp only
      obtain ⟨v, e, _, _⟩ := p_pick h k (by omega) (p := p1 + 1 + 1) (by omega) (by omega) (n := 2) (by omega)
      rw [e, Option.bind_some]
      dsimp only
      obtain ⟨n, rfl⟩ := Int.eq_ofNat_of_zero_le hi
      have hn : n < l.length := by omega
      have hm := h4 _ (getD_mem l tuz n hn)
      split
      · obtain ⟨s, e, hs⟩ := p_anyName h k (by omega) (p := p1 + 1 + 1 + 1) (by omega) (by omega)
        rw [e, Option.bind_some]
        dsimp only
        first | rw [if_pos hi, if_pos hi', rdtu] | rw [if_pos hi', rdtu] | rw [rdtu]
        refine ⟨_, _, rfl, by omega, by omega, by rw [List.length_set]; exact h3, fun x hx => ?_⟩
        rcases set_mem _ _ _ _ hx with rfl | hx
        · exact ⟨hm.1, hs⟩
        · exact h4 x hx
      · obtain ⟨s, e, hs⟩ := p_anyName h k (by omega) (p := p1 + 1 + 1 + 1) (by omega) (by omega)
        rw [e, Option.bind_some]
        dsimp only
        first | rw [if_pos hi, if_pos hi', rdtu] | rw [if_pos hi', rdtu] | rw [rdtu]
        refine ⟨_, _, rfl, by omega, by omega, by rw [List.length_set]; exact h3, fun x hx => ?_⟩
        rcases set_mem _ _ _ _ hx with rfl | hx
        · exact ⟨hs, hm.2⟩
        · exact h4 x hx
    · have : (v == 0) = false := by simpa using hv
      rw [this]
      exact done _ (by omega) (by omega)
  · exact done _ (by omega) (by omega)
end Go.Proofs.Ytfcpbgedgedalaa.Pure
