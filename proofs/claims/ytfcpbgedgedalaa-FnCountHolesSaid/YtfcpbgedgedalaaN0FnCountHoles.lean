-- written by px.py and merge.py (programs of this claim's), over the kit's print. Not trusted: Lean checks it.
import Derived.Test.YtfcpbgedgedalaaLMore
import Derived.Test.YtfcpbgedgedalaaM2FnCountHoles
import Derived.Test.YtfcpbgedgedalaaM3FnCountHoles
import Derived.Test.YtfcpbgedgedalaaM0FnCountHoles
import Derived.Test.YtfcpbgedgedalaaM4FnCountHoles
import Derived.Test.YtfcpbgedgedalaaM1FnCountHoles
namespace Go.Proofs.Ytfcpbgedgedalaa.Pure
open Go.RowKit Go.Proofs.Ytfcpbgedgedalaa.Q Go.Proofs.YtfcpbgedgedalaaL.PrintWords Go.Proofs.YtfcpbgedgedalaaL.PrintLast Go.Proofs.YtfcpbgedgedalaaL.PrintMore
set_option linter.unusedVariables false
set_option linter.unusedSimpArgs false

/-- A number of a call. -/
def val (v : Int) : Bool := decide (-99 ≤ v) && decide (v ≤ 99)
theorem p_inRange (a lo hi : Int) : spec_inRange.f a lo hi = some (decide (lo ≤ a) && decide (a ≤ hi)) := by
  unfold spec_inRange.f
  split <;> simp [*]
theorem p_in (a lo hi : Int) : impl_in.f a lo hi = some (decide (lo ≤ a) && decide (a ≤ hi)) := by
  unfold impl_in.f
  split
  · have : lo ≤ a := by omega
    simp [this]
  · have : ¬ lo ≤ a := by omega
    simp [this]
theorem p_isValue (v : Int) : impl_isValue.f v = some (val v) := by
  unfold impl_isValue.f val
  simp [p_in]
theorem p_validNumber (v : Int) : spec_validNumber.f v = some (val v) := by
  unfold spec_validNumber.f val
  simp [p_inRange]
theorem bt_eq (s t : ByteArray) : (s.toList == t.toList) = (s.data.toList == t.data.toList) := by
  rw [ByteArray.toList_eq, ByteArray.toList_eq]
theorem bt_eqv (s t : ByteArray) : s.toList = t.toList ↔ s = t := by
  rw [ByteArray.toList_eq, ByteArray.toList_eq]
  constructor
  · intro h
    cases s; cases t
    simp only at h
    exact congrArg _ (Array.toList_inj.1 h)
  · rintro rfl; rfl
/-- A loop that ends with false at the first place that is not good. -/
theorem loop_all (F : Nat → Int → Option Bool) (P : Nat → Bool) (T : Bool) (n B : Nat) (hn : n ≤ 9223372036854775807)
    (hstep : ∀ k i, B ≤ k → i < n → F (k + 1) (i : Int) = if P i = true then F k (wrap64 ((i : Int) + 1)) else some false) (hend : ∀ k, B ≤ k → F (k + 1) (n : Int) = some T) :
    ∀ d k i, i + d = n → B + d < k → F k (i : Int) = some ((List.range' i d).all P && T) := by
  intro d
  induction d with
  | zero =>
    intro k i h hk
    obtain ⟨k, rfl⟩ : ∃ m, k = m + 1 := ⟨k - 1, by omega⟩
    obtain rfl : i = n := by omega
    rw [hend k (by omega)]
    simp
  | succ d ih =>
    intro k i h hk
    obtain ⟨k, rfl⟩ : ∃ m, k = m + 1 := ⟨k - 1, by omega⟩
    rw [hstep k i (by omega) (by omega), wrap_succ (n := n) (by omega) hn, ih k (i + 1) (by omega) (by omega), List.range'_succ, List.all_cons]
    cases P i <;> simp
theorem loop_all0 (F : Nat → Int → Option Bool) (P : Nat → Bool) (T : Bool) (n B k : Nat) (hn : n ≤ 9223372036854775807)
    (hstep : ∀ k i, B ≤ k → i < n → F (k + 1) (i : Int) = if P i = true then F k (wrap64 ((i : Int) + 1)) else some false) (hend : ∀ k, B ≤ k → F (k + 1) (n : Int) = some T)
    (hk : B + n < k) : F k 0 = some ((List.range n).all P && T) := by
  have := loop_all F P T n B hn hstep hend n k 0 (by omega) hk
  rw [List.range_eq_range']
  exact this
theorem name_loop (s : ByteArray) : ((List.range s.size).all fun i => decide (97 ≤ bt s (i : Int)) && decide (bt s (i : Int) ≤ 122)) = s.data.toList.all (fun c => decide (97 ≤ c.toNat) && decide (c.toNat ≤ 122)) := by
  rw [Bool.eq_iff_iff, List.all_eq_true, List.all_eq_true]
  constructor
  · intro h c hc
    obtain ⟨i, hi, rfl⟩ := List.mem_iff_getElem.1 hc
    have hi' : i < s.size := by simpa using hi
    have := h i (List.mem_range.2 hi')
    rw [bt_nat s i hi'] at this
    simp only [Bool.and_eq_true, decide_eq_true_eq] at this ⊢
    have e : s.data.toList[i] = s[i] := rfl
    rw [e]
    omega
  · intro h i hi
    have hi' := List.mem_range.1 hi
    have := h s[i] (by
      have : s[i] = s.data.toList[i]'(by simpa using hi') := rfl
      rw [this]; exact List.getElem_mem _)
    rw [bt_nat s i hi']
    simp only [Bool.and_eq_true, decide_eq_true_eq] at this ⊢
    omega
theorem name_size (s : ByteArray) : (decide ((1 : Int) ≤ (s.size : Int)) && decide ((s.size : Int) ≤ 6)) = (decide (1 ≤ s.size) && decide (s.size ≤ 6)) := by
  rw [Bool.eq_iff_iff]
  simp only [Bool.and_eq_true, decide_eq_true_eq]
  omega
theorem p_validName (s : ByteArray) (hs : s.size ≤ 9223372036854775807) (k : Nat) (hk : s.size < k) : spec_validName.f k s = some (pxName s) := by
  unfold spec_validName.f pxName
  rw [← name_loop]
  refine loop_all0 (fun k i => spec_validName.l0 k s i) _ _ s.size 0 k hs (fun k i _ hi => ?_) (fun k _ => ?_) (by omega)
  · simp only [spec_validName.l0]
    rw [if_pos (by omega), if_pos (by omega)]
    by_cases h1 : bt s (i : Int) < 97
    · have : ¬ 97 ≤ bt s (i : Int) := by omega
      simp [h1, this]
    · have h1' : 97 ≤ bt s (i : Int) := by omega
      by_cases h2 : bt s (i : Int) > 122
      · have : ¬ bt s (i : Int) ≤ 122 := by omega
        simp [h1, h2, this]
      · have : bt s (i : Int) ≤ 122 := by omega
        simp [h1, h2, this, h1']
  · simp only [spec_validName.l0]
    rw [if_neg (by omega), p_inRange, Option.bind_some, name_size]
theorem p_isName (s : ByteArray) (hs : s.size ≤ 9223372036854775807) (k : Nat) (hk : s.size < k) : impl_isName.f k s = some (pxName s) := by
  unfold impl_isName.f pxName
  rw [← name_loop]
  refine loop_all0 (fun k i => impl_isName.l0 k s i) _ _ s.size 0 k hs (fun k i _ hi => ?_) (fun k _ => ?_) (by omega)
  · simp only [impl_isName.l0]
    rw [if_pos (by omega), if_pos (by omega)]
    by_cases h1 : bt s (i : Int) < 97
    · have : ¬ 97 ≤ bt s (i : Int) := by omega
      simp [h1, this]
    · have h1' : 97 ≤ bt s (i : Int) := by omega
      by_cases h2 : bt s (i : Int) > 122
      · have : ¬ bt s (i : Int) ≤ 122 := by omega
        simp [h1, h2, this]
      · have : bt s (i : Int) ≤ 122 := by omega
        simp [h1, h2, this, h1']
  · simp only [impl_isName.l0]
    rw [if_neg (by omega), p_in, Option.bind_some, name_size]

theorem wrap_in {n : Int} (h1 : -9223372036854775808 ≤ n) (h2 : n ≤ 9223372036854775807) : wrap64 n = n := by
  unfold wrap64
  omega
end Go.Proofs.Ytfcpbgedgedalaa.Pure

namespace Go.Proofs.Ytfcpbgedgedalaa.Pure
open Go.RowKit Go.Proofs.Ytfcpbgedgedalaa.Q Go.Proofs.YtfcpbgedgedalaaL.PrintWords Go.Proofs.YtfcpbgedgedalaaL.PrintLast Go.Proofs.YtfcpbgedgedalaaL.PrintMore
set_option linter.unusedVariables false
set_option linter.unusedSimpArgs false
/-! ### what is drawn -/
/-- A reader's row. -/
structure Rdr (l : List Int) : Prop where
  len : l.length ≤ 2000
  byte : ∀ x ∈ l, 0 ≤ x ∧ x ≤ 255
theorem Rdr.rd {l : List Int} (h : Rdr l) (i : Int) : 0 ≤ rd l i ∧ rd l i ≤ 255 := by
  unfold Go.Proofs.YtfcpbgedgedalaaL.PrintWords.rd
  rw [List.getD_eq_getElem?_getD]
  rcases hq : l[i.toNat]? with _ | x
  · simp
  · exact h.byte x (List.mem_of_getElem? hq)
theorem xor_nonneg {a b : Int} (ha : 0 ≤ a) (ha' : a < 1099511627776) (hb : 0 ≤ b) (hb' : b < 1099511627776) : 0 ≤ Go.bits .xor .i64 a b := by
  obtain ⟨a, rfl⟩ := Int.eq_ofNat_of_zero_le ha
  obtain ⟨b, rfl⟩ := Int.eq_ofNat_of_zero_le hb
  have h1 : a < 2 ^ 40 := by omega
  have h2 : b < 2 ^ 40 := by omega
  have h3 := Nat.xor_lt_two_pow h1 h2
  have e1 : a % 2 ^ IntKind.i64.bits = a := Nat.mod_eq_of_lt (by simp only [IntKind.bits]; omega)
  have e2 : b % 2 ^ IntKind.i64.bits = b := Nat.mod_eq_of_lt (by simp only [IntKind.bits]; omega)
  simp only [Go.bits, BitVec.ofInt_natCast, BitVec.toNat_xor, BitVec.toNat_ofNat, e1, e2]
  rw [IntKind.wrap_i64]
  omega
theorem tmod_in {a n : Int} (ha : 0 ≤ a) (hn : 0 < n) : 0 ≤ Int.tmod a n ∧ Int.tmod a n < n := ⟨Int.tmod_nonneg _ ha, Int.tmod_lt_of_pos _ hn⟩
theorem p_pick {l : List Int} (h : Rdr l) (k : Nat) (hk : 1 ≤ k) {p n : Int} (hp : 0 ≤ p) (hp' : p ≤ 1000000) (hn : 1 ≤ n) : ∃ v, spec_reader_pick.f k l p n = some (v, p + 1) ∧ 0 ≤ v ∧ v < n := by
  obtain ⟨k, rfl⟩ : ∃ m, k = m + 1 := ⟨k - 1, by omega⟩
  have w1 : wrap64 (p + 1) = p + 1 := wrap_in (by omega) (by omega)
  have w2 : wrap64 (p + 1 - 1) = p := by rw [wrap_in (by omega) (by omega)]; omega
  unfold spec_reader_pick.f
  rw [if_neg (by omega)]
  simp only [spec_reader_pick.j0]
  rw [w1]
  by_cases h0 : l.length = 0
  · rw [if_pos (by simp [h0])]
    exact ⟨0, rfl, by omega, by omega⟩
  · have hL : 0 < (l.length : Int) := by omega
    have hlen := h.len
    rw [if_neg (by simpa using h0)]
    simp only [w2]
    by_cases h1 : p < (l.length : Int)
    · rw [if_pos h1, if_pos hp, if_neg (by omega)]
      have hr := h.rd p
      rw [wrap_in (n := rd l p) (by omega) (by omega)]
      have := tmod_in hr.1 (show 0 < n by omega)
      exact ⟨_, rfl, this.1, this.2⟩
    · have t1 := tmod_in hp hL
      have e1 : wrap64 (p * 7) = p * 7 := wrap_in (by omega) (by omega)
      have e2 : wrap64 (p * 7 + 3) = p * 7 + 3 := wrap_in (by omega) (by omega)
      rw [e1, e2]
      have t2 := tmod_in (show 0 ≤ p * 7 + 3 by omega) hL
      rw [if_neg h1, if_neg (by omega), if_pos t1.1, if_pos t1.2, if_pos t2.1, if_pos t2.2, if_neg (by omega)]
      have r1 := h.rd (Int.tmod p (l.length : Int))
      have r2 := h.rd (Int.tmod (p * 7 + 3) (l.length : Int))
      generalize rd l (Int.tmod p (l.length : Int)) = x at r1 ⊢
      generalize rd l (Int.tmod (p * 7 + 3) (l.length : Int)) = y at r2 ⊢
      have d1 : 0 ≤ Int.tdiv p (l.length : Int) := Int.tdiv_nonneg hp (by omega)
      have d2 : Int.tdiv p (l.length : Int) ≤ p := Int.tdiv_le_self _ hp
      generalize Int.tdiv p (l.length : Int) = z at d1 d2 ⊢
      rw [wrap_in (n := x) (by omega) (by omega), wrap_in (n := y) (by omega) (by omega), wrap_in (n := z) (by omega) (by omega), wrap_in (n := x * 131) (by omega) (by omega), wrap_in (n := y * 1117) (by omega) (by omega), wrap_in (n := p * 29) (by omega) (by omega), wrap_in (n := z * 53) (by omega) (by omega), wrap_in (n := x * 131 + y * 1117) (by omega) (by omega), wrap_in (n := x * 131 + y * 1117 + p * 29) (by omega) (by omega), wrap_in (n := x * 131 + y * 1117 + p * 29 + z * 53) (by omega) (by omega)]
      have a0 : 0 ≤ x * 131 + y * 1117 + p * 29 + z * 53 := by omega
      have a1 : x * 131 + y * 1117 + p * 29 + z * 53 < 1099511627776 := by omega
      generalize x * 131 + y * 1117 + p * 29 + z * 53 = u at a0 a1 ⊢
      have b0 : 0 ≤ Int.tdiv u 64 := Int.tdiv_nonneg a0 (by omega)
      have b1 : Int.tdiv u 64 ≤ u := Int.tdiv_le_self _ a0
      rw [wrap_in (n := Int.tdiv u 64) (by omega) (by omega)]
      have := tmod_in (xor_nonneg a0 a1 b0 (by omega)) (show 0 < n by omega)
      exact ⟨_, rfl, this.1, this.2⟩
theorem rd_mem {l : List Int} {i : Int} (h0 : 0 ≤ i) (h1 : i < (l.length : Int)) : rd l i ∈ l := by
  unfold Go.Proofs.YtfcpbgedgedalaaL.PrintWords.rd
  rw [List.getD_eq_getElem?_getD, List.getElem?_eq_getElem (by omega)]
  exact List.getElem_mem _
theorem p_one {l : List Int} (h : Rdr l) (k : Nat) (hk : 1 ≤ k) {p : Int} (hp : 0 ≤ p) (hp' : p ≤ 1000000) (xs : List Int) (hx : 1 ≤ xs.length) : ∃ v, spec_reader_one.f k l p xs = some (v, p + 1) ∧ v ∈ xs := by
  unfold spec_reader_one.f
  obtain ⟨v, e, h0, h1⟩ := p_pick h k hk hp hp' (n := (xs.length : Int)) (by omega)
  rw [e, Option.bind_some]
  dsimp only
  rw [if_pos h0, if_pos h1]
  exact ⟨_, rfl, rd_mem h0 h1⟩
theorem p_of {l : List Int} (h : Rdr l) (k : Nat) (hk : 1 ≤ k) {p : Int} (hp : 0 ≤ p) (hp' : p ≤ 1000000) (xs : List ByteArray) (hx : 1 ≤ xs.length) : ∃ v, spec_reader_of.f k l p xs = some (v, p + 1) ∧ v ∈ xs := by
  unfold spec_reader_of.f
  obtain ⟨v, e, h0, h1⟩ := p_pick h k hk hp hp' (n := (xs.length : Int)) (by omega)
  rw [e, Option.bind_some]
  dsimp only
  rw [if_pos h0, if_pos h1]
  refine ⟨_, rfl, ?_⟩
  unfold rdOf
  rw [List.getD_eq_getElem?_getD, List.getElem?_eq_getElem (by omega)]
  exact List.getElem_mem _
theorem p_newReader (l : List Int) (hb : ∀ x ∈ l, (Lit.int .u8 x).wf = true) : ∃ m, spec_newReader.f l = some (m, 0) ∧ Rdr m := by
  have hb' : ∀ x ∈ l, 0 ≤ x ∧ x ≤ 255 := by
    intro x hx
    have := hb x hx
    simp [Lit.wf, IntKind.min, IntKind.max, IntKind.signed, IntKind.bits] at this
    omega
  unfold spec_newReader.f
  by_cases h : (l.length : Int) > 2000
  · rw [if_pos h, if_pos (by omega)]
    exact ⟨_, rfl, by rw [List.length_take]; omega, fun x hx => hb' x (List.mem_of_mem_take hx)⟩
  · rw [if_neg h]
    exact ⟨_, rfl, by omega, hb'⟩
end Go.Proofs.Ytfcpbgedgedalaa.Pure

namespace Go.Proofs.Ytfcpbgedgedalaa.Pure
open Go.RowKit Go.Proofs.Ytfcpbgedgedalaa.Q Go.Proofs.YtfcpbgedgedalaaL.PrintWords Go.Proofs.YtfcpbgedgedalaaL.PrintLast Go.Proofs.YtfcpbgedgedalaaL.PrintMore
set_option linter.unusedVariables false
set_option linter.unusedSimpArgs false
theorem range_all {α : Type} (l : List α) (d : α) (p : α → Bool) : ((List.range l.length).all fun i => p (l.getD i d)) = l.all p := by
  rw [Bool.eq_iff_iff, List.all_eq_true, List.all_eq_true]
  constructor
  · intro h x hx
    obtain ⟨i, hi, rfl⟩ := List.mem_iff_getElem.1 hx
    have := h i (List.mem_range.2 hi)
    rwa [List.getD_eq_getElem?_getD, List.getElem?_eq_getElem hi] at this
  · intro h i hi
    have hi' := List.mem_range.1 hi
    rw [List.getD_eq_getElem?_getD, List.getElem?_eq_getElem hi']
    exact h _ (List.getElem_mem _)
theorem getD_mem {α : Type} (l : List α) (d : α) (i : Nat) (h : i < l.length) : l.getD i d ∈ l := by
  rw [List.getD_eq_getElem?_getD, List.getElem?_eq_getElem h]
  exact List.getElem_mem _
theorem rd_nat (l : List Int) (i : Nat) : rd l (i : Int) = l.getD i 0 := by
  unfold Go.Proofs.YtfcpbgedgedalaaL.PrintWords.rd
  rw [Int.toNat_natCast]
theorem rdOf_nat {α : Type} (d : α) (l : List α) (i : Nat) : rdOf d l (i : Int) = l.getD i d := by
  unfold rdOf
  rw [Int.toNat_natCast]
/-- A loop that looks for the first one. -/
theorem loop_find {α : Type} (F : Nat → Int → Option Int) (l : List α) (d : α) (p : α → Bool) (B : Nat) (hn : l.length ≤ 9223372036854775807)
    (hstep : ∀ k i, B ≤ k → i < l.length → F (k + 1) (i : Int) = if p (l.getD i d) = true then some (i : Int) else F k (wrap64 ((i : Int) + 1))) (hend : ∀ k, B ≤ k → F (k + 1) (l.length : Int) = some (-1)) :
    ∀ e k i, i + e = l.length → B + e < k → (∀ j, j < i → p (l.getD j d) = false) → F k (i : Int) = some (pxIdx p l) := by
  intro e
  induction e with
  | zero =>
    intro k i h hk hm
    obtain ⟨k, rfl⟩ : ∃ m, k = m + 1 := ⟨k - 1, by omega⟩
    obtain rfl : i = l.length := by omega
    rw [hend k (by omega), pxIdx_miss p l d hm]
  | succ e ih =>
    intro k i h hk hm
    obtain ⟨k, rfl⟩ : ∃ m, k = m + 1 := ⟨k - 1, by omega⟩
    rw [hstep k i (by omega) (by omega)]
    cases hq : p (l.getD i d) with
    | true => rw [if_pos rfl, pxIdx_hit p l d i (by omega) hq hm]
    | false =>
      rw [if_neg (by simp), wrap_succ (n := l.length) (by omega) hn]
      refine ih k (i + 1) (by omega) (by omega) (fun j hj => ?_)
      by_cases e : j = i
      · rw [e]; exact hq
      · exact hm j (by omega)
theorem loop_find0 {α : Type} (F : Nat → Int → Option Int) (l : List α) (d : α) (p : α → Bool) (B k : Nat) (hn : l.length ≤ 9223372036854775807)
    (hstep : ∀ k i, B ≤ k → i < l.length → F (k + 1) (i : Int) = if p (l.getD i d) = true then some (i : Int) else F k (wrap64 ((i : Int) + 1))) (hend : ∀ k, B ≤ k → F (k + 1) (l.length : Int) = some (-1))
    (hk : B + l.length < k) : F k 0 = some (pxIdx p l) :=
  loop_find F l d p B hn hstep hend l.length k 0 (by omega) hk (fun j hj => absurd hj (Nat.not_lt_zero _))
theorem pxIdx_range {α : Type} (p : α → Bool) (l : List α) : pxIdx p l = -1 ∨ ∃ i : Nat, i < l.length ∧ pxIdx p l = (i : Int) := by
  unfold pxIdx
  cases h : l.findIdx? p with
  | none => exact .inl rfl
  | some i =>
    rw [List.findIdx?_eq_some_iff_getElem] at h
    exact .inr ⟨i, h.1, rfl⟩
end Go.Proofs.Ytfcpbgedgedalaa.Pure

namespace Go.Proofs.Ytfcpbgedgedalaa.Pure
open Go.RowKit Go.Proofs.Ytfcpbgedgedalaa.Q Go.Proofs.YtfcpbgedgedalaaL.PrintWords Go.Proofs.YtfcpbgedgedalaaL.PrintLast Go.Proofs.YtfcpbgedgedalaaL.PrintMore
set_option linter.unusedVariables false
set_option linter.unusedSimpArgs false
abbrev PR := S33
abbrev pz : PR := z33
theorem rdp (l : List PR) (i : Nat) : rd_T33 l (i : Int) = l.getD i pz := by
  unfold rd_T33
  rw [Int.toNat_natCast]
theorem p_validNumbers (l : List Int) (hl : l.length ≤ 2000000) (k : Nat) (hk : 3000000 ≤ k) : spec_validNumbers.f k l = some (l.all val) := by
  unfold spec_validNumbers.f
  rw [← range_all l 0 val, ← Bool.and_true (List.all _ _)]
  refine loop_all0 (fun k i => spec_validNumbers.l0 k l i) _ _ l.length 0 k (by omega) (fun k i _ hi => ?_) (fun k _ => ?_) (by omega)
  · simp only [spec_validNumbers.l0]
    rw [if_pos (by omega), if_pos (by omega), p_validNumber, Option.bind_some, rd_nat]
  · simp only [spec_validNumbers.l0]
    rw [if_neg (by omega)]
theorem p_areValues (l : List Int) : impl_areValues.f l = some (l.all val) := by
  unfold impl_areValues.f
  rw [Option.some.injEq, List.not_any_eq_all_not]
  simp only [Bool.not_not]
  rfl
theorem p_specPairAt (l : List PR) (s : ByteArray) (hl : l.length ≤ 2000000) (k : Nat) (hk : 3000000 ≤ k) : spec_pairAt.f k l s = some (pxIdx (fun x : PR => x.f0.toList == s.toList) l) := by
  unfold spec_pairAt.f
  refine loop_find0 (fun k i => spec_pairAt.l0 k l s i) l pz _ 0 k (by omega) (fun k i _ hi => ?_) (fun k _ => ?_) (by omega)
  · simp only [spec_pairAt.l0]
    rw [if_pos (by omega), if_pos (by omega), rdp]
    simp only [beq_iff_eq]
  · simp only [spec_pairAt.l0]
    rw [if_neg (by omega)]
/-- What a pair must be. -/
def pairOk (x : PR) : Bool := pxName x.f0 && val x.f1
def freshAt (l : List PR) (i : Nat) : Bool := !((l.take i).any fun x => x.f0.toList == (l.getD i pz).f0.toList)
def vflat (ps : List Int) (l : List PR) : Bool := (List.range l.length).all (freshAt l) && (ps.all val && l.all pairOk && decide (ps.length ≤ 8) && decide (l.length ≤ 8))
theorem p_validPairs (l : List PR) (hl : l.length ≤ 2000000) (hs : ∀ x ∈ l, x.f0.size ≤ 2000000) (k : Nat) (hk : 6000000 ≤ k) : spec_validPairs.f k l = some (l.all pairOk) := by
  unfold spec_validPairs.f
  rw [← range_all l pz pairOk, ← Bool.and_true (List.all _ _)]
  refine loop_all0 (fun k i => spec_validPairs.l0 k l i) _ _ l.length 3000000 k (by omega) (fun k i hk hi => ?_) (fun k _ => ?_) (by omega)
  · simp only [spec_validPairs.l0]
    have hsz := hs _ (getD_mem l pz i hi)
    rw [if_pos (by omega), if_pos (by omega), rdp, p_validName _ (by omega) k (by omega), Option.bind_some, p_validNumber, Option.bind_some]
    unfold pairOk
    cases pxName (l.getD i pz).f0 <;> cases val (l.getD i pz).f1 <;> simp
  · simp only [spec_validPairs.l0]
    rw [if_neg (by omega)]
theorem freshAt_idx (l : List PR) (i : Nat) : freshAt l i = !decide (pxIdx (fun x : PR => x.f0.toList == (l.getD i pz).f0.toList) (l.take i) ≥ 0) := by
  rw [pxIdx_any]; rfl
theorem int_le8 (n : Nat) : decide ((n : Int) ≤ 8) = decide (n ≤ 8) := by
  rw [decide_eq_decide]; omega
theorem p_specFlat (ps : List Int) (l : List PR) (hp : ps.length ≤ 2000000) (hl : l.length ≤ 2000000) (hs : ∀ x ∈ l, x.f0.size ≤ 2000000) (k : Nat) (hk : 9000000 ≤ k) : spec_validFlat.f k ps l = some (vflat ps l) := by
  unfold spec_validFlat.f vflat
  refine loop_all0 (fun k i => spec_validFlat.l0 k i ps l) _ _ l.length 6000000 k (by omega) (fun k i hk hi => ?_) (fun k hk => ?_) (by omega)
  · simp only [spec_validFlat.l0]
    rw [if_pos (by omega), if_pos (by omega), if_pos (by omega), Int.toNat_natCast, rdp, p_specPairAt _ _ (by rw [List.length_take]; omega) k (by omega), Option.bind_some, freshAt_idx]
    generalize pxIdx (fun x : PR => x.f0.toList == (l.getD i pz).f0.toList) (l.take i) = q
    by_cases h : q ≥ 0
    · rw [if_pos h, if_neg (by simp [h])]
    · rw [if_neg h, if_pos (by simp [h])]
  · simp only [spec_validFlat.l0]
    rw [if_neg (by omega), p_validNumbers ps hp k (by omega), Option.bind_some, p_validPairs l hl hs k hk, Option.bind_some, int_le8]
    cases ps.all val <;> cases l.all pairOk <;> by_cases h : ps.length ≤ 8 <;> simp [h] <;> omega
theorem p_pairValid (s : ByteArray) (v : Int) (hs : s.size ≤ 2000000) (k : Nat) (hk : 3000000 ≤ k) : impl_Pair_valid.f k s v = some (pxName s && val v) := by
  unfold impl_Pair_valid.f
  rw [p_isName s (by omega) k (by omega), Option.bind_some, p_isValue, Option.bind_some]
  cases pxName s <;> simp
theorem and_range (n : Nat) (p q : Nat → Bool) : ((List.range n).all fun i => p i && q i) = ((List.range n).all p && (List.range n).all q) := by
  induction n with
  | zero => rfl
  | succ n ih =>
    simp only [List.range_succ, List.all_append, List.all_cons, List.all_nil, ih]
    cases (List.range n).all p <;> cases (List.range n).all q <;> cases p n <;> cases q n <;> rfl
theorem p_implFlat (ps : List Int) (l : List PR) (hl : l.length ≤ 2000000) (hs : ∀ x ∈ l, x.f0.size ≤ 2000000) (k : Nat) (hk : 9000000 ≤ k) : impl_ValidFlat.f k ps l = some (vflat ps l) := by
  unfold impl_ValidFlat.f
  have e : vflat ps l = (((List.range l.length).all fun i => pairOk (l.getD i pz) && freshAt l i) && (decide (ps.length ≤ 8) && decide (l.length ≤ 8) && ps.all val)) := by
    rw [and_range, range_all l pz pairOk]
    unfold vflat
    cases (List.range l.length).all (freshAt l) <;> cases ps.all val <;> cases l.all pairOk <;> cases decide (ps.length ≤ 8) <;> cases decide (l.length ≤ 8) <;> rfl
  rw [e]
  refine loop_all0 (fun k i => impl_ValidFlat.l0 k l (l.length : Int) i ps l) _ _ l.length 6000000 k (by omega) (fun k i hk hi => ?_) (fun k hk => ?_) (by omega)
  · simp only [impl_ValidFlat.l0]
    have hsz := hs _ (getD_mem l pz i hi)
    rw [if_pos (by omega), if_pos (by omega), if_pos (by omega), rdp, p_pairValid _ _ hsz k (by omega), Option.bind_some, if_pos (show (i : Int) ≤ (l.length : Int) by omega), Int.toNat_natCast]
    unfold impl_pairAt.f
    rw [Option.bind_some, freshAt_idx]
    unfold pairOk
    cases pxName (l.getD i pz).f0 && val (l.getD i pz).f1 with
    | false => simp
    | true =>
      generalize pxIdx (fun x : PR => x.f0.toList == (l.getD i pz).f0.toList) (l.take i) = q
      by_cases h : q ≥ 0
      · simp [h]
      · simp [h]
  · simp only [impl_ValidFlat.l0]
    rw [if_neg (by omega), p_areValues, Option.bind_some]
    by_cases h1 : ps.length ≤ 8
    · rw [if_pos (by omega)]
      by_cases h2 : l.length ≤ 8
      · rw [if_pos (by omega)]
        simp [h1, h2]
      · rw [if_neg (by omega)]
        simp [h2]
    · rw [if_neg (by omega)]
      simp [h1]
end Go.Proofs.Ytfcpbgedgedalaa.Pure

namespace Go.Proofs.Ytfcpbgedgedalaa.Pure
open Go.RowKit Go.Proofs.Ytfcpbgedgedalaa.Q Go.Proofs.YtfcpbgedgedalaaL.PrintWords Go.Proofs.YtfcpbgedgedalaaL.PrintLast Go.Proofs.YtfcpbgedgedalaaL.PrintMore
set_option linter.unusedVariables false
set_option linter.unusedSimpArgs false
abbrev PL := S100
abbrev plz : PL := z100
theorem rdpl (l : List PL) (i : Nat) : rd_T100 l (i : Int) = l.getD i plz := by
  unfold rd_T100
  rw [Int.toNat_natCast]
def placeOk (x : PL) : Bool := val x.f1 && (!x.f0 || x.f1 == 0)
def vholes (l : List PL) (ns : List PR) : Bool := l.all placeOk && (decide (l.length ≤ 8) && vflat [] ns)
theorem p_implHoles (l : List PL) (ns : List PR) (hl : ns.length ≤ 2000000) (hs : ∀ x ∈ ns, x.f0.size ≤ 2000000) (k : Nat) (hk : 9000000 ≤ k) : impl_ValidHoles.f k l ns = some (vholes l ns) := by
  unfold impl_ValidHoles.f vholes
  rw [p_implFlat [] ns hl hs k hk, Option.bind_some]
  have e : (!l.any fun x : PL => !(decide (-99 ≤ x.f1) && decide (x.f1 ≤ 99)) || (x.f0 && !(x.f1 == 0))) = l.all placeOk := by
    rw [List.not_any_eq_all_not]
    congr 1
    funext x
    unfold placeOk val
    cases (decide (-99 ≤ x.f1) && decide (x.f1 ≤ 99)) <;> cases x.f0 <;> cases (x.f1 == 0) <;> rfl
  rw [e]
  by_cases h : l.length ≤ 8
  · rw [if_pos h, decide_eq_true h]
    cases vflat [] ns <;> cases l.all placeOk <;> rfl
  · rw [if_neg h, decide_eq_false h]
    cases l.all placeOk <;> rfl
theorem p_specHoles (l : List PL) (ns : List PR) (hp : l.length ≤ 2000000) (hl : ns.length ≤ 2000000) (hs : ∀ x ∈ ns, x.f0.size ≤ 2000000) (k : Nat) (hk : 12000000 ≤ k) : spec_validHoles.f k l ns = some (vholes l ns) := by
  unfold spec_validHoles.f vholes
  rw [← range_all l plz placeOk]
  refine loop_all0 (fun k i => spec_validHoles.l0 k i l ns) _ _ l.length 9000000 k (by omega) (fun k i hk hi => ?_) (fun k hk => ?_) (by omega)
  · simp only [spec_validHoles.l0]
    rw [if_pos (by omega), if_pos (by omega), rdpl, p_validNumber, Option.bind_some]
    unfold placeOk
    generalize l.getD i plz = x
    cases h0 : x.f0 with
    | false => simp
    | true =>
      by_cases h1 : x.f1 = 0
      · simp [h1]
      · simp [h1]
  · simp only [spec_validHoles.l0]
    rw [if_neg (by omega), p_specFlat [] ns (by simp) hl hs k hk, Option.bind_some]
    by_cases h : l.length ≤ 8
    · rw [if_pos (by omega), decide_eq_true h, Bool.true_and]
    · rw [if_neg (by omega), decide_eq_false h]
      rfl
theorem vholes_take (l : List PL) (ns : List PR) (n : Nat) (h : vholes l ns = true) : vholes (l.take n) ns = true := by
  unfold vholes at *
  simp only [Bool.and_eq_true, decide_eq_true_eq, List.all_eq_true] at *
  exact ⟨fun x hx => h.1 x (List.mem_of_mem_take hx), by rw [List.length_take]; omega, h.2.2⟩
end Go.Proofs.Ytfcpbgedgedalaa.Pure

namespace Go.Proofs.Ytfcpbgedgedalaa.Pure
open Go.RowKit Go.Proofs.Ytfcpbgedgedalaa.Q Go.Proofs.YtfcpbgedgedalaaL.PrintWords Go.Proofs.YtfcpbgedgedalaaL.PrintLast Go.Proofs.YtfcpbgedgedalaaL.PrintMore
set_option linter.unusedVariables false
set_option linter.unusedSimpArgs false
def countH (l : List PL) (ns : List PR) : Int := if vholes l ns = true then (((l.filter (·.f0)).length : Nat) : Int) else -1
theorem p_specCountH (l : List PL) (ns : List PR) (hp : l.length ≤ 2000000) (hl : ns.length ≤ 2000000) (hs : ∀ x ∈ ns, x.f0.size ≤ 2000000) (k : Nat) (hk : 12000000 ≤ k) : spec_CountHoles.f k l ns = some (countH l ns) := by
  unfold spec_CountHoles.f countH
  rw [p_specHoles l ns hp hl hs k hk, Option.bind_some]
  split
  · have key : ∀ (d k i c : Nat), i + d = l.length → d < k → c ≤ i → spec_countHoles.l0 k (c : Int) (i : Int) l ns = some (((c + ((l.drop i).filter (·.f0)).length : Nat)) : Int) := by
      intro d
      induction d with
      | zero =>
        intro k i c h hk hc
        obtain ⟨k, rfl⟩ : ∃ m, k = m + 1 := ⟨k - 1, by omega⟩
        simp only [spec_countHoles.l0]
        rw [if_neg (by omega), List.drop_of_length_le (by omega)]
        simp
      | succ d ih =>
        intro k i c h hk hc
        obtain ⟨k, rfl⟩ : ∃ m, k = m + 1 := ⟨k - 1, by omega⟩
        simp only [spec_countHoles.l0]
        rw [if_pos (by omega), if_pos (by omega), rdpl, wrap_succ (i := i) (n := l.length) (by omega) (by omega), wrap_succ (i := c) (n := 2000001) (by omega) (by omega), drop_getD l plz i (by omega), List.filter_cons]
        split
        · rw [ih k (i + 1) (c + 1) (by omega) (by omega) (by omega), List.length_cons]
          congr 1
          omega
        · exact ih k (i + 1) c (by omega) (by omega) (by omega)
    have := key l.length k 0 0 (by omega) (by omega) (by omega)
    unfold spec_countHoles.f
    rw [show ((0 : Nat) : Int) = 0 from rfl] at this
    rw [this]
    simp
  · rfl
theorem p_implCountH (l : List PL) (ns : List PR) (hp : l.length ≤ 2000000) (hl : ns.length ≤ 2000000) (hs : ∀ x ∈ ns, x.f0.size ≤ 2000000) (k : Nat) (hk : 12000000 ≤ k) : impl_CountHoles.f k l ns = some (countH l ns) := by
  unfold impl_CountHoles.f countH
  rw [p_implHoles l ns hl hs k (by omega), Option.bind_some]
  split
  · have key : ∀ (d k i c : Nat), i + d = l.length → d < k → c ≤ i → impl_Holes_holes.l0 k (c : Int) l (l.length : Int) (i : Int) = some (((c + ((l.drop i).filter (·.f0)).length : Nat)) : Int) := by
      intro d
      induction d with
      | zero =>
        intro k i c h hk hc
        obtain ⟨k, rfl⟩ : ∃ m, k = m + 1 := ⟨k - 1, by omega⟩
        simp only [impl_Holes_holes.l0]
        rw [if_neg (by omega), List.drop_of_length_le (by omega)]
        simp
      | succ d ih =>
        intro k i c h hk hc
        obtain ⟨k, rfl⟩ : ∃ m, k = m + 1 := ⟨k - 1, by omega⟩
        simp only [impl_Holes_holes.l0]
        rw [if_pos (by omega), if_pos (by omega), if_pos (by omega), rdpl, wrap_succ (i := i) (n := l.length) (by omega) (by omega), wrap_succ (i := c) (n := 2000001) (by omega) (by omega), drop_getD l plz i (by omega), List.filter_cons]
        split
        · rw [ih k (i + 1) (c + 1) (by omega) (by omega) (by omega), List.length_cons]
          congr 1
          omega
        · exact ih k (i + 1) c (by omega) (by omega) (by omega)
    have := key l.length k 0 0 (by omega) (by omega) (by omega)
    unfold impl_Holes_holes.f
    rw [show ((0 : Nat) : Int) = 0 from rfl] at this
    rw [this]
    simp
  · rfl
end Go.Proofs.Ytfcpbgedgedalaa.Pure

namespace Go.Proofs.Ytfcpbgedgedalaa.Pure
open Go.RowKit Go.Proofs.Ytfcpbgedgedalaa.Q Go.Proofs.YtfcpbgedgedalaaL.PrintWords Go.Proofs.YtfcpbgedgedalaaL.PrintLast Go.Proofs.YtfcpbgedgedalaaL.PrintMore
set_option linter.unusedVariables false
set_option linter.unusedSimpArgs false
theorem p_aName {l : List Int} (h : Rdr l) (k : Nat) (hk : 1 ≤ k) {p : Int} (hp : 0 ≤ p) (hp' : p ≤ 1000000) : ∃ s, spec_aName.f k l p = some (s, p + 1) ∧ s.size = 1 ∧ pxName s = true := by
  unfold spec_aName.f
  obtain ⟨v, e, hv⟩ := p_of h k hk hp hp' ([(⟨#[97]⟩ : ByteArray), (⟨#[98]⟩ : ByteArray), (⟨#[99]⟩ : ByteArray), (⟨#[100]⟩ : ByteArray), (⟨#[120]⟩ : ByteArray), (⟨#[121]⟩ : ByteArray), (⟨#[97]⟩ : ByteArray), (⟨#[98]⟩ : ByteArray), (⟨#[99]⟩ : ByteArray)]) (by decide)
  rw [e, Option.bind_some]
  refine ⟨v, rfl, ?_⟩
  simp only [List.mem_cons, List.not_mem_nil, or_false] at hv
  rcases hv with rfl | rfl | rfl | rfl | rfl | rfl | rfl | rfl | rfl <;> exact ⟨rfl, by decide⟩
theorem p_anyName {l : List Int} (h : Rdr l) (k : Nat) (hk : 1 ≤ k) {p : Int} (hp : 0 ≤ p) (hp' : p ≤ 999999) : ∃ s, spec_anyName.f k l p = some (s, p + 2) ∧ s.size ≤ 7 := by
  unfold spec_anyName.f
  obtain ⟨v, e, _, _⟩ := p_pick h k hk hp (by omega) (n := 16) (by omega)
  rw [e, Option.bind_some]
  dsimp only
  have e2 : p + 1 + 1 = p + 2 := by omega
  split
  · obtain ⟨v, e, hv⟩ := p_of h k hk (p := p + 1) (by omega) (by omega) ([(⟨#[]⟩ : ByteArray), (⟨#[65]⟩ : ByteArray), (⟨#[116, 111, 111, 108, 111, 110, 103]⟩ : ByteArray), (⟨#[97, 49]⟩ : ByteArray), (⟨#[97, 98, 99, 100, 101, 102]⟩ : ByteArray)]) (by decide)
    rw [e, Option.bind_some, e2]
    refine ⟨v, rfl, ?_⟩
    simp only [List.mem_cons, List.not_mem_nil, or_false] at hv
    rcases hv with rfl | rfl | rfl | rfl | rfl <;> decide
  · obtain ⟨v, e, h1, _⟩ := p_aName h k hk (p := p + 1) (by omega) (by omega)
    rw [e, Option.bind_some, e2]
    exact ⟨v, rfl, by omega⟩
end Go.Proofs.Ytfcpbgedgedalaa.Pure

namespace Go.Proofs.Ytfcpbgedgedalaa.Pure
open Go.RowKit Go.Proofs.Ytfcpbgedgedalaa.Q Go.Proofs.YtfcpbgedgedalaaL.PrintWords Go.Proofs.YtfcpbgedgedalaaL.PrintLast Go.Proofs.YtfcpbgedgedalaaL.PrintMore
set_option linter.unusedVariables false
set_option linter.unusedSimpArgs false
theorem p_aNumber {l : List Int} (h : Rdr l) (k : Nat) (hk : 1 ≤ k) {p : Int} (hp : 0 ≤ p) (hp' : p ≤ 1000000) : ∃ v, spec_aNumber.f k l p = some (v, p + 1) ∧ val v = true := by
  unfold spec_aNumber.f
  obtain ⟨v, e, hv⟩ := p_one h k hk hp hp' ([1, 2, 3, 0, 5, (-1), 7, 99, (-99)]) (by decide)
  rw [e, Option.bind_some]
  refine ⟨v, rfl, ?_⟩
  simp only [List.mem_cons, List.not_mem_nil, or_false] at hv
  rcases hv with rfl | rfl | rfl | rfl | rfl | rfl | rfl | rfl | rfl <;> rfl
end Go.Proofs.Ytfcpbgedgedalaa.Pure

namespace Go.Proofs.Ytfcpbgedgedalaa.Pure
open Go.RowKit Go.Proofs.Ytfcpbgedgedalaa.Q Go.Proofs.YtfcpbgedgedalaaL.PrintWords Go.Proofs.YtfcpbgedgedalaaL.PrintLast Go.Proofs.YtfcpbgedgedalaaL.PrintMore
set_option linter.unusedVariables false
set_option linter.unusedSimpArgs false
def putP (l : List PR) (x : PR) : List PR := if pxIdx (fun y : PR => y.f0.toList == x.f0.toList) l ≥ 0 then l.set (pxIdx (fun y : PR => y.f0.toList == x.f0.toList) l).toNat x else l ++ [x]
theorem p_putPair (l : List PR) (s : ByteArray) (v : Int) (hl : l.length ≤ 2000000) (k : Nat) (hk : 3000000 ≤ k) : spec_putPair.f k l s v = some (putP l ⟨s, v⟩) := by
  unfold spec_putPair.f putP
  rw [Option.bind_some, if_pos (by simp; omega), Option.bind_some, List.nil_append, p_specPairAt l s hl k hk, Option.bind_some]
  dsimp only
  rcases pxIdx_range (fun x : PR => x.f0.toList == s.toList) l with e | ⟨i, hi, e⟩
  · rw [e, if_neg (by omega), if_pos (by omega), if_neg (by omega)]
  · rw [e, if_pos (by omega), if_pos (by omega), if_pos (by omega), if_pos (by omega)]
theorem putP_len (l : List PR) (x : PR) : (putP l x).length ≤ l.length + 1 := by
  unfold putP
  split
  · rw [List.length_set]; omega
  · rw [List.length_append]; simp
theorem putP_mem (l : List PR) (x y : PR) (h : y ∈ putP l x) : y = x ∨ y ∈ l := by
  unfold putP at h
  split at h
  · rcases List.mem_or_eq_of_mem_set h with h | h
    · exact .inr h
    · exact .inl h
  · simp at h
    rcases h with h | h
    · exact .inr h
    · exact .inl h
end Go.Proofs.Ytfcpbgedgedalaa.Pure

namespace Go.Proofs.Ytfcpbgedgedalaa.Pure
open Go.RowKit Go.Proofs.Ytfcpbgedgedalaa.Q Go.Proofs.YtfcpbgedgedalaaL.PrintWords Go.Proofs.YtfcpbgedgedalaaL.PrintLast Go.Proofs.YtfcpbgedgedalaaL.PrintMore
set_option linter.unusedVariables false
set_option linter.unusedSimpArgs false
theorem goodFlat_l1 {r : List Int} (h : Rdr r) (ps : List Int) : ∀ (n k : Nat) (p : Int) (l : List PR), 3000000 + n < k → 0 ≤ p → p + 2 * n ≤ 900000 → l.length + n ≤ 1000 → (∀ x ∈ l, x.f0.size ≤ 7) →
    ∃ l' p', spec_goodFlat.l1 k (n : Int) r p ps l = some (ps, l', p') ∧ p ≤ p' ∧ p' ≤ p + 2 * n ∧ l'.length ≤ l.length + n ∧ ∀ x ∈ l', x.f0.size ≤ 7 := by
  intro n
  induction n with
  | zero =>
    intro k p l hk hp hp' hl hs
    obtain ⟨k, rfl⟩ : ∃ m, k = m + 1 := ⟨k - 1, by omega⟩
    simp only [spec_goodFlat.l1]
    rw [if_neg (by omega)]
    exact ⟨l, p, rfl, by omega, by omega, by omega, hs⟩
  | succ n ih =>
    intro k p l hk hp hp' hl hs
    obtain ⟨k, rfl⟩ : ∃ m, k = m + 1 := ⟨k - 1, by omega⟩
    simp only [spec_goodFlat.l1]
    rw [if_pos (by omega)]
    obtain ⟨s, e, h1, _⟩ := p_aName h k (by omega) hp (by omega)
    rw [e, Option.bind_some]
    dsimp only
    obtain ⟨v, e, h2⟩ := p_aNumber h k (by omega) (p := p + 1) (by omega) (by omega)
    rw [e, Option.bind_some]
    dsimp only
    rw [p_putPair l s v (by omega) k (by omega), Option.bind_some]
    have w : wrap64 (((n + 1 : Nat) : Int) - 1) = (n : Int) := by rw [wrap_in (by omega) (by omega)]; omega
    rw [w]
    have hlen := putP_len l ⟨s, v⟩
    obtain ⟨l', p', e, h3, h4, h5, h6⟩ := ih k (p + 1 + 1) (putP l ⟨s, v⟩) (by omega) (by omega) (by omega) (by omega) (fun x hx => by
      rcases putP_mem l _ x hx with rfl | hx
      · show s.size ≤ 7
        omega
      · exact hs x hx)
    exact ⟨l', p', e, by omega, by omega, by omega, h6⟩
theorem goodFlat_l0 {r : List Int} (h : Rdr r) : ∀ (n k : Nat) (p : Int) (ps : List Int) (l : List PR), 4000000 + n < k → 0 ≤ p → p + n ≤ 800000 → ps.length + n ≤ 1000 → l.length ≤ 500 → (∀ x ∈ l, x.f0.size ≤ 7) →
    ∃ ps' l' p', spec_goodFlat.l0 k (n : Int) r p ps l = some (ps', l', p') ∧ p ≤ p' ∧ p' ≤ p + n + 10 ∧ ps'.length ≤ ps.length + n ∧ l'.length ≤ l.length + 3 ∧ ∀ x ∈ l', x.f0.size ≤ 7 := by
  intro n
  induction n with
  | zero =>
    intro k p ps l hk hp hp' hps hl hs
    obtain ⟨k, rfl⟩ : ∃ m, k = m + 1 := ⟨k - 1, by omega⟩
    simp only [spec_goodFlat.l0]
    rw [if_neg (by omega)]
    obtain ⟨v, e, hv⟩ := p_one h k (by omega) hp (by omega) ([1, 2, 0, 3, 0]) (by decide)
    rw [e, Option.bind_some]
    dsimp only
    obtain ⟨n, rfl, hn⟩ : ∃ n : Nat, v = (n : Int) ∧ n ≤ 3 := by
      simp only [List.mem_cons, List.not_mem_nil, or_false] at hv
      exact ⟨v.toNat, by omega, by omega⟩
    obtain ⟨l', p', e, h3, h4, h5, h6⟩ := goodFlat_l1 h ps n k (p + 1) l (by omega) (by omega) (by omega) (by omega) hs
    exact ⟨ps, l', p', e, by omega, by omega, by omega, by omega, h6⟩
  | succ n ih =>
    intro k p ps l hk hp hp' hps hl hs
    obtain ⟨k, rfl⟩ : ∃ m, k = m + 1 := ⟨k - 1, by omega⟩
    simp only [spec_goodFlat.l0]
    rw [if_pos (by omega)]
    obtain ⟨v, e, h2⟩ := p_aNumber h k (by omega) hp (by omega)
    rw [e, Option.bind_some]
    dsimp only
    rw [if_pos (by omega)]
    have w : wrap64 (((n + 1 : Nat) : Int) - 1) = (n : Int) := by rw [wrap_in (by omega) (by omega)]; omega
    rw [w]
    obtain ⟨ps', l', p', e, h3, h4, h5, h6⟩ := ih k (p + 1) (ps ++ [v]) l (by omega) (by omega) (by omega) (by simp; omega) hl hs
    simp at h5
    exact ⟨ps', l', p', e, by omega, by omega, by omega, h6⟩
theorem p_goodFlat {r : List Int} (h : Rdr r) (k : Nat) (hk : 5000000 ≤ k) {p : Int} (hp : 0 ≤ p) (hp' : p ≤ 700000) : ∃ ps l p', spec_goodFlat.f k r p = some (ps, l, p') ∧ p ≤ p' ∧ p' ≤ p + 30 ∧ ps.length ≤ 8 ∧ l.length ≤ 3 ∧ ∀ x ∈ l, x.f0.size ≤ 7 := by
  unfold spec_goodFlat.f
  obtain ⟨v, e, hv⟩ := p_one h k (by omega) hp (by omega) ([2, 1, 3, 0, 4, 8]) (by decide)
  rw [e, Option.bind_some]
  dsimp only
  obtain ⟨n, rfl, hn⟩ : ∃ n : Nat, v = (n : Int) ∧ n ≤ 8 := by
    simp only [List.mem_cons, List.not_mem_nil, or_false] at hv
    exact ⟨v.toNat, by omega, by omega⟩
  obtain ⟨ps, l, p', e, h3, h4, h5, h6, h7⟩ := goodFlat_l0 h n k (p + 1) [] [] (by omega) (by omega) (by omega) (by simp; omega) (by simp) (by simp)
  exact ⟨ps, l, p', e, by omega, by omega, by simpa using (show ps.length ≤ 8 by simp at h5; omega), by simpa using h6, h7⟩
end Go.Proofs.Ytfcpbgedgedalaa.Pure

namespace Go.Proofs.Ytfcpbgedgedalaa.Pure
open Go.RowKit Go.Proofs.Ytfcpbgedgedalaa.Q Go.Proofs.YtfcpbgedgedalaaL.PrintWords Go.Proofs.YtfcpbgedgedalaaL.PrintLast Go.Proofs.YtfcpbgedgedalaaL.PrintMore
set_option linter.unusedVariables false
set_option linter.unusedSimpArgs false
theorem goodHoles_l0 {r : List Int} (h : Rdr r) (ns : List PR) : ∀ (n k : Nat) (p : Int) (l : List PL), 4000000 + n < k → 0 ≤ p → p + 2 * n ≤ 800000 → l.length + n ≤ 1000 →
    ∃ l' p', spec_goodHoles.l0 k (n : Int) r p l ns = some (l', ns, p') ∧ p ≤ p' ∧ p' ≤ p + 2 * n ∧ l'.length ≤ l.length + n := by
  intro n
  induction n with
  | zero =>
    intro k p l hk hp hp' hl
    obtain ⟨k, rfl⟩ : ∃ m, k = m + 1 := ⟨k - 1, by omega⟩
    simp only [spec_goodHoles.l0]
    rw [if_neg (by omega)]
    exact ⟨l, p, rfl, by omega, by omega, by omega⟩
  | succ n ih =>
    intro k p l hk hp hp' hl
    obtain ⟨k, rfl⟩ : ∃ m, k = m + 1 := ⟨k - 1, by omega⟩
    simp only [spec_goodHoles.l0]
    have w : wrap64 (((n + 1 : Nat) : Int) - 1) = (n : Int) := by rw [wrap_in (by omega) (by omega)]; omega
    rw [if_pos (by omega), w]
    obtain ⟨v, e, _, _⟩ := p_pick h k (by omega) (p := p) hp (by omega) (n := 2) (by omega)
    rw [e, Option.bind_some]
    dsimp only
    split
    · rw [if_pos (by omega)]
      obtain ⟨l', p', e, h1, h2, h3⟩ := ih k (p + 1) (l ++ [(⟨true, 0⟩ : PL)]) (by omega) (by omega) (by omega) (by simp; omega)
      exact ⟨l', p', e, by omega, by omega, by simp at h3; omega⟩
    · obtain ⟨v, e, _⟩ := p_aNumber h k (by omega) (p := p + 1) (by omega) (by omega)
      rw [e, Option.bind_some]
      dsimp only
      rw [if_pos (by omega)]
      obtain ⟨l', p', e, h1, h2, h3⟩ := ih k (p + 1 + 1) (l ++ [(⟨false, v⟩ : PL)]) (by omega) (by omega) (by omega) (by simp; omega)
      exact ⟨l', p', e, by omega, by omega, by simp at h3; omega⟩
theorem p_goodHoles {r : List Int} (h : Rdr r) (k : Nat) (hk : 6000000 ≤ k) {p : Int} (hp : 0 ≤ p) (hp' : p ≤ 600000) : ∃ l ns p', spec_goodHoles.f k r p = some (l, ns, p') ∧ p ≤ p' ∧ p' ≤ p + 60 ∧ l.length ≤ 8 ∧ ns.length ≤ 3 ∧ ∀ x ∈ ns, x.f0.size ≤ 7 := by
  unfold spec_goodHoles.f
  obtain ⟨ps, ns, p1, e, h1, h2, h3, h4, h5⟩ := p_goodFlat h k (by omega) hp (by omega)
  rw [e, Option.bind_some]
  dsimp only
  obtain ⟨v, e, hv⟩ := p_one h k (by omega) (p := p1) (by omega) (by omega) ([3, 2, 4, 1, 0, 8]) (by decide)
  rw [e, Option.bind_some]
  dsimp only
  obtain ⟨n, rfl, hn⟩ : ∃ n : Nat, v = (n : Int) ∧ n ≤ 8 := by
    simp only [List.mem_cons, List.not_mem_nil, or_false] at hv
    exact ⟨v.toNat, by omega, by omega⟩
  obtain ⟨l, p', e, g1, g2, g3⟩ := goodHoles_l0 h ns n k (p1 + 1) [] (by omega) (by omega) (by omega) (by simp; omega)
  exact ⟨l, ns, p', e, by omega, by omega, by simp at g3; omega, h4, h5⟩
theorem p_someHoles {r : List Int} (h : Rdr r) (k : Nat) (hk : 6000000 ≤ k) {p : Int} (hp : 0 ≤ p) (hp' : p ≤ 500000) : ∃ l ns p', spec_someHoles.f k r p = some (l, ns, p') ∧ p ≤ p' ∧ p' ≤ p + 70 ∧ l.length ≤ 8 ∧ ns.length ≤ 4 ∧ ∀ x ∈ ns, x.f0.size ≤ 7 := by
  unfold spec_someHoles.f
  obtain ⟨l, ns, q, e, h1, h2, h3, h4, h5⟩ := p_goodHoles h k hk hp (by omega)
  rw [e, Option.bind_some]
  dsimp only
  split
  · obtain ⟨i, e, hi, hi'⟩ := p_pick h k (by omega) (p := q) (by omega) (by omega) (n := (l.length : Int)) (by omega)
    rw [e, Option.bind_some]
    dsimp only
    obtain ⟨v, e, _, _⟩ := p_pick h k (by omega) (p := q + 1) (by omega) (by omega) (n := 20) (by omega)
    rw [e, Option.bind_some]
    dsimp only
    rw [if_pos hi, if_pos hi']
    split
    · exact ⟨_, _, _, rfl, by omega, by omega, by rw [List.length_set]; exact h3, by omega, h5⟩
    · split
      · exact ⟨_, _, _, rfl, by omega, by omega, by rw [List.length_set]; exact h3, by omega, h5⟩
      · split
        · obtain ⟨s, e, hs⟩ := p_anyName h k (by omega) (p := q + 1 + 1) (by omega) (by omega)
          rw [e, Option.bind_some]
          dsimp only
          rw [if_pos (by omega)]
          refine ⟨_, _, _, rfl, by omega, by omega, h3, by simp; omega, fun x hx => ?_⟩
          simp only [List.mem_append, List.mem_singleton] at hx
          rcases hx with hx | rfl
          · exact h5 x hx
          · exact hs
        · exact ⟨_, _, _, rfl, by omega, by omega, h3, by omega, h5⟩
  · exact ⟨_, _, _, rfl, by omega, by omega, h3, by omega, h5⟩
end Go.Proofs.Ytfcpbgedgedalaa.Pure
