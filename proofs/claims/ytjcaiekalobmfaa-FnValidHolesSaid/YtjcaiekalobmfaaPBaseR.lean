import Derived.Test.YtjcaiekalobmfaaLMore
import Derived.Test.YtjcaiekalobmfaaPBase
import Derived.Test.YtjcaiekalobmfaaQ17
import Derived.Test.YtjcaiekalobmfaaQ18
import Derived.Test.YtjcaiekalobmfaaQ19
namespace Go.Proofs.Ytjcaiekalobmfaa.Pure
open Go.RowKit Go.Proofs.Ytjcaiekalobmfaa.Q Go.Proofs.YtjcaiekalobmfaaL.PrintWords Go.Proofs.YtjcaiekalobmfaaL.PrintLast Go.Proofs.YtjcaiekalobmfaaL.PrintMore
set_option linter.unusedVariables false
set_option linter.unusedSimpArgs false
/-! ### what is drawn -/
/-- A reader's row. -/
structure Rdr (l : List Int) : Prop where
  len : l.length ≤ 2000
  byte : ∀ x ∈ l, 0 ≤ x ∧ x ≤ 255
theorem Rdr.rd {l : List Int} (h : Rdr l) (i : Int) : 0 ≤ rd l i ∧ rd l i ≤ 255 := by
  unfold Go.Proofs.YtjcaiekalobmfaaL.PrintWords.rd
  rw [List.getD_eq_getElem?_getD]
  rcases hq : l[i.toNat]? with _ | x
  · simp
  · exact h.byte x (List.mem_of_getElem? hq)
theorem xor_nonneg {a b : Int} (ha : 0 ≤ a) (ha' : a < 1099511627776) (hb : 0 ≤ b) (hb' : b < 1099511627776) : 0 ≤ Go.bits .xor .i64 a b := by
  obtain ⟨a, rfl⟩ := Int.eq_ofNat_of_zero_le ha
  obtain ⟨b, rfl⟩ := Int.eq_ofNat_of_zero_le hb
  have h1 : a < 2 ^ 40 := by omega
  have h2 : b < 2 ^ 40 := by omega
  have h3 := Nat.xor_lt_two_pow h1 h2
  have e1 : a % 2 ^ IntKind.i64.bits = a := Nat.mod_eq_of_lt (by simp only [IntKind.bits]; omega)
  have e2 : b % 2 ^ IntKind.i64.bits = b := Nat.mod_eq_of_lt (by simp only [IntKind.bits]; omega)
  simp only [Go.bits, BitVec.ofInt_natCast, BitVec.toNat_xor, BitVec.toNat_ofNat, e1, e2]
  rw [IntKind.wrap_i64]
  omega
theorem tmod_in {a n : Int} (ha : 0 ≤ a) (hn : 0 < n) : 0 ≤ Int.tmod a n ∧ Int.tmod a n < n := ⟨Int.tmod_nonneg _ ha, Int.tmod_lt_of_pos _ hn⟩
theorem p_pick {l : List Int} (h : Rdr l) (k : Nat) (hk : 1 ≤ k) {p n : Int} (hp : 0 ≤ p) (hp' : p ≤ 1000000) (hn : 1 ≤ n) : ∃ v, spec_reader_pick.f k l p n = some (v, p + 1) ∧ 0 ≤ v ∧ v < n := by
  obtain ⟨k, rfl⟩ : ∃ m, k = m + 1 := ⟨k - 1, by omega⟩
  have w1 : wrap64 (p + 1) = p + 1 := wrap_in (by omega) (by omega)
  have w2 : wrap64 (p + 1 - 1) = p := by rw [wrap_in (by omega) (by omega)]; omega
  unfold spec_reader_pick.f
  rw [if_neg (by omega)]
  simp only [spec_reader_pick.j0]
  rw [w1]
  by_cases h0 : l.length = 0
  · rw [if_pos (by simp [h0])]
    exact ⟨0, rfl, by omega, by omega⟩
  · have hL : 0 < (l.length : Int) := by omega
    have hlen := h.len
    rw [if_neg (by simpa using h0)]
    simp only [w2]
    by_cases h1 : p < (l.length : Int)
    · rw [if_pos h1, if_pos hp, if_neg (by omega)]
      have hr := h.rd p
      rw [wrap_in (n := rd l p) (by omega) (by omega)]
      have := tmod_in hr.1 (show 0 < n by omega)
      exact ⟨_, rfl, this.1, this.2⟩
    · have t1 := tmod_in hp hL
      have e1 : wrap64 (p * 7) = p * 7 := wrap_in (by omega) (by omega)
      have e2 : wrap64 (p * 7 + 3) = p * 7 + 3 := wrap_in (by omega) (by omega)
      rw [e1, e2]
      have t2 := tmod_in (show 0 ≤ p * 7 + 3 by omega) hL
      rw [if_neg h1, if_neg (by omega), if_pos t1.1, if_pos t1.2, if_pos t2.1, if_pos t2.2, if_neg (by omega)]
      have r1 := h.rd (Int.tmod p (l.length : Int))
      have r2 := h.rd (Int.tmod (p * 7 + 3) (l.length : Int))
      generalize rd l (Int.tmod p (l.length : Int)) = x at r1 ⊢
      generalize rd l (Int.tmod (p * 7 + 3) (l.length : Int)) = y at r2 ⊢
      have d1 : 0 ≤ Int.tdiv p (l.length : Int) := Int.tdiv_nonneg hp (by omega)
      have d2 : Int.tdiv p (l.length : Int) ≤ p := Int.tdiv_le_self _ hp
      generalize Int.tdiv p (l.length : Int) = z at d1 d2 ⊢
      rw [wrap_in (n := x) (by omega) (by omega), wrap_in (n := y) (by omega) (by omega), wrap_in (n := z) (by omega) (by omega), wrap_in (n := x * 131) (by omega) (by omega), wrap_in (n := y * 1117) (by omega) (by omega), wrap_in (n := p * 29) (by omega) (by omega), wrap_in (n := z * 53) (by omega) (by omega), wrap_in (n := x * 131 + y * 1117) (by omega) (by omega), wrap_in (n := x * 131 + y * 1117 + p * 29) (by omega) (by omega), wrap_in (n := x * 131 + y * 1117 + p * 29 + z * 53) (by omega) (by omega)]
      have a0 : 0 ≤ x * 131 + y * 1117 + p * 29 + z * 53 := by omega
      have a1 : x * 131 + y * 1117 + p * 29 + z * 53 < 1099511627776 := by omega
      generalize x * 131 + y * 1117 + p * 29 + z * 53 = u at a0 a1 ⊢
      have b0 : 0 ≤ Int.tdiv u 64 := Int.tdiv_nonneg a0 (by omega)
      have b1 : Int.tdiv u 64 ≤ u := Int.tdiv_le_self _ a0
      rw [wrap_in (n := Int.tdiv u 64) (by omega) (by omega)]
      have := tmod_in (xor_nonneg a0 a1 b0 (by omega)) (show 0 < n by omega)
      exact ⟨_, rfl, this.1, this.2⟩
theorem rd_mem {l : List Int} {i : Int} (h0 : 0 ≤ i) (h1 : i < (l.length : Int)) : rd l i ∈ l := by
  unfold Go.Proofs.YtjcaiekalobmfaaL.PrintWords.rd
  rw [List.getD_eq_getElem?_getD, List.getElem?_eq_getElem (by omega)]
  exact List.getElem_mem _
theorem p_one {l : List Int} (h : Rdr l) (k : Nat) (hk : 1 ≤ k) {p : Int} (hp : 0 ≤ p) (hp' : p ≤ 1000000) (xs : List Int) (hx : 1 ≤ xs.length) : ∃ v, spec_reader_one.f k l p xs = some (v, p + 1) ∧ v ∈ xs := by
  unfold spec_reader_one.f
  obtain ⟨v, e, h0, h1⟩ := p_pick h k hk hp hp' (n := (xs.length : Int)) (by omega)
  rw [e, Option.bind_some]
  dsimp only
  rw [if_pos h0, if_pos h1]
  exact ⟨_, rfl, rd_mem h0 h1⟩
theorem p_of {l : List Int} (h : Rdr l) (k : Nat) (hk : 1 ≤ k) {p : Int} (hp : 0 ≤ p) (hp' : p ≤ 1000000) (xs : List ByteArray) (hx : 1 ≤ xs.length) : ∃ v, spec_reader_of.f k l p xs = some (v, p + 1) ∧ v ∈ xs := by
  unfold spec_reader_of.f
  obtain ⟨v, e, h0, h1⟩ := p_pick h k hk hp hp' (n := (xs.length : Int)) (by omega)
  rw [e, Option.bind_some]
  dsimp only
  rw [if_pos h0, if_pos h1]
  refine ⟨_, rfl, ?_⟩
  unfold rdOf
  rw [List.getD_eq_getElem?_getD, List.getElem?_eq_getElem (by omega)]
  exact List.getElem_mem _
theorem p_newReader (l : List Int) (hb : ∀ x ∈ l, (Lit.int .u8 x).wf = true) : ∃ m, spec_newReader.f l = some (m, 0) ∧ Rdr m := by
  have hb' : ∀ x ∈ l, 0 ≤ x ∧ x ≤ 255 := by
    intro x hx
    have := hb x hx
    simp [Lit.wf, IntKind.min, IntKind.max, IntKind.signed, IntKind.bits] at this
    omega
  unfold spec_newReader.f
  by_cases h : (l.length : Int) > 2000
  · rw [if_pos h, if_pos (by omega)]
    exact ⟨_, rfl, by rw [List.length_take]; omega, fun x hx => hb' x (List.mem_of_mem_take hx)⟩
  · rw [if_neg h]
    exact ⟨_, rfl, by omega, hb'⟩
end Go.Proofs.Ytjcaiekalobmfaa.Pure
