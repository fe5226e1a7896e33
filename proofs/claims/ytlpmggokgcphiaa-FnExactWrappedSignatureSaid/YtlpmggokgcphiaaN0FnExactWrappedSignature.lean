-- written by px.py and merge.py (programs of this claim's), over the kit's print. Not trusted: Lean checks it.
import Derived.Test.YtlpmggokgcphiaaLMore
import Derived.Test.YtlpmggokgcphiaaM3FnExactWrappedSignature
import Derived.Test.YtlpmggokgcphiaaM1FnExactWrappedSignature
import Derived.Test.YtlpmggokgcphiaaM4FnExactWrappedSignature
import Derived.Test.YtlpmggokgcphiaaM2FnExactWrappedSignature
import Derived.Test.YtlpmggokgcphiaaM0FnExactWrappedSignature
import Derived.Test.YtlpmggokgcphiaaM5FnExactWrappedSignature
namespace Go.Proofs.Ytlpmggokgcphiaa.Pure
open Go.RowKit Go.Proofs.Ytlpmggokgcphiaa.Q Go.Proofs.YtlpmggokgcphiaaL.PrintWords Go.Proofs.YtlpmggokgcphiaaL.PrintLast Go.Proofs.YtlpmggokgcphiaaL.PrintMore
set_option linter.unusedVariables false
set_option linter.unusedSimpArgs false

/-- A number of a call. -/
def val (v : Int) : Bool := decide (-99 ≤ v) && decide (v ≤ 99)
theorem p_inRange (a lo hi : Int) : spec_inRange.f a lo hi = some (decide (lo ≤ a) && decide (a ≤ hi)) := by
  unfold spec_inRange.f
  split <;> simp [*]
theorem p_in (a lo hi : Int) : impl_in.f a lo hi = some (decide (lo ≤ a) && decide (a ≤ hi)) := by
  unfold impl_in.f
  split
  · have : lo ≤ a := by omega
    simp [this]
  · have : ¬ lo ≤ a := by omega
    simp [this]
theorem p_isValue (v : Int) : impl_isValue.f v = some (val v) := by
  unfold impl_isValue.f val
  simp [p_in]
theorem p_validNumber (v : Int) : spec_validNumber.f v = some (val v) := by
  unfold spec_validNumber.f val
  simp [p_inRange]
theorem bt_eq (s t : ByteArray) : (s.toList == t.toList) = (s.data.toList == t.data.toList) := by
  rw [ByteArray.toList_eq, ByteArray.toList_eq]
theorem bt_eqv (s t : ByteArray) : s.toList = t.toList ↔ s = t := by
  rw [ByteArray.toList_eq, ByteArray.toList_eq]
  constructor
  · intro h
    cases s; cases t
    simp only at h
    exact congrArg _ (Array.toList_inj.1 h)
  · rintro rfl; rfl
/-- A loop that ends with false at the first place that is not good. -/
theorem loop_all (F : Nat → Int → Option Bool) (P : Nat → Bool) (T : Bool) (n B : Nat) (hn : n ≤ 9223372036854775807)
    (hstep : ∀ k i, B ≤ k → i < n → F (k + 1) (i : Int) = if P i = true then F k (wrap64 ((i : Int) + 1)) else some false) (hend : ∀ k, B ≤ k → F (k + 1) (n : Int) = some T) :
    ∀ d k i, i + d = n → B + d < k → F k (i : Int) = some ((List.range' i d).all P && T) := by
  intro d
  induction d with
  | zero =>
    intro k i h hk
    obtain ⟨k, rfl⟩ : ∃ m, k = m + 1 := ⟨k - 1, by omega⟩
    obtain rfl : i = n := by omega
    rw [hend k (by omega)]
    simp
  | succ d ih =>
    intro k i h hk
    obtain ⟨k, rfl⟩ : ∃ m, k = m + 1 := ⟨k - 1, by omega⟩
    rw [hstep k i (by omega) (by omega), wrap_succ (n := n) (by omega) hn, ih k (i + 1) (by omega) (by omega), List.range'_succ, List.all_cons]
    cases P i <;> simp
theorem loop_all0 (F : Nat → Int → Option Bool) (P : Nat → Bool) (T : Bool) (n B k : Nat) (hn : n ≤ 9223372036854775807)
    (hstep : ∀ k i, B ≤ k → i < n → F (k + 1) (i : Int) = if P i = true then F k (wrap64 ((i : Int) + 1)) else some false) (hend : ∀ k, B ≤ k → F (k + 1) (n : Int) = some T)
    (hk : B + n < k) : F k 0 = some ((List.range n).all P && T) := by
  have := loop_all F P T n B hn hstep hend n k 0 (by omega) hk
  rw [List.range_eq_range']
  exact this
theorem name_loop (s : ByteArray) : ((List.range s.size).all fun i => decide (97 ≤ bt s (i : Int)) && decide (bt s (i : Int) ≤ 122)) = s.data.toList.all (fun c => decide (97 ≤ c.toNat) && decide (c.toNat ≤ 122)) := by
  rw [Bool.eq_iff_iff, List.all_eq_true, List.all_eq_true]
  constructor
  · intro h c hc
    obtain ⟨i, hi, rfl⟩ := List.mem_iff_getElem.1 hc
    have hi' : i < s.size := by simpa using hi
    have := h i (List.mem_range.2 hi')
    rw [bt_nat s i hi'] at this
    simp only [Bool.and_eq_true, decide_eq_true_eq] at this ⊢
    have e : s.data.toList[i] = s[i] := rfl
    rw [e]
    omega
  · intro h i hi
    have hi' := List.mem_range.1 hi
    have := h s[i] (by
      have : s[i] = s.data.toList[i]'(by simpa using hi') := rfl
      rw [this]; exact List.getElem_mem _)
    rw [bt_nat s i hi']
    simp only [Bool.and_eq_true, decide_eq_true_eq] at this ⊢
    omega
theorem name_size (s : ByteArray) : (decide ((1 : Int) ≤ (s.size : Int)) && decide ((s.size : Int) ≤ 6)) = (decide (1 ≤ s.size) && decide (s.size ≤ 6)) := by
  rw [Bool.eq_iff_iff]
  simp only [Bool.and_eq_true, decide_eq_true_eq]
  omega
theorem p_validName (s : ByteArray) (hs : s.size ≤ 9223372036854775807) (k : Nat) (hk : s.size < k) : spec_validName.f k s = some (pxName s) := by
  unfold spec_validName.f pxName
  rw [← name_loop]
  refine loop_all0 (fun k i => spec_validName.l0 k s i) _ _ s.size 0 k hs (fun k i _ hi => ?_) (fun k _ => ?_) (by omega)
  · simp only [spec_validName.l0]
    rw [if_pos (by omega), if_pos (by omega)]
    by_cases h1 : bt s (i : Int) < 97
    · have : ¬ 97 ≤ bt s (i : Int) := by omega
      simp [h1, this]
    · have h1' : 97 ≤ bt s (i : Int) := by omega
      by_cases h2 : bt s (i : Int) > 122
      · have : ¬ bt s (i : Int) ≤ 122 := by omega
        simp [h1, h2, this]
      · have : bt s (i : Int) ≤ 122 := by omega
        simp [h1, h2, this, h1']
  · simp only [spec_validName.l0]
    rw [if_neg (by omega), p_inRange, Option.bind_some, name_size]
theorem p_isName (s : ByteArray) (hs : s.size ≤ 9223372036854775807) (k : Nat) (hk : s.size < k) : impl_isName.f k s = some (pxName s) := by
  unfold impl_isName.f pxName
  rw [← name_loop]
  refine loop_all0 (fun k i => impl_isName.l0 k s i) _ _ s.size 0 k hs (fun k i _ hi => ?_) (fun k _ => ?_) (by omega)
  · simp only [impl_isName.l0]
    rw [if_pos (by omega), if_pos (by omega)]
    by_cases h1 : bt s (i : Int) < 97
    · have : ¬ 97 ≤ bt s (i : Int) := by omega
      simp [h1, this]
    · have h1' : 97 ≤ bt s (i : Int) := by omega
      by_cases h2 : bt s (i : Int) > 122
      · have : ¬ bt s (i : Int) ≤ 122 := by omega
        simp [h1, h2, this]
      · have : bt s (i : Int) ≤ 122 := by omega
        simp [h1, h2, this, h1']
  · simp only [impl_isName.l0]
    rw [if_neg (by omega), p_in, Option.bind_some, name_size]

theorem wrap_in {n : Int} (h1 : -9223372036854775808 ≤ n) (h2 : n ≤ 9223372036854775807) : wrap64 n = n := by
  unfold wrap64
  omega
end Go.Proofs.Ytlpmggokgcphiaa.Pure

namespace Go.Proofs.Ytlpmggokgcphiaa.Pure
open Go.RowKit Go.Proofs.Ytlpmggokgcphiaa.Q Go.Proofs.YtlpmggokgcphiaaL.PrintWords Go.Proofs.YtlpmggokgcphiaaL.PrintLast Go.Proofs.YtlpmggokgcphiaaL.PrintMore
set_option linter.unusedVariables false
set_option linter.unusedSimpArgs false
theorem range_all {α : Type} (l : List α) (d : α) (p : α → Bool) : ((List.range l.length).all fun i => p (l.getD i d)) = l.all p := by
  rw [Bool.eq_iff_iff, List.all_eq_true, List.all_eq_true]
  constructor
  · intro h x hx
    obtain ⟨i, hi, rfl⟩ := List.mem_iff_getElem.1 hx
    have := h i (List.mem_range.2 hi)
    rwa [List.getD_eq_getElem?_getD, List.getElem?_eq_getElem hi] at this
  · intro h i hi
    have hi' := List.mem_range.1 hi
    rw [List.getD_eq_getElem?_getD, List.getElem?_eq_getElem hi']
    exact h _ (List.getElem_mem _)
theorem getD_mem {α : Type} (l : List α) (d : α) (i : Nat) (h : i < l.length) : l.getD i d ∈ l := by
  rw [List.getD_eq_getElem?_getD, List.getElem?_eq_getElem h]
  exact List.getElem_mem _
theorem rd_nat (l : List Int) (i : Nat) : rd l (i : Int) = l.getD i 0 := by
  unfold Go.Proofs.YtlpmggokgcphiaaL.PrintWords.rd
  rw [Int.toNat_natCast]
theorem rdOf_nat {α : Type} (d : α) (l : List α) (i : Nat) : rdOf d l (i : Int) = l.getD i d := by
  unfold rdOf
  rw [Int.toNat_natCast]
/-- A loop that looks for the first one. -/
theorem loop_find {α : Type} (F : Nat → Int → Option Int) (l : List α) (d : α) (p : α → Bool) (B : Nat) (hn : l.length ≤ 9223372036854775807)
    (hstep : ∀ k i, B ≤ k → i < l.length → F (k + 1) (i : Int) = if p (l.getD i d) = true then some (i : Int) else F k (wrap64 ((i : Int) + 1))) (hend : ∀ k, B ≤ k → F (k + 1) (l.length : Int) = some (-1)) :
    ∀ e k i, i + e = l.length → B + e < k → (∀ j, j < i → p (l.getD j d) = false) → F k (i : Int) = some (pxIdx p l) := by
  intro e
  induction e with
  | zero =>
    intro k i h hk hm
    obtain ⟨k, rfl⟩ : ∃ m, k = m + 1 := ⟨k - 1, by omega⟩
    obtain rfl : i = l.length := by omega
    rw [hend k (by omega), pxIdx_miss p l d hm]
  | succ e ih =>
    intro k i h hk hm
    obtain ⟨k, rfl⟩ : ∃ m, k = m + 1 := ⟨k - 1, by omega⟩
    rw [hstep k i (by omega) (by omega)]
    cases hq : p (l.getD i d) with
    | true => rw [if_pos rfl, pxIdx_hit p l d i (by omega) hq hm]
    | false =>
      rw [if_neg (by simp), wrap_succ (n := l.length) (by omega) hn]
      refine ih k (i + 1) (by omega) (by omega) (fun j hj => ?_)
      by_cases e : j = i
      · rw [e]; exact hq
      · exact hm j (by omega)
theorem loop_find0 {α : Type} (F : Nat → Int → Option Int) (l : List α) (d : α) (p : α → Bool) (B k : Nat) (hn : l.length ≤ 9223372036854775807)
    (hstep : ∀ k i, B ≤ k → i < l.length → F (k + 1) (i : Int) = if p (l.getD i d) = true then some (i : Int) else F k (wrap64 ((i : Int) + 1))) (hend : ∀ k, B ≤ k → F (k + 1) (l.length : Int) = some (-1))
    (hk : B + l.length < k) : F k 0 = some (pxIdx p l) :=
  loop_find F l d p B hn hstep hend l.length k 0 (by omega) hk (fun j hj => absurd hj (Nat.not_lt_zero _))
theorem pxIdx_range {α : Type} (p : α → Bool) (l : List α) : pxIdx p l = -1 ∨ ∃ i : Nat, i < l.length ∧ pxIdx p l = (i : Int) := by
  unfold pxIdx
  cases h : l.findIdx? p with
  | none => exact .inl rfl
  | some i =>
    rw [List.findIdx?_eq_some_iff_getElem] at h
    exact .inr ⟨i, h.1, rfl⟩
end Go.Proofs.Ytlpmggokgcphiaa.Pure

namespace Go.Proofs.Ytlpmggokgcphiaa.Pure
open Go.RowKit Go.Proofs.Ytlpmggokgcphiaa.Q Go.Proofs.YtlpmggokgcphiaaL.PrintWords Go.Proofs.YtlpmggokgcphiaaL.PrintLast Go.Proofs.YtlpmggokgcphiaaL.PrintMore
set_option linter.unusedVariables false
set_option linter.unusedSimpArgs false
/-- A loop that goes on to something else behind its end. -/
theorem loop_then {β : Type} (F : Nat → Int → Option β) (P : Nat → Bool) (G : Nat → Option β) (no : Option β) (n : Nat) (hn : n ≤ 9223372036854775807)
    (hstep : ∀ k i, i < n → F (k + 1) (i : Int) = if P i = true then F k (wrap64 ((i : Int) + 1)) else no) (hend : ∀ k, F (k + 1) (n : Int) = G k) :
    ∀ d k i, i + d = n → d < k → F k (i : Int) = if (List.range' i d).all P = true then G (k - 1 - d) else no := by
  intro d
  induction d with
  | zero =>
    intro k i h hk
    obtain ⟨k, rfl⟩ : ∃ m, k = m + 1 := ⟨k - 1, by omega⟩
    obtain rfl : i = n := by omega
    rw [hend k]
    simp
  | succ d ih =>
    intro k i h hk
    obtain ⟨k, rfl⟩ : ∃ m, k = m + 1 := ⟨k - 1, by omega⟩
    rw [hstep k i (by omega), wrap_succ (n := n) (by omega) hn, ih k (i + 1) (by omega) (by omega), List.range'_succ, List.all_cons]
    have e : k + 1 - 1 - (d + 1) = k - 1 - d := by omega
    rw [e]
    cases P i <;> simp only [Bool.true_and, Bool.false_and, if_true, Bool.false_eq_true, if_false]
theorem loop_then0 {β : Type} (F : Nat → Int → Option β) (P : Nat → Bool) (G : Nat → Option β) (no : Option β) (n k : Nat) (hn : n ≤ 9223372036854775807)
    (hstep : ∀ k i, i < n → F (k + 1) (i : Int) = if P i = true then F k (wrap64 ((i : Int) + 1)) else no) (hend : ∀ k, F (k + 1) (n : Int) = G k) (hk : n < k) :
    F k 0 = if (List.range n).all P = true then G (k - 1 - n) else no := by
  have := loop_then F P G no n hn hstep hend n k 0 (by omega) hk
  rw [List.range_eq_range']
  exact this
/-- A loop whose rounds take up to C steps. -/
theorem loop_wide (F : Nat → Int → Option Bool) (P : Nat → Bool) (T : Bool) (n B C : Nat) (hn : n ≤ 9223372036854775807)
    (hstep : ∀ k i, B + C ≤ k → i < n → (P i = true → ∃ k', k ≤ k' + C ∧ F k (i : Int) = F k' (wrap64 ((i : Int) + 1))) ∧ (P i = false → F k (i : Int) = some false)) (hend : ∀ k, B ≤ k → F k (n : Int) = some T) :
    ∀ d k i, i + d = n → B + d * C ≤ k → F k (i : Int) = some ((List.range' i d).all P && T) := by
  intro d
  induction d with
  | zero =>
    intro k i h hk
    obtain rfl : i = n := by omega
    rw [hend k (by omega)]
    simp
  | succ d ih =>
    intro k i h hk
    rw [Nat.succ_mul] at hk
    rw [List.range'_succ, List.all_cons]
    obtain ⟨h1, h2⟩ := hstep k i (by omega) (by omega)
    cases hq : P i with
    | true =>
      obtain ⟨k', hk', e⟩ := h1 hq
      rw [e, wrap_succ (n := n) (by omega) hn, ih k' (i + 1) (by omega) (by omega)]
      simp
    | false => rw [h2 hq]; simp
theorem loop_wide0 (F : Nat → Int → Option Bool) (P : Nat → Bool) (T : Bool) (n B C k : Nat) (hn : n ≤ 9223372036854775807)
    (hstep : ∀ k i, B + C ≤ k → i < n → (P i = true → ∃ k', k ≤ k' + C ∧ F k (i : Int) = F k' (wrap64 ((i : Int) + 1))) ∧ (P i = false → F k (i : Int) = some false)) (hend : ∀ k, B ≤ k → F k (n : Int) = some T)
    (hk : B + n * C ≤ k) : F k 0 = some ((List.range n).all P && T) := by
  have := loop_wide F P T n B C hn hstep hend n k 0 (by omega) hk
  rw [List.range_eq_range']
  exact this
end Go.Proofs.Ytlpmggokgcphiaa.Pure

namespace Go.Proofs.Ytlpmggokgcphiaa.Pure
open Go.RowKit Go.Proofs.Ytlpmggokgcphiaa.Q Go.Proofs.YtlpmggokgcphiaaL.PrintWords Go.Proofs.YtlpmggokgcphiaaL.PrintLast Go.Proofs.YtlpmggokgcphiaaL.PrintMore
set_option linter.unusedVariables false
set_option linter.unusedSimpArgs false
abbrev PA := S33
abbrev paz : PA := z33
theorem rdpa (l : List PA) (i : Nat) : rd_T33 l (i : Int) = l.getD i paz := by
  unfold rd_T33
  rw [Int.toNat_natCast]
def placed (x : PA) : Bool := x.f1 == 0 || x.f1 == 1
def named (x : PA) : Bool := x.f1 == 1 || x.f1 == 3
def single (x : PA) : Bool := placed x || x.f1 == 3
def paramOk (x : PA) : Bool := pxName x.f0 && ((decide (0 ≤ x.f1) && decide (x.f1 ≤ 4)) && (val x.f3 && ((x.f2 || x.f3 == 0) && (!x.f2 || single x))))
def ordOk (a x : PA) : Bool := !decide (x.f1 < a.f1) && ((!(x.f1 == a.f1) || single x) && (!placed x || !a.f2 || x.f2))
def freshPa (l : List PA) (i : Nat) : Bool := !((l.take i).any fun x => x.f0.toList == (l.getD i paz).f0.toList)
def sigAt (l : List PA) (i : Nat) : Bool := paramOk (l.getD i paz) && (freshPa l i && (i == 0 || ordOk (l.getD (i - 1) paz) (l.getD i paz)))
def vsig (l : List PA) : Bool := (List.range l.length).all (sigAt l) && decide (l.length ≤ 8)
theorem p_byPlace (a : ByteArray) (b : Int) (c : Bool) (d : Int) : spec_byPlace.f a b c d = some (placed ⟨a, b, c, d⟩) := by
  unfold spec_byPlace.f placed
  split <;> simp_all
theorem p_byName (a : ByteArray) (b : Int) (c : Bool) (d : Int) : spec_byName.f a b c d = some (named ⟨a, b, c, d⟩) := by
  unfold spec_byName.f named
  split <;> simp_all
theorem p_isSingle (a : ByteArray) (b : Int) (c : Bool) (d : Int) : spec_isSingle.f a b c d = some (single ⟨a, b, c, d⟩) := by
  unfold spec_isSingle.f
  rw [p_byPlace, Option.bind_some, p_byName, Option.bind_some]
  unfold single placed named
  by_cases h0 : b = 0
  · simp [h0]
  · by_cases h1 : b = 1
    · simp [h1]
    · have e0 : (b == 0) = false := by simpa using h0
      have e1 : (b == 1) = false := by simpa using h1
      simp [e0, e1]
theorem p_placed (a : ByteArray) (b : Int) (c : Bool) (d : Int) : impl_Param_placed.f a b c d = some (placed ⟨a, b, c, d⟩) := by
  unfold impl_Param_placed.f placed
  split <;> simp_all
theorem p_single (a : ByteArray) (b : Int) (c : Bool) (d : Int) : impl_Param_single.f a b c d = some (single ⟨a, b, c, d⟩) := by
  unfold impl_Param_single.f
  rw [p_placed, Option.bind_some]
  unfold single
  cases placed ⟨a, b, c, d⟩ <;> simp
theorem p_validParam (a : ByteArray) (b : Int) (c : Bool) (d : Int) (hs : a.size ≤ 2000000) (k : Nat) (hk : 3000000 ≤ k) : spec_validParam.f k a b c d = some (paramOk ⟨a, b, c, d⟩) := by
  unfold spec_validParam.f paramOk
  rw [p_validName a (by omega) k (by omega), Option.bind_some, p_inRange, Option.bind_some, p_validNumber, Option.bind_some, p_isSingle]
  cases pxName a <;> cases (decide (0 ≤ b) && decide (b ≤ 4)) <;> cases val d <;> cases c <;> cases single ⟨a, b, _, d⟩ <;> by_cases h : d = 0 <;> simp_all
theorem p_specFind (l : List PA) (s : ByteArray) (hl : l.length ≤ 2000000) (k : Nat) (hk : 3000000 ≤ k) : spec_findParam.f k l s = some (pxIdx (fun x : PA => x.f0.toList == s.toList) l) := by
  unfold spec_findParam.f
  refine loop_find0 (fun k i => spec_findParam.l0 k l s i) l paz _ 0 k (by omega) (fun k i _ hi => ?_) (fun k _ => ?_) (by omega)
  · simp only [spec_findParam.l0]
    rw [if_pos (by omega), if_pos (by omega), rdpa]
    simp only [beq_iff_eq]
  · simp only [spec_findParam.l0]
    rw [if_neg (by omega)]
theorem freshPa_idx (l : List PA) (i : Nat) : freshPa l i = !decide (pxIdx (fun x : PA => x.f0.toList == (l.getD i paz).f0.toList) (l.take i) ≥ 0) := by
  rw [pxIdx_any]; rfl
theorem prev_nat {i n : Nat} (h : 0 < i) (hn : i ≤ n) (hm : n ≤ 2000000) : wrap64 ((i : Int) - 1) = ((i - 1 : Nat) : Int) := by
  rw [wrap_in (by omega) (by omega)]; omega
theorem p_specSig (l : List PA) (hl : l.length ≤ 2000000) (hs : ∀ x ∈ l, x.f0.size ≤ 2000000) (k : Nat) (hk : 9000000 ≤ k) : spec_validParams.f k l = some (vsig l) := by
  unfold spec_validParams.f vsig
  refine loop_wide0 (fun k i => spec_validParams.l0 k l i) _ _ l.length 4000000 2 k (by omega) (fun k i hk hi => ?_) (fun k hk => ?_) (by omega)
  · obtain ⟨k, rfl⟩ : ∃ m, k = m + 2 := ⟨k - 2, by omega⟩
    have hsz := hs _ (getD_mem l paz i hi)
    simp only [spec_validParams.l0]
    rw [if_pos (by omega), if_pos (by omega), rdpa, p_validParam _ _ _ _ hsz (k + 1) (by omega), Option.bind_some, if_pos (show (i : Int) ≤ (l.length : Int) by omega), Int.toNat_natCast, p_specFind _ _ (by rw [List.length_take]; omega) (k + 1) (by omega), Option.bind_some]
    unfold sigAt
    rw [freshPa_idx]
    generalize pxIdx (fun x : PA => x.f0.toList == (l.getD i paz).f0.toList) (l.take i) = q
    have e : (⟨(l.getD i paz).f0, (l.getD i paz).f1, (l.getD i paz).f2, (l.getD i paz).f3⟩ : PA) = l.getD i paz := rfl
    rw [e]
    cases paramOk (l.getD i paz) with
    | false => simp [spec_validParams.j1]
    | true =>
      rw [if_pos rfl]
      simp only [spec_validParams.j1]
      by_cases hq : q ≥ 0
      · simp [hq]
      · simp only [hq, decide_false, Bool.false_eq_true, if_false]
        by_cases h0 : i = 0
        · subst h0
          simp
          exact ⟨k, by omega, rfl⟩
        · rw [if_neg (by omega), prev_nat (n := l.length) (by omega) (by omega) hl, if_pos (by omega), if_pos (by omega), rdpa, p_isSingle, Option.bind_some, p_byPlace, Option.bind_some, e]
          have hb : (i == 0) = false := by simpa using h0
          rw [hb]
          generalize l.getD (i - 1) paz = a
          generalize l.getD i paz = x
          unfold ordOk
          have key : k + 2 ≤ k + 2 := by omega
          by_cases h1 : x.f1 < a.f1
          · simp [h1]
          · by_cases h2 : x.f1 = a.f1
            · cases h3 : single x <;> cases h4 : placed x <;> cases h5 : a.f2 <;> cases h6 : x.f2 <;> simp [h1, h2, h3, h4, h5, h6] <;> exact ⟨k, by omega, rfl⟩
            · cases h4 : placed x <;> cases h5 : a.f2 <;> cases h6 : x.f2 <;> simp [h1, h2, h4, h5, h6] <;> exact ⟨k, by omega, rfl⟩
  · obtain ⟨k, rfl⟩ : ∃ m, k = m + 1 := ⟨k - 1, by omega⟩
    simp only [spec_validParams.l0]
    rw [if_neg (by omega)]
    congr 1
    rw [decide_eq_decide]
    omega
/-- Whether the last one placed had a default. -/
def lastP (l : List PA) : Bool := l.foldl (fun b x => if placed x then x.f2 else b) false
theorem lastP_succ (l : List PA) (i : Nat) (hi : i < l.length) : lastP (l.take (i + 1)) = if placed (l.getD i paz) then (l.getD i paz).f2 else lastP (l.take i) := by
  unfold lastP
  rw [List.take_succ_eq_append_getElem hi, List.foldl_append, List.getD_eq_getElem?_getD, List.getElem?_eq_getElem hi]
  rfl
theorem lastP_prev (l : List PA) (i : Nat) (h0 : 0 < i) (hi : i ≤ l.length) (hp : placed (l.getD (i - 1) paz) = true) : lastP (l.take i) = (l.getD (i - 1) paz).f2 := by
  obtain ⟨j, rfl⟩ : ∃ j, i = j + 1 := ⟨i - 1, by omega⟩
  rw [lastP_succ l j (by omega), Nat.add_sub_cancel] at *
  rw [if_pos hp]
theorem ordOk_lt {a x : PA} (h : x.f1 < a.f1) : ordOk a x = false := by
  unfold ordOk
  simp [h]
theorem ordOk_of {a x : PA} (hg : (!placed x || !a.f2 || x.f2) = true) : ordOk a x = (!decide (x.f1 < a.f1) && (!(x.f1 == a.f1) || single x)) := by
  unfold ordOk
  rw [hg, Bool.and_true]
theorem ord_lt {a x : PA} (h : x.f1 < a.f1) : (!decide (x.f1 < a.f1) && (!(x.f1 == a.f1) || single x)) = false := by simp [h]
theorem ord_eq {a x : PA} (h : x.f1 = a.f1) : (!decide (x.f1 < a.f1) && (!(x.f1 == a.f1) || single x)) = single x := by simp [h]
theorem ord_gt {a x : PA} (h : ¬ x.f1 < a.f1) (h2 : x.f1 ≠ a.f1) : (!decide (x.f1 < a.f1) && (!(x.f1 == a.f1) || single x)) = true := by simp [h, h2]
theorem p_implSig_l0 (l : List PA) (hl : l.length ≤ 2000000) (hs : ∀ x ∈ l, x.f0.size ≤ 2000000) : ∀ (d k i : Nat), i + d = l.length → (∀ j, j < i → sigAt l j = true) → 4000000 + 4 * d ≤ k →
    impl_ValidSignature.l0 k (lastP (l.take i)) l (l.length : Int) (i : Int) l = some ((List.range' i d).all (sigAt l) && decide (l.length ≤ 8)) := by
  intro d
  induction d with
  | zero =>
    intro k i h hok hk
    obtain ⟨k, rfl⟩ : ∃ m, k = m + 1 := ⟨k - 1, by omega⟩
    obtain rfl : i = l.length := by omega
    simp only [impl_ValidSignature.l0]
    rw [if_neg (by omega)]
    simp only [List.range'_zero, List.all_nil, Bool.true_and]
    congr 1
    rw [decide_eq_decide]
    omega
  | succ d ih =>
    intro k i h hok hk
    obtain ⟨k, rfl⟩ : ∃ m, k = m + 4 := ⟨k - 4, by omega⟩
    have hi : i < l.length := by omega
    have hsz := hs _ (getD_mem l paz i hi)
    have prevOk : 0 < i → sigAt l (i - 1) = true := fun h => hok (i - 1) (by omega)
    have lp := lastP_prev l i
    have ls := lastP_succ l i hi
    rw [List.range'_succ, List.all_cons]
    have next : sigAt l i = true → ∀ k', k ≤ k' → impl_ValidSignature.l0 k' (lastP (l.take (i + 1))) l (l.length : Int) (wrap64 ((i : Int) + 1)) l = some ((List.range' (i + 1) d).all (sigAt l) && decide (l.length ≤ 8)) := by
      intro hq k' hk'
      rw [wrap_succ (n := l.length) hi (by omega)]
      refine ih k' (i + 1) (by omega) (fun j hj => ?_) (by omega)
      by_cases e : j = i
      · rw [e]; exact hq
      · exact hok j (by omega)
    have e : (⟨(l.getD i paz).f0, (l.getD i paz).f1, (l.getD i paz).f2, (l.getD i paz).f3⟩ : PA) = l.getD i paz := rfl
    simp only [impl_ValidSignature.l0]
    rw [if_pos (by omega), if_pos (by omega), if_pos (by omega), rdpa, p_isName _ (by omega) (k + 3) (by omega), Option.bind_some, p_in, Option.bind_some, p_isValue, Option.bind_some, p_single, e, Option.bind_some]
    -- what stands behind the first test
    have J : ∀ b, b = !paramOk (l.getD i paz) → impl_ValidSignature.j1 (k + 3) (lastP (l.take i)) (i : Int) l (l.length : Int) (i : Int) b l (l.getD i paz).f0 (l.getD i paz).f1 (l.getD i paz).f2 (l.getD i paz).f3
        = some ((sigAt l i && (List.range' (i + 1) d).all (sigAt l)) && decide (l.length ≤ 8)) := by
      intro b hb
      subst hb
      simp only [impl_ValidSignature.j1]
      have hsig : sigAt l i = (paramOk (l.getD i paz) && (freshPa l i && (i == 0 || ordOk (l.getD (i - 1) paz) (l.getD i paz)))) := rfl
      cases hpo : paramOk (l.getD i paz) with
      | false =>
        rw [if_pos (show (!false) = true from rfl), hsig, hpo]
        simp
      | true =>
        rw [if_neg (by decide), p_placed, e, Option.bind_some]
        rw [hpo, Bool.true_and] at hsig
        rw [freshPa_idx] at hsig
        -- the end of a round
        have R : ∀ (x3 : Bool) (k' : Nat), k ≤ k' → x3 = lastP (l.take (i + 1)) → ((i == 0 || ordOk (l.getD (i - 1) paz) (l.getD i paz)) = true) →
            ((impl_find.f (l.take ((i : Int)).toNat) (l.getD i paz).f0).bind fun t => if t ≥ 0 then (some false) else (impl_ValidSignature.l0 k' x3 l (l.length : Int) (wrap64 ((i : Int) + 1)) l))
            = some ((sigAt l i && (List.range' (i + 1) d).all (sigAt l)) && decide (l.length ≤ 8)) := by
          intro x3 k' hk' hx hord
          unfold impl_find.f
          rw [Option.bind_some, Int.toNat_natCast]
          rw [hord] at hsig
          by_cases hq : pxIdx (fun x : PA => x.f0.toList == (l.getD i paz).f0.toList) (l.take i) ≥ 0
          · rw [if_pos hq, hsig]
            rw [decide_eq_true hq]
            simp
          · rw [if_neg hq]
            rw [decide_eq_false hq] at hsig
            have hs1 : sigAt l i = true := by rw [hsig]; rfl
            rw [hx, next hs1 k' hk', hs1]
            simp
        have N : (i == 0 || ordOk (l.getD (i - 1) paz) (l.getD i paz)) = false → some false = some ((sigAt l i && (List.range' (i + 1) d).all (sigAt l)) && decide (l.length ≤ 8)) := by
          intro hf
          rw [hsig, hf]
          simp
        -- the second test on, with the flag that is kept
        have J2 : ∀ x3 : Bool, x3 = lastP (l.take (i + 1)) → (placed (l.getD i paz) = true → lastP (l.take i) = true → (l.getD i paz).f2 = true) →
            impl_ValidSignature.j2 (k + 2) x3 (i : Int) l (l.length : Int) (i : Int) l (l.getD i paz).f0 (l.getD i paz).f1 (l.getD i paz).f2 (l.getD i paz).f3
            = some ((sigAt l i && (List.range' (i + 1) d).all (sigAt l)) && decide (l.length ≤ 8)) := by
          intro x3 hx hgood
          simp only [impl_ValidSignature.j2]
          by_cases h0 : i = 0
          · subst h0
            rw [if_neg (by omega), if_pos (by omega), if_pos (by omega)]
            exact R x3 (k + 1) (by omega) hx (by simp)
          · have hb : (i == 0) = false := by simpa using h0
            rw [if_pos (by omega), prev_nat (n := l.length) (by omega) (by omega) hl, if_pos (by omega), if_pos (by omega), rdpa, p_single, e, Option.bind_some]
            have pk := prevOk (by omega)
            have hprev : paramOk (l.getD (i - 1) paz) = true := by
              unfold sigAt at pk
              rw [Bool.and_eq_true] at pk
              exact pk.1
            have hrange : 0 ≤ (l.getD (i - 1) paz).f1 := by
              unfold paramOk at hprev
              simp only [Bool.and_eq_true, decide_eq_true_eq] at hprev
              exact hprev.2.1.1
            have lp' := lp (by omega) (by omega)
            have hord : ordOk (l.getD (i - 1) paz) (l.getD i paz) = (!decide ((l.getD i paz).f1 < (l.getD (i - 1) paz).f1) && (!((l.getD i paz).f1 == (l.getD (i - 1) paz).f1) || single (l.getD i paz))) := by
              by_cases hlt : (l.getD i paz).f1 < (l.getD (i - 1) paz).f1
              · rw [ordOk_lt hlt, ord_lt hlt]
              · have : (!placed (l.getD i paz) || !(l.getD (i - 1) paz).f2 || (l.getD i paz).f2) = true := by
                  cases hpl : placed (l.getD i paz) with
                  | false => rfl
                  | true =>
                    have hpp : placed (l.getD (i - 1) paz) = true := by
                      unfold placed at hpl ⊢
                      simp only [Bool.or_eq_true, beq_iff_eq] at hpl ⊢
                      omega
                    have := hgood hpl
                    rw [lp' hpp] at this
                    cases h5 : (l.getD (i - 1) paz).f2 with
                    | false => rfl
                    | true => rw [this h5]; rfl
                exact ordOk_of this
            rw [hb, Bool.false_or, hord] at N R
            by_cases h1 : (l.getD i paz).f1 < (l.getD (i - 1) paz).f1
            · rw [if_pos h1]
              simp only [impl_ValidSignature.j3, if_true]
              exact N (ord_lt h1)
            · rw [if_neg h1]
              by_cases h2 : (l.getD i paz).f1 = (l.getD (i - 1) paz).f1
              · rw [if_pos h2]
                simp only [impl_ValidSignature.j3]
                cases h3 : single (l.getD i paz) with
                | false =>
                  rw [if_pos (show (!false) = true from rfl)]
                  exact N (by rw [ord_eq h2, h3])
                | true =>
                  rw [if_neg (by decide), if_pos (by omega), if_pos (by omega)]
                  exact R x3 k (by omega) hx (by rw [ord_eq h2, h3])
              · rw [if_neg h2]
                simp only [impl_ValidSignature.j3]
                rw [if_neg (by decide), if_pos (by omega), if_pos (by omega)]
                exact R x3 k (by omega) hx (ord_gt h1 h2)
        cases hpl : placed (l.getD i paz) with
        | false =>
          rw [if_neg (by decide)]
          rw [hpl] at ls
          exact J2 _ (by rw [ls]; rfl) (by rw [hpl]; intro h; exact absurd h (by decide))
        | true =>
          rw [if_pos rfl]
          rw [hpl, if_pos rfl] at ls
          cases hx3 : lastP (l.take i) with
          | false =>
            rw [if_neg (by decide)]
            exact J2 _ ls.symm (by rw [hx3]; intro _ h; exact absurd h (by decide))
          | true =>
            rw [if_pos rfl]
            cases hf2 : (l.getD i paz).f2 with
            | false =>
              rw [if_neg (by decide)]
              refine N ?_
              -- the one before is placed, too, and has a default
              by_cases h0 : i = 0
              · subst h0
                exact absurd hx3 (by simp [lastP])
              · have hb : (i == 0) = false := by simpa using h0
                rw [hb, Bool.false_or]
                by_cases hlt : (l.getD i paz).f1 < (l.getD (i - 1) paz).f1
                · exact ordOk_lt hlt
                · have pk := prevOk (by omega)
                  have hprev : paramOk (l.getD (i - 1) paz) = true := by
                    unfold sigAt at pk
                    rw [Bool.and_eq_true] at pk
                    exact pk.1
                  have hrange : 0 ≤ (l.getD (i - 1) paz).f1 := by
                    unfold paramOk at hprev
                    simp only [Bool.and_eq_true, decide_eq_true_eq] at hprev
                    exact hprev.2.1.1
                  have hpp : placed (l.getD (i - 1) paz) = true := by
                    have hpl' := hpl
                    unfold placed at hpl' ⊢
                    simp only [Bool.or_eq_true, beq_iff_eq] at hpl' ⊢
                    omega
                  have lp' := lp (by omega) (by omega) hpp
                  rw [hx3] at lp'
                  unfold ordOk
                  rw [hpl, ← lp', hf2]
                  simp
            | true =>
              rw [if_pos rfl, ← hf2]
              exact J2 _ ls.symm (fun _ _ => hf2)
    unfold paramOk at J
    cases h1 : pxName (l.getD i paz).f0 with
    | false => rw [if_neg (by decide)]; exact J true (by rw [h1]; rfl)
    | true =>
      rw [if_pos rfl]
      cases h2 : (decide (0 ≤ (l.getD i paz).f1) && decide ((l.getD i paz).f1 ≤ 4)) with
      | false => rw [if_neg (by decide)]; exact J true (by rw [h1, h2]; rfl)
      | true =>
        rw [if_pos rfl]
        cases h3 : val (l.getD i paz).f3 with
        | false => rw [if_neg (by decide)]; exact J true (by rw [h1, h2, h3]; rfl)
        | true =>
          rw [if_pos rfl]
          by_cases h4 : (l.getD i paz).f2 = true
          · rw [if_pos h4, if_pos h4]
            exact J _ (by rw [h1, h2, h3, h4]; rfl)
          · rw [if_neg h4]
            have h4' : (l.getD i paz).f2 = false := Bool.eq_false_iff.2 h4
            by_cases h5 : (l.getD i paz).f3 = 0
            · rw [if_pos h5, if_neg h4]
              exact J false (by rw [h1, h2, h3, h4', h5]; rfl)
            · rw [if_neg h5]
              have h5' : ((l.getD i paz).f3 == 0) = false := by
                generalize (l.getD i paz).f3 = z at h5
                simpa using h5
              exact J true (by rw [h1, h2, h3, h4', h5']; rfl)
theorem p_implSig (l : List PA) (hl : l.length ≤ 2000000) (hs : ∀ x ∈ l, x.f0.size ≤ 2000000) (k : Nat) (hk : 14000000 ≤ k) : impl_ValidSignature.f k l = some (vsig l) := by
  unfold impl_ValidSignature.f vsig
  have := p_implSig_l0 l hl hs l.length k 0 (by omega) (fun j hj => absurd hj (Nat.not_lt_zero _)) (by omega)
  rw [List.range_eq_range']
  exact this
end Go.Proofs.Ytlpmggokgcphiaa.Pure

namespace Go.Proofs.Ytlpmggokgcphiaa.Pure
open Go.RowKit Go.Proofs.Ytlpmggokgcphiaa.Q Go.Proofs.YtlpmggokgcphiaaL.PrintWords Go.Proofs.YtlpmggokgcphiaaL.PrintLast Go.Proofs.YtlpmggokgcphiaaL.PrintMore
set_option linter.unusedVariables false
set_option linter.unusedSimpArgs false
def kAt (l : List PA) (c : Int) : Int := pxIdx (fun x : PA => x.f1 == c) l
theorem p_kindAt (l : List PA) (c : Int) (hl : l.length ≤ 2000000) (k : Nat) (hk : 3000000 ≤ k) : spec_kindAt.f k l c = some (kAt l c) := by
  unfold spec_kindAt.f kAt
  refine loop_find0 (fun k i => spec_kindAt.l0 k l c i) l paz _ 0 k (by omega) (fun k i _ hi => ?_) (fun k _ => ?_) (by omega)
  · simp only [spec_kindAt.l0]
    rw [if_pos (by omega), if_pos (by omega), rdpa]
    simp only [beq_iff_eq]
  · simp only [spec_kindAt.l0]
    rw [if_neg (by omega)]
theorem p_has (l : List PA) (c : Int) : impl_Signature_has.f l c = some (decide (kAt l c ≥ 0)) := by
  unfold impl_Signature_has.f kAt
  rw [pxIdx_any]
end Go.Proofs.Ytlpmggokgcphiaa.Pure

namespace Go.Proofs.Ytlpmggokgcphiaa.Pure
open Go.RowKit Go.Proofs.Ytlpmggokgcphiaa.Q Go.Proofs.YtlpmggokgcphiaaL.PrintWords Go.Proofs.YtlpmggokgcphiaaL.PrintLast Go.Proofs.YtlpmggokgcphiaaL.PrintMore
set_option linter.unusedVariables false
set_option linter.unusedSimpArgs false
theorem strOfNums_size (l : List Int) : (strOfNums l).size = l.length := by
  unfold strOfNums
  simp [ByteArray.size]
theorem markText_l0 : ∀ (d : Nat) (n : Int) (x : ByteArray), n < 10 ^ d → n ≤ 1000000000000 → x.size + d ≤ 1000 → ∃ s, ∀ k, d < k → laws_markText.l0 k n x = some s := by
  intro d
  induction d with
  | zero =>
    intro n x h hb hx
    refine ⟨(⟨#[109]⟩ : ByteArray) ++ x, fun k hk => ?_⟩
    obtain ⟨k, rfl⟩ : ∃ m, k = m + 1 := ⟨k - 1, by omega⟩
    simp only [laws_markText.l0]
    rw [if_neg (by omega), if_pos (by omega)]
  | succ d ih =>
    intro n x h hb hx
    by_cases h0 : n > 0
    · have hs : (strOfNums ([(wrap64 (48 + (Int.tmod n 10))) % 256] : List Int)).size = 1 := strOfNums_size _
      have hd : wrap64 (Int.tdiv n 10) = n / 10 := by
        rw [Int.tdiv_eq_ediv_of_nonneg (by omega), wrap_in (by omega) (by omega)]
      have hp : (10 : Int) ^ (d + 1) = 10 ^ d * 10 := Int.pow_succ _ _
      obtain ⟨s, hs'⟩ := ih (n / 10) (strOfNums ([(wrap64 (48 + (Int.tmod n 10))) % 256] : List Int) ++ x) (by omega) (by omega) (by rw [ByteArray.size_append, hs]; omega)
      refine ⟨s, fun k hk => ?_⟩
      obtain ⟨k, rfl⟩ : ∃ m, k = m + 1 := ⟨k - 1, by omega⟩
      simp only [laws_markText.l0]
      rw [if_pos h0, Option.bind_some, if_pos (by omega), hd]
      exact hs' k (by omega)
    · refine ⟨(⟨#[109]⟩ : ByteArray) ++ x, fun k hk => ?_⟩
      obtain ⟨k, rfl⟩ : ∃ m, k = m + 1 := ⟨k - 1, by omega⟩
      simp only [laws_markText.l0]
      rw [if_neg (by omega), if_pos (by omega)]
theorem markText_ex (n : Int) (hn : n ≤ 2000000000) : ∃ s, ∀ k, 30 ≤ k → laws_markText.f k n = some s := by
  by_cases h0 : n ≤ 0
  · refine ⟨(⟨#[109, 48]⟩ : ByteArray), fun k _ => ?_⟩
    unfold laws_markText.f
    rw [if_pos h0]
  · have h12 : n < (10 : Int) ^ 12 := by
      rw [show (10 : Int) ^ 12 = 1000000000000 by decide]
      omega
    obtain ⟨s, hs⟩ := markText_l0 12 n (⟨#[]⟩ : ByteArray) h12 (by omega) (by decide)
    refine ⟨s, fun k hk => ?_⟩
    unfold laws_markText.f
    rw [if_neg h0]
    exact hs k (by omega)
/-- The text of a mark. -/
def mtx (n : Int) : ByteArray := (laws_markText.f 30 n).getD ByteArray.empty
theorem p_markText (n : Int) (hn : n ≤ 2000000000) (k : Nat) (hk : 30 ≤ k) : laws_markText.f k n = some (mtx n) := by
  obtain ⟨s, hs⟩ := markText_ex n hn
  unfold mtx
  rw [hs k hk, hs 30 (by omega)]
  rfl
end Go.Proofs.Ytlpmggokgcphiaa.Pure

namespace Go.Proofs.Ytlpmggokgcphiaa.Pure
open Go.RowKit Go.Proofs.Ytlpmggokgcphiaa.Q Go.Proofs.YtlpmggokgcphiaaL.PrintWords Go.Proofs.YtlpmggokgcphiaaL.PrintLast Go.Proofs.YtlpmggokgcphiaaL.PrintMore
set_option linter.unusedVariables false
set_option linter.unusedSimpArgs false
/-- A loop that writes its list, place by place. -/
theorem loop_set {β : Type} (F : Nat → List β → Int → Option (List β)) (g : Nat → β) (n B : Nat) (hn : n ≤ 9223372036854775807)
    (hstep : ∀ k acc i, B ≤ k → i < n → acc.length = n → F (k + 1) acc (i : Int) = F k (acc.set i (g i)) (wrap64 ((i : Int) + 1))) (hend : ∀ k acc, B ≤ k → F (k + 1) acc (n : Int) = some acc) :
    ∀ d k i acc, i + d = n → B + d < k → acc.length = n → F k acc (i : Int) = some (acc.take i ++ (List.range' i d).map g) := by
  intro d
  induction d with
  | zero =>
    intro k i acc h hk ha
    obtain ⟨k, rfl⟩ : ∃ m, k = m + 1 := ⟨k - 1, by omega⟩
    obtain rfl : i = n := by omega
    rw [hend k acc (by omega), List.take_of_length_le (by omega)]
    simp
  | succ d ih =>
    intro k i acc h hk ha
    obtain ⟨k, rfl⟩ : ∃ m, k = m + 1 := ⟨k - 1, by omega⟩
    rw [hstep k acc i (by omega) (by omega) ha, wrap_succ (n := n) (by omega) hn, ih k (i + 1) _ (by omega) (by omega) (by rw [List.length_set]; exact ha), List.range'_succ, List.map_cons]
    rw [List.take_succ_eq_append_getElem (by rw [List.length_set]; omega), List.take_set_of_le (by omega)]
    simp
theorem loop_set0 {β : Type} (F : Nat → List β → Int → Option (List β)) (g : Nat → β) (n B k : Nat) (acc : List β) (hn : n ≤ 9223372036854775807)
    (hstep : ∀ k acc i, B ≤ k → i < n → acc.length = n → F (k + 1) acc (i : Int) = F k (acc.set i (g i)) (wrap64 ((i : Int) + 1))) (hend : ∀ k acc, B ≤ k → F (k + 1) acc (n : Int) = some acc)
    (hk : B + n < k) (ha : acc.length = n) : F k acc 0 = some ((List.range n).map g) := by
  have := loop_set F g n B hn hstep hend n k 0 acc (by omega) hk ha
  rw [List.range_eq_range']
  simpa using this
theorem range_map {α β : Type} (l : List α) (d : α) (g : α → β) : (List.range l.length).map (fun i => g (l.getD i d)) = l.map g := by
  apply List.ext_getElem
  · simp
  · intro i h1 h2
    simp only [List.getElem_map, List.getElem_range]
    have : i < l.length := by simpa using h2
    rw [List.getD_eq_getElem?_getD, List.getElem?_eq_getElem this]
    rfl
/-- A loop that counts down from a number, and ends early below 0. -/
theorem loop_sz {α : Type} (F : Nat → Int → Int → Option Int) (l : List α) (d : α) (P : α → Prop) (B : Nat) (hn : l.length ≤ 9223372036854775807)
    (hstep : ∀ k a i, B ≤ k → i < l.length → 0 ≤ a → a ≤ 1048576 → F (k + 1) a (i : Int) = some (-1) ∨ ∃ a', 0 ≤ a' ∧ a' ≤ a ∧ P (l.getD i d) ∧ F (k + 1) a (i : Int) = F k a' (wrap64 ((i : Int) + 1)))
    (hend : ∀ k a, B ≤ k → F (k + 1) a (l.length : Int) = some a) :
    ∀ e k i a, i + e = l.length → B + e < k → 0 ≤ a → a ≤ 1048576 → ∃ r, F k a (i : Int) = some r ∧ (r < 0 ∨ 0 ≤ r ∧ r ≤ a ∧ ∀ j, i ≤ j → j < l.length → P (l.getD j d)) := by
  intro e
  induction e with
  | zero =>
    intro k i a h hk h0 h1
    obtain ⟨k, rfl⟩ : ∃ m, k = m + 1 := ⟨k - 1, by omega⟩
    obtain rfl : i = l.length := by omega
    exact ⟨a, hend k a (by omega), .inr ⟨h0, Int.le_refl _, fun j h1 h2 => by omega⟩⟩
  | succ e ih =>
    intro k i a h hk h0 h1
    obtain ⟨k, rfl⟩ : ∃ m, k = m + 1 := ⟨k - 1, by omega⟩
    rcases hstep k a i (by omega) (by omega) h0 h1 with hf | ⟨a', g0, g1, hp, hf⟩
    · exact ⟨-1, hf, .inl (by omega)⟩
    · rw [hf, wrap_succ (n := l.length) (by omega) hn]
      obtain ⟨r, hr, hc⟩ := ih k (i + 1) a' (by omega) (by omega) g0 (by omega)
      refine ⟨r, hr, ?_⟩
      rcases hc with hc | ⟨c0, c1, c2⟩
      · exact .inl hc
      · refine .inr ⟨c0, by omega, fun j h1 h2 => ?_⟩
        by_cases e : j = i
        · rw [e]; exact hp
        · exact c2 j (by omega) h2
theorem loop_sz0 {α : Type} (F : Nat → Int → Int → Option Int) (l : List α) (d : α) (P : α → Prop) (B k : Nat) (a : Int) (hn : l.length ≤ 9223372036854775807)
    (hstep : ∀ k a i, B ≤ k → i < l.length → 0 ≤ a → a ≤ 1048576 → F (k + 1) a (i : Int) = some (-1) ∨ ∃ a', 0 ≤ a' ∧ a' ≤ a ∧ P (l.getD i d) ∧ F (k + 1) a (i : Int) = F k a' (wrap64 ((i : Int) + 1)))
    (hend : ∀ k a, B ≤ k → F (k + 1) a (l.length : Int) = some a) (hk : B + l.length < k) (h0 : 0 ≤ a) (h1 : a ≤ 1048576) :
    ∃ r, F k a 0 = some r ∧ (r < 0 ∨ 0 ≤ r ∧ r ≤ a ∧ ∀ x ∈ l, P x) := by
  obtain ⟨r, hr, hc⟩ := loop_sz F l d P B hn hstep hend l.length k 0 a (by omega) hk h0 h1
  refine ⟨r, hr, ?_⟩
  rcases hc with hc | ⟨c0, c1, c2⟩
  · exact .inl hc
  · refine .inr ⟨c0, c1, fun x hx => ?_⟩
    obtain ⟨j, hj, rfl⟩ := List.mem_iff_getElem.1 hx
    have := c2 j (by omega) hj
    rwa [List.getD_eq_getElem?_getD, List.getElem?_eq_getElem hj] at this
/-- A loop that marks. -/
theorem loop_mark {β : Type} (F : Nat → List β → Int → Int → Option (Int × List β)) (g : Int → β) (c n B : Nat) (m : Int) (hn : n ≤ 1048576) (hc : c ≤ 10) (h0 : 0 ≤ m) (h1 : m ≤ 100000000)
    (hstep : ∀ k acc x i, B ≤ k → i < n → acc.length = n → 0 ≤ x → x ≤ 1000000000 → F (k + 1) acc x (i : Int) = F k (acc.set i (g x)) (x + c) (wrap64 ((i : Int) + 1))) (hend : ∀ k acc x, B ≤ k → acc.length = n → F (k + 1) acc x (n : Int) = some (x, acc)) :
    ∀ d k i acc, i + d = n → B + d < k → acc.length = n → F k acc (m + (c * i : Nat)) (i : Int) = some (m + (c * n : Nat), acc.take i ++ (List.range' i d).map (fun j => g (m + (c * j : Nat)))) := by
  intro d
  induction d with
  | zero =>
    intro k i acc h hk ha
    obtain ⟨k, rfl⟩ : ∃ m, k = m + 1 := ⟨k - 1, by omega⟩
    obtain rfl : i = n := by omega
    rw [hend k acc _ (by omega) ha, List.take_of_length_le (by omega)]
    simp
  | succ d ih =>
    intro k i acc h hk ha
    obtain ⟨k, rfl⟩ : ∃ m, k = m + 1 := ⟨k - 1, by omega⟩
    have hci : c * i ≤ 10485760 := by
      have := Nat.mul_le_mul hc (show i ≤ 1048576 by omega)
      omega
    have e : m + (c * i : Nat) + (c : Int) = m + (c * (i + 1) : Nat) := by rw [Nat.mul_add, Nat.mul_one]; omega
    rw [hstep k acc _ i (by omega) (by omega) ha (by omega) (by omega), wrap_succ (n := n) (by omega) (by omega), e, ih k (i + 1) _ (by omega) (by omega) (by rw [List.length_set]; exact ha), List.range'_succ, List.map_cons]
    rw [List.take_succ_eq_append_getElem (by rw [List.length_set]; omega), List.take_set_of_le (by omega)]
    simp
def marked {β : Type} (g : Int → β) (c n : Nat) (m : Int) : List β := (List.range n).map (fun j => g (m + (c * j : Nat)))
theorem marked_length {β : Type} (g : Int → β) (c n : Nat) (m : Int) : (marked g c n m).length = n := by simp [marked]
theorem marked_at {β : Type} (g : Int → β) (c n : Nat) (m : Int) (d : β) (i : Nat) (h : i < n) : (marked g c n m).getD i d = g (m + (c * i : Nat)) := by
  unfold marked
  rw [List.getD_eq_getElem?_getD, List.getElem?_eq_getElem (by simpa using h)]
  simp
theorem loop_mark0 {β : Type} (F : Nat → List β → Int → Int → Option (Int × List β)) (g : Int → β) (c n B k : Nat) (m : Int) (acc : List β) (hn : n ≤ 1048576) (hc : c ≤ 10) (h0 : 0 ≤ m) (h1 : m ≤ 100000000)
    (hstep : ∀ k acc x i, B ≤ k → i < n → acc.length = n → 0 ≤ x → x ≤ 1000000000 → F (k + 1) acc x (i : Int) = F k (acc.set i (g x)) (x + c) (wrap64 ((i : Int) + 1))) (hend : ∀ k acc x, B ≤ k → acc.length = n → F (k + 1) acc x (n : Int) = some (x, acc))
    (hk : B + n < k) (ha : acc.length = n) : F k acc m 0 = some (m + (c * n : Nat), marked g c n m) := by
  have := loop_mark F g c n B m hn hc h0 h1 hstep hend n k 0 acc (by omega) hk ha
  unfold marked
  rw [List.range_eq_range']
  simpa using this
/-- A loop that looks whether marks are held. -/
theorem loop_held (F : Nat → Int → Int → Option Int) (c n B : Nat) (m : Int) (hn : n ≤ 1048576) (hc : c ≤ 10) (h0 : 0 ≤ m) (h1 : m ≤ 100000000)
    (hstep : ∀ k i, B ≤ k → i < n → 0 ≤ m + (c * i : Nat) → m + (c * i : Nat) ≤ 1000000000 → F (k + 1) (m + (c * i : Nat)) (i : Int) = F k (m + (c * i : Nat) + c) (wrap64 ((i : Int) + 1))) (hend : ∀ k x, B ≤ k → F (k + 1) x (n : Int) = some x) :
    ∀ d k i, i + d = n → B + d < k → F k (m + (c * i : Nat)) (i : Int) = some (m + (c * n : Nat)) := by
  intro d
  induction d with
  | zero =>
    intro k i h hk
    obtain ⟨k, rfl⟩ : ∃ m, k = m + 1 := ⟨k - 1, by omega⟩
    obtain rfl : i = n := by omega
    rw [hend k _ (by omega)]
  | succ d ih =>
    intro k i h hk
    obtain ⟨k, rfl⟩ : ∃ m, k = m + 1 := ⟨k - 1, by omega⟩
    have hci : c * i ≤ 10485760 := by
      have := Nat.mul_le_mul hc (show i ≤ 1048576 by omega)
      omega
    have e : m + (c * i : Nat) + (c : Int) = m + (c * (i + 1) : Nat) := by rw [Nat.mul_add, Nat.mul_one]; omega
    rw [hstep k i (by omega) (by omega) (by omega) (by omega), wrap_succ (n := n) (by omega) (by omega), e, ih k (i + 1) (by omega) (by omega)]
theorem loop_held0 (F : Nat → Int → Int → Option Int) (c n B k : Nat) (m : Int) (hn : n ≤ 1048576) (hc : c ≤ 10) (h0 : 0 ≤ m) (h1 : m ≤ 100000000)
    (hstep : ∀ k i, B ≤ k → i < n → 0 ≤ m + (c * i : Nat) → m + (c * i : Nat) ≤ 1000000000 → F (k + 1) (m + (c * i : Nat)) (i : Int) = F k (m + (c * i : Nat) + c) (wrap64 ((i : Int) + 1))) (hend : ∀ k x, B ≤ k → F (k + 1) x (n : Int) = some x)
    (hk : B + n < k) : F k m 0 = some (m + (c * n : Nat)) := by
  have := loop_held F c n B m hn hc h0 h1 hstep hend n k 0 (by omega) hk
  simpa using this
/-- A loop that compares a list with itself. -/
theorem loop_true0 (F : Nat → Int → Option Bool) (n B k : Nat) (hn : n ≤ 9223372036854775807)
    (hstep : ∀ k i, B ≤ k → i < n → F (k + 1) (i : Int) = F k (wrap64 ((i : Int) + 1))) (hend : ∀ k, B ≤ k → F (k + 1) (n : Int) = some true) (hk : B + n < k) : F k 0 = some true := by
  have := loop_all0 F (fun _ => true) true n B k hn (fun k i hk hi => by rw [hstep k i hk hi, if_pos rfl]) hend hk
  rw [this]
  simp
theorem getD_set {α : Type} (l : List α) (d : α) (i : Nat) (v : α) (h : i < l.length) : (l.set i v).getD i d = v := by
  rw [List.getD_eq_getElem?_getD, List.getElem?_set_self h]
  rfl
theorem sub_in {a : Int} {n : Nat} (h0 : 0 ≤ a) (h1 : a ≤ 1048576) (hn : n ≤ 9223372036854775807) : wrap64 (a - (n : Int)) = a - (n : Int) := wrap_in (by omega) (by omega)
end Go.Proofs.Ytlpmggokgcphiaa.Pure

namespace Go.Proofs.Ytlpmggokgcphiaa.Pure
open Go.RowKit Go.Proofs.Ytlpmggokgcphiaa.Q Go.Proofs.YtlpmggokgcphiaaL.PrintWords Go.Proofs.YtlpmggokgcphiaaL.PrintLast Go.Proofs.YtlpmggokgcphiaaL.PrintMore
set_option linter.unusedVariables false
set_option linter.unusedSimpArgs false
theorem rd_paramI (l : List S33) (i : Nat) : rd_T33 l (i : Int) = l.getD i z33 := by
  unfold rd_T33
  rw [Int.toNat_natCast]
theorem p_eqParamS (l : List S33) (hl : l.length ≤ 2000000) (k : Nat) (hk : 3000000 ≤ k) : laws_eqParamS.f k l l = some true := by
  unfold laws_eqParamS.f
  rw [if_pos rfl]
  refine loop_true0 (fun k i => laws_eqParamS.l0 k l l i) l.length 0 k (by omega) (fun k i _ hi => ?_) (fun k _ => ?_) (by omega)
  · simp only [laws_eqParamS.l0]
    rw [if_pos (by omega), if_pos (by omega), if_pos (by omega)]
    unfold laws_eqParam.f
    simp
  · simp only [laws_eqParamS.l0]
    rw [if_neg (by omega)]
end Go.Proofs.Ytlpmggokgcphiaa.Pure

namespace Go.Proofs.Ytlpmggokgcphiaa.Pure
open Go.RowKit Go.Proofs.Ytlpmggokgcphiaa.Q Go.Proofs.YtlpmggokgcphiaaL.PrintWords Go.Proofs.YtlpmggokgcphiaaL.PrintLast Go.Proofs.YtlpmggokgcphiaaL.PrintMore
set_option linter.unusedVariables false
set_option linter.unusedSimpArgs false
def gParam (x : Int) : S33 := ⟨mtx (x), x + 1, (Int.tmod (x + 2) 3) == 0, x + 3⟩
theorem p_markParamS (l : List S33) (hl : l.length ≤ 1048576) (k : Nat) (hk : 3000000 ≤ k) (m : Int) (m0 : 0 ≤ m) (m1 : m ≤ 100000000) : laws_markParamS.f k l m = some (m + (4 * l.length : Nat), marked gParam 4 l.length m) := by
  unfold laws_markParamS.f
  refine loop_mark0 (fun k acc x i => laws_markParamS.l0 k acc x i) gParam 4 l.length 100 k m l hl (by omega) m0 m1 (fun k acc x i hk hi ha g0 g1 => ?_) (fun k acc x _ ha => ?_) (by omega) rfl
  · have e1 : wrap64 (x + 1) = x + 1 := by rw [wrap_in (by omega) (by omega)]
    have e2 : wrap64 (x + 1 + 1) = x + 2 := by rw [wrap_in (by omega) (by omega)]; omega
    have e3 : wrap64 (x + 2 + 1) = x + 3 := by rw [wrap_in (by omega) (by omega)]; omega
    have e4 : wrap64 (x + 3 + 1) = x + 4 := by rw [wrap_in (by omega) (by omega)]; omega
    have hset : ∀ (l : List S33) (v w : S33), (l.set i v).set i w = l.set i w := fun l v w => List.set_set ..
    have hget : ∀ v : S33, (acc.set i v).getD i z33 = v := fun v => getD_set _ _ _ _ (by omega)
    simp only [laws_markParamS.l0]
    rw [if_pos (by omega), p_markText x (by omega) k (by omega), Option.bind_some, if_pos (by omega)]
    simp only [Option.bind_some, Int.toNat_natCast, rd_paramI, hget, hset, e1, e2, e3, e4]
    rfl
  · simp only [laws_markParamS.l0]
    rw [if_neg (by omega)]
end Go.Proofs.Ytlpmggokgcphiaa.Pure

namespace Go.Proofs.Ytlpmggokgcphiaa.Pure
open Go.RowKit Go.Proofs.Ytlpmggokgcphiaa.Q Go.Proofs.YtlpmggokgcphiaaL.PrintWords Go.Proofs.YtlpmggokgcphiaaL.PrintLast Go.Proofs.YtlpmggokgcphiaaL.PrintMore
set_option linter.unusedVariables false
set_option linter.unusedSimpArgs false
theorem p_heldParamS (n : Nat) (hl : n ≤ 1048576) (k : Nat) (hk : 3000000 ≤ k) (m : Int) (m0 : 0 ≤ m) (m1 : m ≤ 100000000) : laws_heldParamS.f k (marked gParam 4 n m) m = some (m + (4 * n : Nat)) := by
  unfold laws_heldParamS.f
  refine loop_held0 (fun k x i => laws_heldParamS.l0 k (marked gParam 4 n m) x i) 4 n 100 k m hl (by omega) m0 m1 (fun k i hk hi g0 g1 => ?_) (fun k x _ => ?_) (by omega)
  · generalize hx : m + ((4 * i : Nat) : Int) = x at g0 g1 ⊢
    have e1 : wrap64 (x + 1) = x + 1 := by rw [wrap_in (by omega) (by omega)]
    have e2 : wrap64 (x + 1 + 1) = x + 2 := by rw [wrap_in (by omega) (by omega)]; omega
    have e3 : wrap64 (x + 2 + 1) = x + 3 := by rw [wrap_in (by omega) (by omega)]; omega
    have e4 : wrap64 (x + 3 + 1) = x + 4 := by rw [wrap_in (by omega) (by omega)]; omega
    simp only [laws_heldParamS.l0]
    rw [if_pos (by rw [marked_length]; omega), if_pos (by omega)]
    simp only [rd_paramI, marked_at _ _ _ _ _ _ hi, hx, e1, e2, e3, e4]
    rw [p_markText (x) (by omega) k (by omega), Option.bind_some]
    simp [gParam]
  · simp only [laws_heldParamS.l0]
    rw [if_neg (by rw [marked_length]; omega)]
end Go.Proofs.Ytlpmggokgcphiaa.Pure

namespace Go.Proofs.Ytlpmggokgcphiaa.Pure
open Go.RowKit Go.Proofs.Ytlpmggokgcphiaa.Q Go.Proofs.YtlpmggokgcphiaaL.PrintWords Go.Proofs.YtlpmggokgcphiaaL.PrintLast Go.Proofs.YtlpmggokgcphiaaL.PrintMore
set_option linter.unusedVariables false
set_option linter.unusedSimpArgs false
def cParam (x : S55) : S33 := ⟨x.f0, x.f1, x.f2, x.f3⟩
theorem rd_paramL (l : List S55) (i : Nat) : rd_T55 l (i : Int) = l.getD i z55 := by
  unfold rd_T55
  rw [Int.toNat_natCast]
theorem p_szParamS (l : List S55) (hl : l.length ≤ maxLen) (hs : ∀ x ∈ l, x.f0.size ≤ maxLen) (k : Nat) (hk : 3000000 ≤ k) (a : Int) (h0 : 0 ≤ a) (h1 : a ≤ 1048576) :
    ∃ r, laws_szParamS.f k l a = some r ∧ (r < 0 ∨ 0 ≤ r ∧ r ≤ a ∧ l.length ≤ 1048576 ∧ ∀ x ∈ l, x.f0.size ≤ 1048576) := by
  unfold maxLen at hl hs
  unfold laws_szParamS.f
  rw [sub_in h0 h1 hl]
  split
  · exact ⟨-1, rfl, .inl (by omega)⟩
  · have hh := loop_sz0 (fun k a i => laws_szParamS.l0 k l a i) l z55 (fun x => x.f0.size ≤ 1048576) 0 k (a - l.length) hl (fun k a i _ hi g0 g1 => ?_) (fun k a _ => ?_) (by omega) (by omega) (by omega)
    · obtain ⟨r, hr, hc⟩ := hh
      refine ⟨r, hr, ?_⟩
      rcases hc with hc | ⟨c0, c1, c2⟩
      · exact .inl hc
      · exact .inr ⟨c0, by omega, by omega, c2⟩
    · have hm := hs _ (getD_mem l z55 i hi)
      simp only [laws_szParamS.l0]
      rw [if_pos (by omega), if_pos (by omega), rd_paramL]
      generalize l.getD i z55 = x at hm ⊢
      have s0 := hm
      unfold laws_szParam.f
      rw [sub_in g0 g1 s0]
      by_cases q0 : a - (x.f0.size : Int) < 0
      · rw [if_pos q0]
        exact .inl rfl
      · skip
        rw [if_neg q0, Option.bind_some, if_neg q0]
        exact .inr ⟨_, by omega, by omega, by omega, rfl⟩
    · simp only [laws_szParamS.l0]
      rw [if_neg (by omega)]
theorem p_toParamS (l : List S55) (hl : l.length ≤ 2000000) (k : Nat) (hk : 3000000 ≤ k) : laws_toParamS.f k l = some (l.map cParam) := by
  unfold laws_toParamS.f
  rw [if_pos (by omega), if_pos (by omega)]
  have h := loop_set0 (fun k acc i => laws_toParamS.l0 k l acc i) (fun i => cParam (l.getD i z55)) l.length 0 k (List.replicate ((l.length : Int)).toNat z33) (by omega) (fun k acc i _ hi ha => ?_) (fun k acc _ => ?_) (by omega) (by simp)
  · rw [h, range_map]
  · simp only [laws_toParamS.l0]
    rw [if_pos (by omega), if_pos (by omega), rd_paramL]
    unfold laws_toParam.f
    rw [Option.bind_some, if_pos (by omega), Int.toNat_natCast]
    rfl
  · simp only [laws_toParamS.l0]
    rw [if_neg (by omega)]
end Go.Proofs.Ytlpmggokgcphiaa.Pure

namespace Go.Proofs.Ytlpmggokgcphiaa.Pure
open Go.RowKit Go.Proofs.Ytlpmggokgcphiaa.Q Go.Proofs.YtlpmggokgcphiaaL.PrintWords Go.Proofs.YtlpmggokgcphiaaL.PrintLast Go.Proofs.YtlpmggokgcphiaaL.PrintMore
set_option linter.unusedVariables false
set_option linter.unusedSimpArgs false
theorem p_markSig (l : List S33) (hl : l.length ≤ 1048576) (k : Nat) (hk : 3000000 ≤ k) : laws_markSignature.f k l 1 = some ((1 : Int) + (4 * l.length : Nat), marked gParam 4 l.length 1) := by
  unfold laws_markSignature.f
  rw [p_markParamS l hl k hk 1 (by omega) (by omega), Option.bind_some]
end Go.Proofs.Ytlpmggokgcphiaa.Pure

namespace Go.Proofs.Ytlpmggokgcphiaa.Pure
open Go.RowKit Go.Proofs.Ytlpmggokgcphiaa.Q Go.Proofs.YtlpmggokgcphiaaL.PrintWords Go.Proofs.YtlpmggokgcphiaaL.PrintLast Go.Proofs.YtlpmggokgcphiaaL.PrintMore
set_option linter.unusedVariables false
set_option linter.unusedSimpArgs false
theorem p_heldSig (n : Nat) (hl : n ≤ 1048576) (k : Nat) (hk : 3000000 ≤ k) : laws_heldSignature.f k (marked gParam 4 n 1) 1 = some ((1 : Int) + (4 * n : Nat)) := by
  unfold laws_heldSignature.f
  rw [p_heldParamS n hl k hk 1 (by omega) (by omega), Option.bind_some, if_neg (by omega)]
end Go.Proofs.Ytlpmggokgcphiaa.Pure

namespace Go.Proofs.Ytlpmggokgcphiaa.Pure
open Go.RowKit Go.Proofs.Ytlpmggokgcphiaa.Q Go.Proofs.YtlpmggokgcphiaaL.PrintWords Go.Proofs.YtlpmggokgcphiaaL.PrintLast Go.Proofs.YtlpmggokgcphiaaL.PrintMore
set_option linter.unusedVariables false
set_option linter.unusedSimpArgs false
def outP (l : List PA) : List PA × Bool := if vsig l = true then (l, true) else ([], false)
theorem p_checked (l : List PA) (hl : l.length ≤ 2000000) (hs : ∀ x ∈ l, x.f0.size ≤ 2000000) (k : Nat) (hk : 9000000 ≤ k) : spec_checkedSignature.f k l = some (outP l) := by
  unfold spec_checkedSignature.f outP
  rw [p_specSig l hl hs k hk, Option.bind_some]
  split <;> rfl
theorem outP_len (l : List PA) : (outP l).1.length ≤ 8 := by
  unfold outP
  split
  · rename_i h
    unfold vsig at h
    simp only [Bool.and_eq_true, decide_eq_true_eq] at h
    exact h.2
  · simp
end Go.Proofs.Ytlpmggokgcphiaa.Pure

namespace Go.Proofs.Ytlpmggokgcphiaa.Pure
open Go.RowKit Go.Proofs.Ytlpmggokgcphiaa.Q Go.Proofs.YtlpmggokgcphiaaL.PrintWords Go.Proofs.YtlpmggokgcphiaaL.PrintLast Go.Proofs.YtlpmggokgcphiaaL.PrintMore
set_option linter.unusedVariables false
set_option linter.unusedSimpArgs false
theorem vsig_len {l : List PA} (h : vsig l = true) : l.length ≤ 8 := by
  unfold vsig at h
  simp only [Bool.and_eq_true, decide_eq_true_eq] at h
  exact h.2
def wrapperP (l : List PA) : Bool := vsig l && (decide (kAt l 2 ≥ 0) && decide (kAt l 4 ≥ 0))
theorem p_implWrapper (ps : List PA) (hl : ps.length ≤ 2000000) (hs : ∀ x ∈ ps, x.f0.size ≤ 2000000) (k : Nat) (hk : 14000000 ≤ k) : impl_IsWrapper.f k ps = some (wrapperP ps) := by
  unfold impl_IsWrapper.f wrapperP
  rw [p_implSig ps hl hs k (by omega), p_has, p_has]
  simp only [Option.bind_some]
  cases vsig ps <;> by_cases h : kAt ps 2 ≥ 0 <;> simp [h]
theorem p_specWrapper (ps : List PA) (hl : ps.length ≤ 2000000) (hs : ∀ x ∈ ps, x.f0.size ≤ 2000000) (k : Nat) (hk : 14000000 ≤ k) : spec_isWrapper.f k ps = some (wrapperP ps) := by
  unfold spec_isWrapper.f spec_validSignature.f wrapperP
  rw [p_specSig ps hl hs k (by omega), p_kindAt ps 2 hl k (by omega), p_kindAt ps 4 hl k (by omega)]
  simp only [Option.bind_some]
  cases vsig ps <;> by_cases h : kAt ps 2 ≥ 0 <;> simp [h]
theorem p_ofKinds (l : List PA) (a b : Int) (hl : l.length ≤ 2000000) (k : Nat) (hk : 3000000 ≤ k) : spec_ofKinds.f k l a b = some (l.filter fun x => x.f1 == a || x.f1 == b) := by
  have key : ∀ (d k i : Nat) (acc : List PA), i + d = l.length → acc.length ≤ i → d < k → spec_ofKinds.l0 k a b acc (i : Int) l = some (acc ++ (l.drop i).filter fun x => x.f1 == a || x.f1 == b) := by
    intro d
    induction d with
    | zero =>
      intro k i acc h ha hk
      obtain ⟨k, rfl⟩ : ∃ m, k = m + 1 := ⟨k - 1, by omega⟩
      simp only [spec_ofKinds.l0]
      rw [if_neg (by omega), List.drop_of_length_le (by omega)]
      simp
    | succ d ih =>
      intro k i acc h ha hk
      obtain ⟨k, rfl⟩ : ∃ m, k = m + 1 := ⟨k - 1, by omega⟩
      simp only [spec_ofKinds.l0]
      have e : (⟨(l.getD i paz).f0, (l.getD i paz).f1, (l.getD i paz).f2, (l.getD i paz).f3⟩ : PA) = l.getD i paz := rfl
      rw [if_pos (by omega), if_pos (by omega), rdpa, wrap_succ (n := l.length) (by omega) (by omega), if_pos (show acc.length < 3518437208883 by omega), e, ih k (i + 1) acc (by omega) (by omega) (by omega), ih k (i + 1) (acc ++ [l.getD i paz]) (by omega) (by simp; omega) (by omega), drop_getD l paz i (by omega), List.filter_cons]
      clear e
      generalize l.getD i paz = y
      by_cases h1 : y.f1 = a
      · rw [if_pos h1, if_pos (by simp [h1])]
        simp
      · rw [if_neg h1]
        by_cases h2 : y.f1 = b
        · rw [if_pos h2, if_pos (by simp [h2])]
          simp
        · rw [if_neg h2, if_neg (by simp [h1, h2])]
  have := key l.length k 0 [] (by omega) (by simp) (by omega)
  unfold spec_ofKinds.f
  simpa using this
def wrapP (a b : List PA) : List PA × Bool := if wrapperP a = true then (if vsig b = true then outP (wrOut a b) else ([], false)) else ([], false)
theorem wrapP_len (a b : List PA) : (wrapP a b).1.length ≤ 8 := by
  unfold wrapP
  split
  · split
    · exact outP_len _
    · simp
  · simp
theorem wrOut_len (a b : List PA) : (wrOut a b).length ≤ 2 * a.length + 4 * b.length := by
  unfold wrOut
  simp only [List.length_append, List.length_nil]
  have h0 := List.length_filter_le wrP a
  have h1 := List.length_filter_le wrP b
  have h2 := List.length_filter_le (wrK 2) b
  have h3 := List.length_filter_le (wrK 3) a
  have h4 := List.length_filter_le (wrK 3) b
  have h5 := List.length_filter_le (wrK 4) b
  omega
theorem wrOut_mem {a b : List PA} {x : PA} (h : x ∈ wrOut a b) : x ∈ a ∨ x ∈ b := by
  unfold wrOut at h
  simp only [List.mem_append, List.mem_filter, List.not_mem_nil, false_or] at h
  rcases h with ((((h | h) | h) | h) | h) | h
  · exact .inl h.1
  · exact .inr h.1
  · exact .inr h.1
  · exact .inl h.1
  · exact .inr h.1
  · exact .inr h.1
theorem p_implWrap (a b : List PA) (ha : a.length ≤ 2000000) (hb : b.length ≤ 2000000) (hsa : ∀ x ∈ a, x.f0.size ≤ 2000000) (hsb : ∀ x ∈ b, x.f0.size ≤ 2000000) (k : Nat) (hk : 14000000 ≤ k) : impl_WrappedSignature.f k a b = some (wrapP a b) := by
  unfold impl_WrappedSignature.f wrapP
  rw [p_implWrapper a ha hsa k hk, Option.bind_some]
  split
  · rename_i hw
    rw [p_implSig b hb hsb k hk, Option.bind_some]
    split
    · rename_i hv
      have h1 := vsig_len hv
      have h2 : vsig a = true := by
        unfold wrapperP at hw
        simp only [Bool.and_eq_true] at hw
        exact hw.1
      have h3 := vsig_len h2
      have h4 := wrOut_len a b
      rw [if_pos (by omega), p_implSig (wrOut a b) (by omega) (fun x hx => (wrOut_mem hx).elim (hsa x) (hsb x)) k hk, Option.bind_some]
      unfold outP
      split
      · unfold impl_Signature_copyOf.f impl_Param_113.f
        rw [if_pos (by omega)]
        rfl
      · rfl
    · rfl
  · rfl
theorem p_specWrap (a b : List PA) (ha : a.length ≤ 2000000) (hb : b.length ≤ 2000000) (hsa : ∀ x ∈ a, x.f0.size ≤ 2000000) (hsb : ∀ x ∈ b, x.f0.size ≤ 2000000) (k : Nat) (hk : 14000001 ≤ k) : spec_WrappedSignature.f k a b = some (wrapP a b) := by
  obtain ⟨k, rfl⟩ : ∃ m, k = m + 1 := ⟨k - 1, by omega⟩
  unfold spec_WrappedSignature.f wrapP spec_validSignature.f
  rw [p_specWrapper a ha hsa (k + 1) (by omega), Option.bind_some]
  split
  · rename_i hw
    rw [p_specSig b hb hsb (k + 1) (by omega), Option.bind_some, Option.bind_some]
    simp only [spec_WrappedSignature.j0]
    cases hv : vsig b with
    | false => rfl
    | true =>
      have h1 := vsig_len hv
      have h2 : vsig a = true := by
        unfold wrapperP at hw
        simp only [Bool.and_eq_true] at hw
        exact hw.1
      have h3 := vsig_len h2
      have h4 := wrOut_len a b
      have e0 : ∀ l : List PA, (l.filter fun x => x.f1 == 0 || x.f1 == 1) = l.filter wrP := fun l => rfl
      have e1 : ∀ (l : List PA) (c : Int), (l.filter fun x => x.f1 == c || x.f1 == c) = l.filter (wrK c) := fun l c => by
        congr 1
        funext x
        unfold wrK
        rw [Bool.or_self]
      rw [p_ofKinds a 0 1 (by omega) k (by omega), p_ofKinds b 0 1 (by omega) k (by omega), p_ofKinds b 2 2 (by omega) k (by omega), p_ofKinds a 3 3 (by omega) k (by omega), p_ofKinds b 3 3 (by omega) k (by omega), p_ofKinds b 4 4 (by omega) k (by omega)]
      simp only [e0, e1, Option.bind_some]
      have h : wrOut a b = a.filter wrP ++ b.filter wrP ++ b.filter (wrK 2) ++ a.filter (wrK 3) ++ b.filter (wrK 3) ++ b.filter (wrK 4) := by unfold wrOut; rfl
      have hq := h4
      rw [h] at hq
      simp only [List.length_append] at hq
      rw [if_neg (by decide), if_pos (by omega), if_pos (by simp only [List.length_append]; omega), if_pos (by simp only [List.length_append]; omega), if_pos (by simp only [List.length_append]; omega), if_pos (by simp only [List.length_append]; omega), ← h, p_checked (wrOut a b) (by omega) (fun x hx => (wrOut_mem hx).elim (hsa x) (hsb x)) k (by omega)]
      rfl
  · simp only [spec_WrappedSignature.j0]
    rfl
end Go.Proofs.Ytlpmggokgcphiaa.Pure

namespace Go.Proofs.Ytlpmggokgcphiaa.Pure
open Go.RowKit Go.Proofs.Ytlpmggokgcphiaa.Q Go.Proofs.YtlpmggokgcphiaaL.PrintWords Go.Proofs.YtlpmggokgcphiaaL.PrintLast Go.Proofs.YtlpmggokgcphiaaL.PrintMore
set_option linter.unusedVariables false
set_option linter.unusedSimpArgs false
theorem p_szSig (l : List S55) (hl : l.length ≤ maxLen) (hs : ∀ x ∈ l, x.f0.size ≤ maxLen) (k : Nat) (hk : 3000000 ≤ k) (a : Int) (h0 : 0 ≤ a) (h1 : a ≤ 1048576) :
    ∃ r, laws_szSignature.f k l a = some r ∧ (r < 0 ∨ 0 ≤ r ∧ r ≤ a ∧ l.length ≤ 1048576 ∧ ∀ x ∈ l, x.f0.size ≤ 1048576) := by
  unfold laws_szSignature.f
  obtain ⟨r, hr, hc⟩ := p_szParamS l hl hs k hk a h0 h1
  rw [hr, Option.bind_some]
  rcases hc with hc | hc
  · rw [if_pos hc]
    exact ⟨-1, rfl, .inl (by omega)⟩
  · rw [if_neg (by omega)]
    exact ⟨_, rfl, .inr hc⟩
theorem p_toSig (l : List S55) (hl : l.length ≤ 2000000) (k : Nat) (hk : 3000000 ≤ k) : laws_toSignature.f k l = some (l.map cParam) := by
  unfold laws_toSignature.f
  rw [p_toParamS l hl k hk, Option.bind_some]
theorem p_xeqSig (l : List S33) (hl : l.length ≤ 2000000) (k : Nat) (hk : 3000000 ≤ k) : laws_eqSignature.f k l l = some true := by
  unfold laws_eqSignature.f
  rw [p_eqParamS l hl k hk, Option.bind_some, if_pos rfl]
theorem cParam_small {l : List S55} (h : ∀ x ∈ l, x.f0.size ≤ 1048576) : ∀ x ∈ l.map cParam, x.f0.size ≤ 2000000 := by
  intro x hx
  obtain ⟨y, hy, rfl⟩ := List.mem_map.1 hx
  exact Nat.le_trans (h y hy) (by omega)
end Go.Proofs.Ytlpmggokgcphiaa.Pure
