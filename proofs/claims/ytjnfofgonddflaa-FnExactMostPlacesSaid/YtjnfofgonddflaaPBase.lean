import Derived.Test.YtjnfofgonddflaaLMore
import Derived.Test.YtjnfofgonddflaaM3FnExactMostPlaces
import Derived.Test.YtjnfofgonddflaaM1FnExactMostPlaces
namespace Go.Proofs.Ytjnfofgonddflaa.Pure
open Go.RowKit Go.Proofs.Ytjnfofgonddflaa.Q Go.Proofs.YtjnfofgonddflaaL.PrintWords Go.Proofs.YtjnfofgonddflaaL.PrintLast Go.Proofs.YtjnfofgonddflaaL.PrintMore
set_option linter.unusedVariables false
set_option linter.unusedSimpArgs false

/-- A number of a call. -/
def val (v : Int) : Bool := decide (-99 ≤ v) && decide (v ≤ 99)
theorem p_inRange (a lo hi : Int) : spec_inRange.f a lo hi = some (decide (lo ≤ a) && decide (a ≤ hi)) := by
  unfold spec_inRange.f
  split <;> simp [*]
theorem p_in (a lo hi : Int) : impl_in.f a lo hi = some (decide (lo ≤ a) && decide (a ≤ hi)) := by
  unfold impl_in.f
  split
  · have : lo ≤ a := by omega
    simp [this]
  · have : ¬ lo ≤ a := by omega
    simp [this]
theorem p_isValue (v : Int) : impl_isValue.f v = some (val v) := by
  unfold impl_isValue.f val
  simp [p_in]
theorem p_validNumber (v : Int) : spec_validNumber.f v = some (val v) := by
  unfold spec_validNumber.f val
  simp [p_inRange]
theorem bt_eq (s t : ByteArray) : (s.toList == t.toList) = (s.data.toList == t.data.toList) := by
  rw [ByteArray.toList_eq, ByteArray.toList_eq]
theorem bt_eqv (s t : ByteArray) : s.toList = t.toList ↔ s = t := by
  rw [ByteArray.toList_eq, ByteArray.toList_eq]
  constructor
  · intro h
    cases s; cases t
    simp only at h
    exact congrArg _ (Array.toList_inj.1 h)
  · rintro rfl; rfl
/-- A loop that ends with false at the first place that is not good. -/
theorem loop_all (F : Nat → Int → Option Bool) (P : Nat → Bool) (T : Bool) (n B : Nat) (hn : n ≤ 9223372036854775807)
    (hstep : ∀ k i, B ≤ k → i < n → F (k + 1) (i : Int) = if P i = true then F k (wrap64 ((i : Int) + 1)) else some false) (hend : ∀ k, B ≤ k → F (k + 1) (n : Int) = some T) :
    ∀ d k i, i + d = n → B + d < k → F k (i : Int) = some ((List.range' i d).all P && T) := by
  intro d
  induction d with
  | zero =>
    intro k i h hk
    obtain ⟨k, rfl⟩ : ∃ m, k = m + 1 := ⟨k - 1, by omega⟩
    obtain rfl : i = n := by omega
    rw [hend k (by omega)]
    simp
  | succ d ih =>
    intro k i h hk
    obtain ⟨k, rfl⟩ : ∃ m, k = m + 1 := ⟨k - 1, by omega⟩
    rw [hstep k i (by omega) (by omega), wrap_succ (n := n) (by omega) hn, ih k (i + 1) (by omega) (by omega), List.range'_succ, List.all_cons]
    cases P i <;> simp
theorem loop_all0 (F : Nat → Int → Option Bool) (P : Nat → Bool) (T : Bool) (n B k : Nat) (hn : n ≤ 9223372036854775807)
    (hstep : ∀ k i, B ≤ k → i < n → F (k + 1) (i : Int) = if P i = true then F k (wrap64 ((i : Int) + 1)) else some false) (hend : ∀ k, B ≤ k → F (k + 1) (n : Int) = some T)
    (hk : B + n < k) : F k 0 = some ((List.range n).all P && T) := by
  have := loop_all F P T n B hn hstep hend n k 0 (by omega) hk
  rw [List.range_eq_range']
  exact this
theorem name_loop (s : ByteArray) : ((List.range s.size).all fun i => decide (97 ≤ bt s (i : Int)) && decide (bt s (i : Int) ≤ 122)) = s.data.toList.all (fun c => decide (97 ≤ c.toNat) && decide (c.toNat ≤ 122)) := by
  rw [Bool.eq_iff_iff, List.all_eq_true, List.all_eq_true]
  constructor
  · intro h c hc
    obtain ⟨i, hi, rfl⟩ := List.mem_iff_getElem.1 hc
    have hi' : i < s.size := by simpa using hi
    have := h i (List.mem_range.2 hi')
    rw [bt_nat s i hi'] at this
    simp only [Bool.and_eq_true, decide_eq_true_eq] at this ⊢
    have e : s.data.toList[i] = s[i] := rfl
    rw [e]
    omega
  · intro h i hi
    have hi' := List.mem_range.1 hi
    have := h s[i] (by
      have : s[i] = s.data.toList[i]'(by simpa using hi') := rfl
      rw [this]; exact List.getElem_mem _)
    rw [bt_nat s i hi']
    simp only [Bool.and_eq_true, decide_eq_true_eq] at this ⊢
    omega
theorem name_size (s : ByteArray) : (decide ((1 : Int) ≤ (s.size : Int)) && decide ((s.size : Int) ≤ 6)) = (decide (1 ≤ s.size) && decide (s.size ≤ 6)) := by
  rw [Bool.eq_iff_iff]
  simp only [Bool.and_eq_true, decide_eq_true_eq]
  omega
theorem p_validName (s : ByteArray) (hs : s.size ≤ 9223372036854775807) (k : Nat) (hk : s.size < k) : spec_validName.f k s = some (pxName s) := by
  unfold spec_validName.f pxName
  rw [← name_loop]
  refine loop_all0 (fun k i => spec_validName.l0 k s i) _ _ s.size 0 k hs (fun k i _ hi => ?_) (fun k _ => ?_) (by omega)
  · simp only [spec_validName.l0]
    rw [if_pos (by omega), if_pos (by omega)]
    by_cases h1 : bt s (i : Int) < 97
    · have : ¬ 97 ≤ bt s (i : Int) := by omega
      simp [h1, this]
    · have h1' : 97 ≤ bt s (i : Int) := by omega
      by_cases h2 : bt s (i : Int) > 122
      · have : ¬ bt s (i : Int) ≤ 122 := by omega
        simp [h1, h2, this]
      · have : bt s (i : Int) ≤ 122 := by omega
        simp [h1, h2, this, h1']
  · simp only [spec_validName.l0]
    rw [if_neg (by omega), p_inRange, Option.bind_some, name_size]
theorem p_isName (s : ByteArray) (hs : s.size ≤ 9223372036854775807) (k : Nat) (hk : s.size < k) : impl_isName.f k s = some (pxName s) := by
  unfold impl_isName.f pxName
  rw [← name_loop]
  refine loop_all0 (fun k i => impl_isName.l0 k s i) _ _ s.size 0 k hs (fun k i _ hi => ?_) (fun k _ => ?_) (by omega)
  · simp only [impl_isName.l0]
    rw [if_pos (by omega), if_pos (by omega)]
    by_cases h1 : bt s (i : Int) < 97
    · have : ¬ 97 ≤ bt s (i : Int) := by omega
      simp [h1, this]
    · have h1' : 97 ≤ bt s (i : Int) := by omega
      by_cases h2 : bt s (i : Int) > 122
      · have : ¬ bt s (i : Int) ≤ 122 := by omega
        simp [h1, h2, this]
      · have : bt s (i : Int) ≤ 122 := by omega
        simp [h1, h2, this, h1']
  · simp only [impl_isName.l0]
    rw [if_neg (by omega), p_in, Option.bind_some, name_size]

theorem wrap_in {n : Int} (h1 : -9223372036854775808 ≤ n) (h2 : n ≤ 9223372036854775807) : wrap64 n = n := by
  unfold wrap64
  omega
end Go.Proofs.Ytjnfofgonddflaa.Pure
