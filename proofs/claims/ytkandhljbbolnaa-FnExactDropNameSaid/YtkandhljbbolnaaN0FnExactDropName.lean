-- written by px.py and merge.py (programs of this claim's), over the kit's print. Not trusted: Lean checks it.
import Derived.Test.YtkandhljbbolnaaLMore
import Derived.Test.YtkandhljbbolnaaM1FnExactDropName
import Derived.Test.YtkandhljbbolnaaM2FnExactDropName
import Derived.Test.YtkandhljbbolnaaM3FnExactDropName
import Derived.Test.YtkandhljbbolnaaM4FnExactDropName
import Derived.Test.YtkandhljbbolnaaM5FnExactDropName
import Derived.Test.YtkandhljbbolnaaM0FnExactDropName
namespace Go.Proofs.Ytkandhljbbolnaa.Pure
open Go.RowKit Go.Proofs.Ytkandhljbbolnaa.Q Go.Proofs.YtkandhljbbolnaaL.PrintWords Go.Proofs.YtkandhljbbolnaaL.PrintLast Go.Proofs.YtkandhljbbolnaaL.PrintMore
set_option linter.unusedVariables false
set_option linter.unusedSimpArgs false

/-- A number of a call. -/
def val (v : Int) : Bool := decide (-99 ≤ v) && decide (v ≤ 99)
theorem p_inRange (a lo hi : Int) : spec_inRange.f a lo hi = some (decide (lo ≤ a) && decide (a ≤ hi)) := by
  unfold spec_inRange.f
  split <;> simp [*]
theorem p_in (a lo hi : Int) : impl_in.f a lo hi = some (decide (lo ≤ a) && decide (a ≤ hi)) := by
  unfold impl_in.f
  split
  · have : lo ≤ a := by omega
    simp [this]
  · have : ¬ lo ≤ a := by omega
    simp [this]
theorem p_isValue (v : Int) : impl_isValue.f v = some (val v) := by
  unfold impl_isValue.f val
  simp [p_in]
theorem p_validNumber (v : Int) : spec_validNumber.f v = some (val v) := by
  unfold spec_validNumber.f val
  simp [p_inRange]
theorem bt_eq (s t : ByteArray) : (s.toList == t.toList) = (s.data.toList == t.data.toList) := by
  rw [ByteArray.toList_eq, ByteArray.toList_eq]
theorem bt_eqv (s t : ByteArray) : s.toList = t.toList ↔ s = t := by
  rw [ByteArray.toList_eq, ByteArray.toList_eq]
  constructor
  · intro h
    cases s; cases t
    simp only at h
    exact congrArg _ (Array.toList_inj.1 h)
  · rintro rfl; rfl
/-- A loop that ends with false at the first place that is not good. -/
theorem loop_all (F : Nat → Int → Option Bool) (P : Nat → Bool) (T : Bool) (n B : Nat) (hn : n ≤ 9223372036854775807)
    (hstep : ∀ k i, B ≤ k → i < n → F (k + 1) (i : Int) = if P i = true then F k (wrap64 ((i : Int) + 1)) else some false) (hend : ∀ k, B ≤ k → F (k + 1) (n : Int) = some T) :
    ∀ d k i, i + d = n → B + d < k → F k (i : Int) = some ((List.range' i d).all P && T) := by
  intro d
  induction d with
  | zero =>
    intro k i h hk
    obtain ⟨k, rfl⟩ : ∃ m, k = m + 1 := ⟨k - 1, by omega⟩
    obtain rfl : i = n := by omega
    rw [hend k (by omega)]
    simp
  | succ d ih =>
    intro k i h hk
    obtain ⟨k, rfl⟩ : ∃ m, k = m + 1 := ⟨k - 1, by omega⟩
    rw [hstep k i (by omega) (by omega), wrap_succ (n := n) (by omega) hn, ih k (i + 1) (by omega) (by omega), List.range'_succ, List.all_cons]
    cases P i <;> simp
theorem loop_all0 (F : Nat → Int → Option Bool) (P : Nat → Bool) (T : Bool) (n B k : Nat) (hn : n ≤ 9223372036854775807)
    (hstep : ∀ k i, B ≤ k → i < n → F (k + 1) (i : Int) = if P i = true then F k (wrap64 ((i : Int) + 1)) else some false) (hend : ∀ k, B ≤ k → F (k + 1) (n : Int) = some T)
    (hk : B + n < k) : F k 0 = some ((List.range n).all P && T) := by
  have := loop_all F P T n B hn hstep hend n k 0 (by omega) hk
  rw [List.range_eq_range']
  exact this
theorem name_loop (s : ByteArray) : ((List.range s.size).all fun i => decide (97 ≤ bt s (i : Int)) && decide (bt s (i : Int) ≤ 122)) = s.data.toList.all (fun c => decide (97 ≤ c.toNat) && decide (c.toNat ≤ 122)) := by
  rw [Bool.eq_iff_iff, List.all_eq_true, List.all_eq_true]
  constructor
  · intro h c hc
    obtain ⟨i, hi, rfl⟩ := List.mem_iff_getElem.1 hc
    have hi' : i < s.size := by simpa using hi
    have := h i (List.mem_range.2 hi')
    rw [bt_nat s i hi'] at this
    simp only [Bool.and_eq_true, decide_eq_true_eq] at this ⊢
    have e : s.data.toList[i] = s[i] := rfl
    rw [e]
    omega
  · intro h i hi
    have hi' := List.mem_range.1 hi
    have := h s[i] (by
      have : s[i] = s.data.toList[i]'(by simpa using hi') := rfl
      rw [this]; exact List.getElem_mem _)
    rw [bt_nat s i hi']
    simp only [Bool.and_eq_true, decide_eq_true_eq] at this ⊢
    omega
theorem name_size (s : ByteArray) : (decide ((1 : Int) ≤ (s.size : Int)) && decide ((s.size : Int) ≤ 6)) = (decide (1 ≤ s.size) && decide (s.size ≤ 6)) := by
  rw [Bool.eq_iff_iff]
  simp only [Bool.and_eq_true, decide_eq_true_eq]
  omega
theorem p_validName (s : ByteArray) (hs : s.size ≤ 9223372036854775807) (k : Nat) (hk : s.size < k) : spec_validName.f k s = some (pxName s) := by
  unfold spec_validName.f pxName
  rw [← name_loop]
  refine loop_all0 (fun k i => spec_validName.l0 k s i) _ _ s.size 0 k hs (fun k i _ hi => ?_) (fun k _ => ?_) (by omega)
  · simp only [spec_validName.l0]
    rw [if_pos (by omega), if_pos (by omega)]
    by_cases h1 : bt s (i : Int) < 97
    · have : ¬ 97 ≤ bt s (i : Int) := by omega
      simp [h1, this]
    · have h1' : 97 ≤ bt s (i : Int) := by omega
      by_cases h2 : bt s (i : Int) > 122
      · have : ¬ bt s (i : Int) ≤ 122 := by omega
        simp [h1, h2, this]
      · have : bt s (i : Int) ≤ 122 := by omega
        simp [h1, h2, this, h1']
  · simp only [spec_validName.l0]
    rw [if_neg (by omega), p_inRange, Option.bind_some, name_size]
theorem p_isName (s : ByteArray) (hs : s.size ≤ 9223372036854775807) (k : Nat) (hk : s.size < k) : impl_isName.f k s = some (pxName s) := by
  unfold impl_isName.f pxName
  rw [← name_loop]
  refine loop_all0 (fun k i => impl_isName.l0 k s i) _ _ s.size 0 k hs (fun k i _ hi => ?_) (fun k _ => ?_) (by omega)
  · simp only [impl_isName.l0]
    rw [if_pos (by omega), if_pos (by omega)]
    by_cases h1 : bt s (i : Int) < 97
    · have : ¬ 97 ≤ bt s (i : Int) := by omega
      simp [h1, this]
    · have h1' : 97 ≤ bt s (i : Int) := by omega
      by_cases h2 : bt s (i : Int) > 122
      · have : ¬ bt s (i : Int) ≤ 122 := by omega
        simp [h1, h2, this]
      · have : bt s (i : Int) ≤ 122 := by omega
        simp [h1, h2, this, h1']
  · simp only [impl_isName.l0]
    rw [if_neg (by omega), p_in, Option.bind_some, name_size]

theorem wrap_in {n : Int} (h1 : -9223372036854775808 ≤ n) (h2 : n ≤ 9223372036854775807) : wrap64 n = n := by
  unfold wrap64
  omega
end Go.Proofs.Ytkandhljbbolnaa.Pure

namespace Go.Proofs.Ytkandhljbbolnaa.Pure
open Go.RowKit Go.Proofs.Ytkandhljbbolnaa.Q Go.Proofs.YtkandhljbbolnaaL.PrintWords Go.Proofs.YtkandhljbbolnaaL.PrintLast Go.Proofs.YtkandhljbbolnaaL.PrintMore
set_option linter.unusedVariables false
set_option linter.unusedSimpArgs false
theorem range_all {α : Type} (l : List α) (d : α) (p : α → Bool) : ((List.range l.length).all fun i => p (l.getD i d)) = l.all p := by
  rw [Bool.eq_iff_iff, List.all_eq_true, List.all_eq_true]
  constructor
  · intro h x hx
    obtain ⟨i, hi, rfl⟩ := List.mem_iff_getElem.1 hx
    have := h i (List.mem_range.2 hi)
    rwa [List.getD_eq_getElem?_getD, List.getElem?_eq_getElem hi] at this
  · intro h i hi
    have hi' := List.mem_range.1 hi
    rw [List.getD_eq_getElem?_getD, List.getElem?_eq_getElem hi']
    exact h _ (List.getElem_mem _)
theorem getD_mem {α : Type} (l : List α) (d : α) (i : Nat) (h : i < l.length) : l.getD i d ∈ l := by
  rw [List.getD_eq_getElem?_getD, List.getElem?_eq_getElem h]
  exact List.getElem_mem _
theorem rd_nat (l : List Int) (i : Nat) : rd l (i : Int) = l.getD i 0 := by
  unfold Go.Proofs.YtkandhljbbolnaaL.PrintWords.rd
  rw [Int.toNat_natCast]
theorem rdOf_nat {α : Type} (d : α) (l : List α) (i : Nat) : rdOf d l (i : Int) = l.getD i d := by
  unfold rdOf
  rw [Int.toNat_natCast]
/-- A loop that looks for the first one. -/
theorem loop_find {α : Type} (F : Nat → Int → Option Int) (l : List α) (d : α) (p : α → Bool) (B : Nat) (hn : l.length ≤ 9223372036854775807)
    (hstep : ∀ k i, B ≤ k → i < l.length → F (k + 1) (i : Int) = if p (l.getD i d) = true then some (i : Int) else F k (wrap64 ((i : Int) + 1))) (hend : ∀ k, B ≤ k → F (k + 1) (l.length : Int) = some (-1)) :
    ∀ e k i, i + e = l.length → B + e < k → (∀ j, j < i → p (l.getD j d) = false) → F k (i : Int) = some (pxIdx p l) := by
  intro e
  induction e with
  | zero =>
    intro k i h hk hm
    obtain ⟨k, rfl⟩ : ∃ m, k = m + 1 := ⟨k - 1, by omega⟩
    obtain rfl : i = l.length := by omega
    rw [hend k (by omega), pxIdx_miss p l d hm]
  | succ e ih =>
    intro k i h hk hm
    obtain ⟨k, rfl⟩ : ∃ m, k = m + 1 := ⟨k - 1, by omega⟩
    rw [hstep k i (by omega) (by omega)]
    cases hq : p (l.getD i d) with
    | true => rw [if_pos rfl, pxIdx_hit p l d i (by omega) hq hm]
    | false =>
      rw [if_neg (by simp), wrap_succ (n := l.length) (by omega) hn]
      refine ih k (i + 1) (by omega) (by omega) (fun j hj => ?_)
      by_cases e : j = i
      · rw [e]; exact hq
      · exact hm j (by omega)
theorem loop_find0 {α : Type} (F : Nat → Int → Option Int) (l : List α) (d : α) (p : α → Bool) (B k : Nat) (hn : l.length ≤ 9223372036854775807)
    (hstep : ∀ k i, B ≤ k → i < l.length → F (k + 1) (i : Int) = if p (l.getD i d) = true then some (i : Int) else F k (wrap64 ((i : Int) + 1))) (hend : ∀ k, B ≤ k → F (k + 1) (l.length : Int) = some (-1))
    (hk : B + l.length < k) : F k 0 = some (pxIdx p l) :=
  loop_find F l d p B hn hstep hend l.length k 0 (by omega) hk (fun j hj => absurd hj (Nat.not_lt_zero _))
theorem pxIdx_range {α : Type} (p : α → Bool) (l : List α) : pxIdx p l = -1 ∨ ∃ i : Nat, i < l.length ∧ pxIdx p l = (i : Int) := by
  unfold pxIdx
  cases h : l.findIdx? p with
  | none => exact .inl rfl
  | some i =>
    rw [List.findIdx?_eq_some_iff_getElem] at h
    exact .inr ⟨i, h.1, rfl⟩
end Go.Proofs.Ytkandhljbbolnaa.Pure

namespace Go.Proofs.Ytkandhljbbolnaa.Pure
open Go.RowKit Go.Proofs.Ytkandhljbbolnaa.Q Go.Proofs.YtkandhljbbolnaaL.PrintWords Go.Proofs.YtkandhljbbolnaaL.PrintLast Go.Proofs.YtkandhljbbolnaaL.PrintMore
set_option linter.unusedVariables false
set_option linter.unusedSimpArgs false
abbrev PR := S94
abbrev pz : PR := z94
theorem rdp (l : List PR) (i : Nat) : rd_T94 l (i : Int) = l.getD i pz := by
  unfold rd_T94
  rw [Int.toNat_natCast]
theorem p_validNumbers (l : List Int) (hl : l.length ≤ 2000000) (k : Nat) (hk : 3000000 ≤ k) : spec_validNumbers.f k l = some (l.all val) := by
  unfold spec_validNumbers.f
  rw [← range_all l 0 val, ← Bool.and_true (List.all _ _)]
  refine loop_all0 (fun k i => spec_validNumbers.l0 k l i) _ _ l.length 0 k (by omega) (fun k i _ hi => ?_) (fun k _ => ?_) (by omega)
  · simp only [spec_validNumbers.l0]
    rw [if_pos (by omega), if_pos (by omega), p_validNumber, Option.bind_some, rd_nat]
  · simp only [spec_validNumbers.l0]
    rw [if_neg (by omega)]
theorem p_areValues (l : List Int) : impl_areValues.f l = some (l.all val) := by
  unfold impl_areValues.f
  rw [Option.some.injEq, List.not_any_eq_all_not]
  simp only [Bool.not_not]
  rfl
theorem p_specPairAt (l : List PR) (s : ByteArray) (hl : l.length ≤ 2000000) (k : Nat) (hk : 3000000 ≤ k) : spec_pairAt.f k l s = some (pxIdx (fun x : PR => x.f0.toList == s.toList) l) := by
  unfold spec_pairAt.f
  refine loop_find0 (fun k i => spec_pairAt.l0 k l s i) l pz _ 0 k (by omega) (fun k i _ hi => ?_) (fun k _ => ?_) (by omega)
  · simp only [spec_pairAt.l0]
    rw [if_pos (by omega), if_pos (by omega), rdp]
    simp only [beq_iff_eq]
  · simp only [spec_pairAt.l0]
    rw [if_neg (by omega)]
/-- What a pair must be. -/
def pairOk (x : PR) : Bool := pxName x.f0 && val x.f1
def freshAt (l : List PR) (i : Nat) : Bool := !((l.take i).any fun x => x.f0.toList == (l.getD i pz).f0.toList)
def vflat (ps : List Int) (l : List PR) : Bool := (List.range l.length).all (freshAt l) && (ps.all val && l.all pairOk && decide (ps.length ≤ 8) && decide (l.length ≤ 8))
theorem p_validPairs (l : List PR) (hl : l.length ≤ 2000000) (hs : ∀ x ∈ l, x.f0.size ≤ 2000000) (k : Nat) (hk : 6000000 ≤ k) : spec_validPairs.f k l = some (l.all pairOk) := by
  unfold spec_validPairs.f
  rw [← range_all l pz pairOk, ← Bool.and_true (List.all _ _)]
  refine loop_all0 (fun k i => spec_validPairs.l0 k l i) _ _ l.length 3000000 k (by omega) (fun k i hk hi => ?_) (fun k _ => ?_) (by omega)
  · simp only [spec_validPairs.l0]
    have hsz := hs _ (getD_mem l pz i hi)
    rw [if_pos (by omega), if_pos (by omega), rdp, p_validName _ (by omega) k (by omega), Option.bind_some, p_validNumber, Option.bind_some]
    unfold pairOk
    cases pxName (l.getD i pz).f0 <;> cases val (l.getD i pz).f1 <;> simp
  · simp only [spec_validPairs.l0]
    rw [if_neg (by omega)]
theorem freshAt_idx (l : List PR) (i : Nat) : freshAt l i = !decide (pxIdx (fun x : PR => x.f0.toList == (l.getD i pz).f0.toList) (l.take i) ≥ 0) := by
  rw [pxIdx_any]; rfl
theorem int_le8 (n : Nat) : decide ((n : Int) ≤ 8) = decide (n ≤ 8) := by
  rw [decide_eq_decide]; omega
theorem p_specFlat (ps : List Int) (l : List PR) (hp : ps.length ≤ 2000000) (hl : l.length ≤ 2000000) (hs : ∀ x ∈ l, x.f0.size ≤ 2000000) (k : Nat) (hk : 9000000 ≤ k) : spec_validFlat.f k ps l = some (vflat ps l) := by
  unfold spec_validFlat.f vflat
  refine loop_all0 (fun k i => spec_validFlat.l0 k i ps l) _ _ l.length 6000000 k (by omega) (fun k i hk hi => ?_) (fun k hk => ?_) (by omega)
  · simp only [spec_validFlat.l0]
    rw [if_pos (by omega), if_pos (by omega), if_pos (by omega), Int.toNat_natCast, rdp, p_specPairAt _ _ (by rw [List.length_take]; omega) k (by omega), Option.bind_some, freshAt_idx]
    generalize pxIdx (fun x : PR => x.f0.toList == (l.getD i pz).f0.toList) (l.take i) = q
    by_cases h : q ≥ 0
    · rw [if_pos h, if_neg (by simp [h])]
    · rw [if_neg h, if_pos (by simp [h])]
  · simp only [spec_validFlat.l0]
    rw [if_neg (by omega), p_validNumbers ps hp k (by omega), Option.bind_some, p_validPairs l hl hs k hk, Option.bind_some, int_le8]
    cases ps.all val <;> cases l.all pairOk <;> by_cases h : ps.length ≤ 8 <;> simp [h] <;> omega
theorem p_pairValid (s : ByteArray) (v : Int) (hs : s.size ≤ 2000000) (k : Nat) (hk : 3000000 ≤ k) : impl_Pair_valid.f k s v = some (pxName s && val v) := by
  unfold impl_Pair_valid.f
  rw [p_isName s (by omega) k (by omega), Option.bind_some, p_isValue, Option.bind_some]
  cases pxName s <;> simp
theorem and_range (n : Nat) (p q : Nat → Bool) : ((List.range n).all fun i => p i && q i) = ((List.range n).all p && (List.range n).all q) := by
  induction n with
  | zero => rfl
  | succ n ih =>
    simp only [List.range_succ, List.all_append, List.all_cons, List.all_nil, ih]
    cases (List.range n).all p <;> cases (List.range n).all q <;> cases p n <;> cases q n <;> rfl
theorem p_implFlat (ps : List Int) (l : List PR) (hl : l.length ≤ 2000000) (hs : ∀ x ∈ l, x.f0.size ≤ 2000000) (k : Nat) (hk : 9000000 ≤ k) : impl_ValidFlat.f k ps l = some (vflat ps l) := by
  unfold impl_ValidFlat.f
  have e : vflat ps l = (((List.range l.length).all fun i => pairOk (l.getD i pz) && freshAt l i) && (decide (ps.length ≤ 8) && decide (l.length ≤ 8) && ps.all val)) := by
    rw [and_range, range_all l pz pairOk]
    unfold vflat
    cases (List.range l.length).all (freshAt l) <;> cases ps.all val <;> cases l.all pairOk <;> cases decide (ps.length ≤ 8) <;> cases decide (l.length ≤ 8) <;> rfl
  rw [e]
  refine loop_all0 (fun k i => impl_ValidFlat.l0 k l (l.length : Int) i ps l) _ _ l.length 6000000 k (by omega) (fun k i hk hi => ?_) (fun k hk => ?_) (by omega)
  · simp only [impl_ValidFlat.l0]
    have hsz := hs _ (getD_mem l pz i hi)
    rw [if_pos (by omega), if_pos (by omega), if_pos (by omega), rdp, p_pairValid _ _ hsz k (by omega), Option.bind_some, if_pos (show (i : Int) ≤ (l.length : Int) by omega), Int.toNat_natCast]
    unfold impl_pairAt.f
    rw [Option.bind_some, freshAt_idx]
    unfold pairOk
    cases pxName (l.getD i pz).f0 && val (l.getD i pz).f1 with
    | false => simp
    | true =>
      generalize pxIdx (fun x : PR => x.f0.toList == (l.getD i pz).f0.toList) (l.take i) = q
      by_cases h : q ≥ 0
      · simp [h]
      · simp [h]
  · simp only [impl_ValidFlat.l0]
    rw [if_neg (by omega), p_areValues, Option.bind_some]
    by_cases h1 : ps.length ≤ 8
    · rw [if_pos (by omega)]
      by_cases h2 : l.length ≤ 8
      · rw [if_pos (by omega)]
        simp [h1, h2]
      · rw [if_neg (by omega)]
        simp [h2]
    · rw [if_neg (by omega)]
      simp [h1]
end Go.Proofs.Ytkandhljbbolnaa.Pure

namespace Go.Proofs.Ytkandhljbbolnaa.Pure
open Go.RowKit Go.Proofs.Ytkandhljbbolnaa.Q Go.Proofs.YtkandhljbbolnaaL.PrintWords Go.Proofs.YtkandhljbbolnaaL.PrintLast Go.Proofs.YtkandhljbbolnaaL.PrintMore
set_option linter.unusedVariables false
set_option linter.unusedSimpArgs false
def SmallF (l : List PR) : Prop := ∀ x ∈ l, x.f0.size ≤ 2000000
theorem p_copyOf (ps : List Int) (l : List PR) (hp : ps.length ≤ 2000000) (hl : l.length ≤ 2000000) : impl_Flat_copyOf.f ps l = some (ps, l) := by
  unfold impl_Flat_copyOf.f impl_clone_int.f impl_Pair_105.f
  rw [if_pos (by omega), if_pos (by omega)]
  rfl
theorem p_checked (ps : List Int) (l : List PR) (b : Bool) (hp : ps.length ≤ 2000000) (hl : l.length ≤ 2000000) (hs : SmallF l) (k : Nat) (hk : 9000000 ≤ k) :
    impl_checked.f k ps l b = some (if (b && vflat ps l) = true then (ps, l, true) else ([], [], false)) := by
  unfold impl_checked.f
  cases b with
  | false => rfl
  | true =>
    rw [if_pos rfl, p_implFlat ps l hl hs k hk, Option.bind_some, p_copyOf ps l hp hl, Option.bind_some, Bool.true_and]
    split <;> rfl
theorem p_copyFlat (ps : List Int) (l : List PR) (hp : ps.length ≤ 2000000) (hl : l.length ≤ 2000000) : spec_copyFlat.f ps l = some (ps, l) := by
  unfold spec_copyFlat.f
  simp only [Option.bind_some, List.nil_append, List.length_nil]
  rw [if_pos (by omega), if_pos (by omega)]
theorem p_checkedFlat (ps : List Int) (l : List PR) (hp : ps.length ≤ 2000000) (hl : l.length ≤ 2000000) (hs : SmallF l) (k : Nat) (hk : 9000000 ≤ k) :
    spec_checkedFlat.f k ps l = some (if vflat ps l = true then (ps, l, true) else ([], [], false)) := by
  unfold spec_checkedFlat.f
  rw [p_specFlat ps l hp hl hs k hk, Option.bind_some]
  split <;> rfl
end Go.Proofs.Ytkandhljbbolnaa.Pure

namespace Go.Proofs.Ytkandhljbbolnaa.Pure
open Go.RowKit Go.Proofs.Ytkandhljbbolnaa.Q Go.Proofs.YtkandhljbbolnaaL.PrintWords Go.Proofs.YtkandhljbbolnaaL.PrintLast Go.Proofs.YtkandhljbbolnaaL.PrintMore
set_option linter.unusedVariables false
set_option linter.unusedSimpArgs false
def atP (ns : List PR) (s : ByteArray) : Int := pxIdx (fun x : PR => x.f0.toList == s.toList) ns
def dropN (ps : List Int) (ns : List PR) (s : ByteArray) : List Int × List PR × Bool :=
  if vflat ps ns = true then (if atP ns s < 0 then ([], [], false) else (ps, ns.take (atP ns s).toNat ++ ns.drop ((atP ns s).toNat + 1), true)) else ([], [], false)
theorem dropN_len (ps : List Int) (ns : List PR) (s : ByteArray) : (dropN ps ns s).1.length ≤ ps.length ∧ (dropN ps ns s).2.1.length ≤ ns.length := by
  unfold dropN
  split
  · split
    · simp
    · refine ⟨Nat.le_refl _, ?_⟩
      show (ns.take (atP ns s).toNat ++ ns.drop ((atP ns s).toNat + 1)).length ≤ ns.length
      rw [List.length_append, List.length_take, List.length_drop]
      omega
  · simp
theorem p_implDropName (ps : List Int) (ns : List PR) (s : ByteArray) (hp : ps.length ≤ 1900000) (hl : ns.length ≤ 1900000) (hs : SmallF ns) (k : Nat) (hk : 9000000 ≤ k) : impl_DropName.f k ps ns s = some (dropN ps ns s) := by
  unfold impl_DropName.f impl_pairAt.f dropN atP
  rw [Option.bind_some, p_implFlat ps ns (by omega) hs k hk, Option.bind_some]
  cases vflat ps ns with
  | false => rfl
  | true =>
    rw [if_pos rfl, if_pos rfl]
    rcases pxIdx_range (fun x : PR => x.f0.toList == s.toList) ns with e | ⟨i, hi, e⟩
    · rw [e, if_pos (by omega), if_pos (by omega)]
    · rw [e, if_neg (by omega), if_neg (by omega), p_copyOf ps ns (by omega) (by omega), Option.bind_some]
      dsimp only
      rw [if_pos (by omega), Int.toNat_natCast]
      unfold impl_Pair_105.f
      rw [if_pos (by rw [List.length_append, List.length_take, List.length_drop]; omega), Option.bind_some]
theorem p_specDropName (ps : List Int) (ns : List PR) (s : ByteArray) (hp : ps.length ≤ 1900000) (hl : ns.length ≤ 1900000) (hs : SmallF ns) (k : Nat) (hk : 9000001 ≤ k) : spec_DropName.f k ps ns s = some (dropN ps ns s) := by
  obtain ⟨k, rfl⟩ : ∃ m, k = m + 1 := ⟨k - 1, by omega⟩
  unfold spec_DropName.f dropN atP
  rw [p_specPairAt ns s (by omega) (k + 1) (by omega), Option.bind_some, p_specFlat ps ns (by omega) (by omega) hs (k + 1) (by omega), Option.bind_some]
  cases vflat ps ns with
  | false =>
    rw [if_neg (by decide)]
    simp only [spec_DropName.j0]
    rfl
  | true =>
    rw [if_pos rfl, if_pos rfl]
    rcases pxIdx_range (fun x : PR => x.f0.toList == s.toList) ns with e | ⟨i, hi, e⟩
    · rw [e, if_pos (by omega)]
      simp only [spec_DropName.j0]
      rw [if_pos (by decide)]
    · rw [e, if_neg (by omega), Int.toNat_natCast]
      simp only [spec_DropName.j0]
      rw [if_neg (by simp <;> omega), p_copyFlat ps ns (by omega) (by omega), Option.bind_some]
      dsimp only
      have hd : spec_dropPair.f ns (i : Int) = some (ns.take i ++ ns.drop (i + 1)) := by
        unfold spec_dropPair.f
        rw [Option.bind_some, if_pos (by omega), if_pos (by omega), Option.bind_some, if_pos (by rw [List.length_take]; simp; omega), Option.bind_some, wrap_succ (n := ns.length) hi (by omega), if_pos (by omega), if_pos (by omega), Option.bind_some, Int.toNat_natCast, Int.toNat_natCast, List.nil_append, if_pos (by rw [List.length_take, List.length_drop]; omega)]
      rw [hd, Option.bind_some]
end Go.Proofs.Ytkandhljbbolnaa.Pure

namespace Go.Proofs.Ytkandhljbbolnaa.Pure
open Go.RowKit Go.Proofs.Ytkandhljbbolnaa.Q Go.Proofs.YtkandhljbbolnaaL.PrintWords Go.Proofs.YtkandhljbbolnaaL.PrintLast Go.Proofs.YtkandhljbbolnaaL.PrintMore
set_option linter.unusedVariables false
set_option linter.unusedSimpArgs false
/-- A loop that writes its list, place by place. -/
theorem loop_set {β : Type} (F : Nat → List β → Int → Option (List β)) (g : Nat → β) (n B : Nat) (hn : n ≤ 9223372036854775807)
    (hstep : ∀ k acc i, B ≤ k → i < n → acc.length = n → F (k + 1) acc (i : Int) = F k (acc.set i (g i)) (wrap64 ((i : Int) + 1))) (hend : ∀ k acc, B ≤ k → F (k + 1) acc (n : Int) = some acc) :
    ∀ d k i acc, i + d = n → B + d < k → acc.length = n → F k acc (i : Int) = some (acc.take i ++ (List.range' i d).map g) := by
  intro d
  induction d with
  | zero =>
    intro k i acc h hk ha
    obtain ⟨k, rfl⟩ : ∃ m, k = m + 1 := ⟨k - 1, by omega⟩
    obtain rfl : i = n := by omega
    rw [hend k acc (by omega), List.take_of_length_le (by omega)]
    simp
  | succ d ih =>
    intro k i acc h hk ha
    obtain ⟨k, rfl⟩ : ∃ m, k = m + 1 := ⟨k - 1, by omega⟩
    rw [hstep k acc i (by omega) (by omega) ha, wrap_succ (n := n) (by omega) hn, ih k (i + 1) _ (by omega) (by omega) (by rw [List.length_set]; exact ha), List.range'_succ, List.map_cons]
    rw [List.take_succ_eq_append_getElem (by rw [List.length_set]; omega), List.take_set_of_le (by omega)]
    simp
theorem loop_set0 {β : Type} (F : Nat → List β → Int → Option (List β)) (g : Nat → β) (n B k : Nat) (acc : List β) (hn : n ≤ 9223372036854775807)
    (hstep : ∀ k acc i, B ≤ k → i < n → acc.length = n → F (k + 1) acc (i : Int) = F k (acc.set i (g i)) (wrap64 ((i : Int) + 1))) (hend : ∀ k acc, B ≤ k → F (k + 1) acc (n : Int) = some acc)
    (hk : B + n < k) (ha : acc.length = n) : F k acc 0 = some ((List.range n).map g) := by
  have := loop_set F g n B hn hstep hend n k 0 acc (by omega) hk ha
  rw [List.range_eq_range']
  simpa using this
theorem range_map {α β : Type} (l : List α) (d : α) (g : α → β) : (List.range l.length).map (fun i => g (l.getD i d)) = l.map g := by
  apply List.ext_getElem
  · simp
  · intro i h1 h2
    simp only [List.getElem_map, List.getElem_range]
    have : i < l.length := by simpa using h2
    rw [List.getD_eq_getElem?_getD, List.getElem?_eq_getElem this]
    rfl
/-- A loop that counts down from a number, and ends early below 0. -/
theorem loop_sz {α : Type} (F : Nat → Int → Int → Option Int) (l : List α) (d : α) (P : α → Prop) (B : Nat) (hn : l.length ≤ 9223372036854775807)
    (hstep : ∀ k a i, B ≤ k → i < l.length → 0 ≤ a → a ≤ 1048576 → F (k + 1) a (i : Int) = some (-1) ∨ ∃ a', 0 ≤ a' ∧ a' ≤ a ∧ P (l.getD i d) ∧ F (k + 1) a (i : Int) = F k a' (wrap64 ((i : Int) + 1)))
    (hend : ∀ k a, B ≤ k → F (k + 1) a (l.length : Int) = some a) :
    ∀ e k i a, i + e = l.length → B + e < k → 0 ≤ a → a ≤ 1048576 → ∃ r, F k a (i : Int) = some r ∧ (r < 0 ∨ 0 ≤ r ∧ r ≤ a ∧ ∀ j, i ≤ j → j < l.length → P (l.getD j d)) := by
  intro e
  induction e with
  | zero =>
    intro k i a h hk h0 h1
    obtain ⟨k, rfl⟩ : ∃ m, k = m + 1 := ⟨k - 1, by omega⟩
    obtain rfl : i = l.length := by omega
    exact ⟨a, hend k a (by omega), .inr ⟨h0, Int.le_refl _, fun j h1 h2 => by omega⟩⟩
  | succ e ih =>
    intro k i a h hk h0 h1
    obtain ⟨k, rfl⟩ : ∃ m, k = m + 1 := ⟨k - 1, by omega⟩
    rcases hstep k a i (by omega) (by omega) h0 h1 with hf | ⟨a', g0, g1, hp, hf⟩
    · exact ⟨-1, hf, .inl (by omega)⟩
    · rw [hf, wrap_succ (n := l.length) (by omega) hn]
      obtain ⟨r, hr, hc⟩ := ih k (i + 1) a' (by omega) (by omega) g0 (by omega)
      refine ⟨r, hr, ?_⟩
      rcases hc with hc | ⟨c0, c1, c2⟩
      · exact .inl hc
      · refine .inr ⟨c0, by omega, fun j h1 h2 => ?_⟩
        by_cases e : j = i
        · rw [e]; exact hp
        · exact c2 j (by omega) h2
theorem loop_sz0 {α : Type} (F : Nat → Int → Int → Option Int) (l : List α) (d : α) (P : α → Prop) (B k : Nat) (a : Int) (hn : l.length ≤ 9223372036854775807)
    (hstep : ∀ k a i, B ≤ k → i < l.length → 0 ≤ a → a ≤ 1048576 → F (k + 1) a (i : Int) = some (-1) ∨ ∃ a', 0 ≤ a' ∧ a' ≤ a ∧ P (l.getD i d) ∧ F (k + 1) a (i : Int) = F k a' (wrap64 ((i : Int) + 1)))
    (hend : ∀ k a, B ≤ k → F (k + 1) a (l.length : Int) = some a) (hk : B + l.length < k) (h0 : 0 ≤ a) (h1 : a ≤ 1048576) :
    ∃ r, F k a 0 = some r ∧ (r < 0 ∨ 0 ≤ r ∧ r ≤ a ∧ ∀ x ∈ l, P x) := by
  obtain ⟨r, hr, hc⟩ := loop_sz F l d P B hn hstep hend l.length k 0 a (by omega) hk h0 h1
  refine ⟨r, hr, ?_⟩
  rcases hc with hc | ⟨c0, c1, c2⟩
  · exact .inl hc
  · refine .inr ⟨c0, c1, fun x hx => ?_⟩
    obtain ⟨j, hj, rfl⟩ := List.mem_iff_getElem.1 hx
    have := c2 j (by omega) hj
    rwa [List.getD_eq_getElem?_getD, List.getElem?_eq_getElem hj] at this
/-- A loop that marks. -/
theorem loop_mark {β : Type} (F : Nat → List β → Int → Int → Option (Int × List β)) (g : Int → β) (c n B : Nat) (m : Int) (hn : n ≤ 1048576) (hc : c ≤ 10) (h0 : 0 ≤ m) (h1 : m ≤ 100000000)
    (hstep : ∀ k acc x i, B ≤ k → i < n → acc.length = n → 0 ≤ x → x ≤ 1000000000 → F (k + 1) acc x (i : Int) = F k (acc.set i (g x)) (x + c) (wrap64 ((i : Int) + 1))) (hend : ∀ k acc x, B ≤ k → acc.length = n → F (k + 1) acc x (n : Int) = some (x, acc)) :
    ∀ d k i acc, i + d = n → B + d < k → acc.length = n → F k acc (m + (c * i : Nat)) (i : Int) = some (m + (c * n : Nat), acc.take i ++ (List.range' i d).map (fun j => g (m + (c * j : Nat)))) := by
  intro d
  induction d with
  | zero =>
    intro k i acc h hk ha
    obtain ⟨k, rfl⟩ : ∃ m, k = m + 1 := ⟨k - 1, by omega⟩
    obtain rfl : i = n := by omega
    rw [hend k acc _ (by omega) ha, List.take_of_length_le (by omega)]
    simp
  | succ d ih =>
    intro k i acc h hk ha
    obtain ⟨k, rfl⟩ : ∃ m, k = m + 1 := ⟨k - 1, by omega⟩
    have hci : c * i ≤ 10485760 := by
      have := Nat.mul_le_mul hc (show i ≤ 1048576 by omega)
      omega
    have e : m + (c * i : Nat) + (c : Int) = m + (c * (i + 1) : Nat) := by rw [Nat.mul_add, Nat.mul_one]; omega
    rw [hstep k acc _ i (by omega) (by omega) ha (by omega) (by omega), wrap_succ (n := n) (by omega) (by omega), e, ih k (i + 1) _ (by omega) (by omega) (by rw [List.length_set]; exact ha), List.range'_succ, List.map_cons]
    rw [List.take_succ_eq_append_getElem (by rw [List.length_set]; omega), List.take_set_of_le (by omega)]
    simp
def marked {β : Type} (g : Int → β) (c n : Nat) (m : Int) : List β := (List.range n).map (fun j => g (m + (c * j : Nat)))
theorem marked_length {β : Type} (g : Int → β) (c n : Nat) (m : Int) : (marked g c n m).length = n := by simp [marked]
theorem marked_at {β : Type} (g : Int → β) (c n : Nat) (m : Int) (d : β) (i : Nat) (h : i < n) : (marked g c n m).getD i d = g (m + (c * i : Nat)) := by
  unfold marked
  rw [List.getD_eq_getElem?_getD, List.getElem?_eq_getElem (by simpa using h)]
  simp
theorem loop_mark0 {β : Type} (F : Nat → List β → Int → Int → Option (Int × List β)) (g : Int → β) (c n B k : Nat) (m : Int) (acc : List β) (hn : n ≤ 1048576) (hc : c ≤ 10) (h0 : 0 ≤ m) (h1 : m ≤ 100000000)
    (hstep : ∀ k acc x i, B ≤ k → i < n → acc.length = n → 0 ≤ x → x ≤ 1000000000 → F (k + 1) acc x (i : Int) = F k (acc.set i (g x)) (x + c) (wrap64 ((i : Int) + 1))) (hend : ∀ k acc x, B ≤ k → acc.length = n → F (k + 1) acc x (n : Int) = some (x, acc))
    (hk : B + n < k) (ha : acc.length = n) : F k acc m 0 = some (m + (c * n : Nat), marked g c n m) := by
  have := loop_mark F g c n B m hn hc h0 h1 hstep hend n k 0 acc (by omega) hk ha
  unfold marked
  rw [List.range_eq_range']
  simpa using this
/-- A loop that looks whether marks are held. -/
theorem loop_held (F : Nat → Int → Int → Option Int) (c n B : Nat) (m : Int) (hn : n ≤ 1048576) (hc : c ≤ 10) (h0 : 0 ≤ m) (h1 : m ≤ 100000000)
    (hstep : ∀ k i, B ≤ k → i < n → 0 ≤ m + (c * i : Nat) → m + (c * i : Nat) ≤ 1000000000 → F (k + 1) (m + (c * i : Nat)) (i : Int) = F k (m + (c * i : Nat) + c) (wrap64 ((i : Int) + 1))) (hend : ∀ k x, B ≤ k → F (k + 1) x (n : Int) = some x) :
    ∀ d k i, i + d = n → B + d < k → F k (m + (c * i : Nat)) (i : Int) = some (m + (c * n : Nat)) := by
  intro d
  induction d with
  | zero =>
    intro k i h hk
    obtain ⟨k, rfl⟩ : ∃ m, k = m + 1 := ⟨k - 1, by omega⟩
    obtain rfl : i = n := by omega
    rw [hend k _ (by omega)]
  | succ d ih =>
    intro k i h hk
    obtain ⟨k, rfl⟩ : ∃ m, k = m + 1 := ⟨k - 1, by omega⟩
    have hci : c * i ≤ 10485760 := by
      have := Nat.mul_le_mul hc (show i ≤ 1048576 by omega)
      omega
    have e : m + (c * i : Nat) + (c : Int) = m + (c * (i + 1) : Nat) := by rw [Nat.mul_add, Nat.mul_one]; omega
    rw [hstep k i (by omega) (by omega) (by omega) (by omega), wrap_succ (n := n) (by omega) (by omega), e, ih k (i + 1) (by omega) (by omega)]
theorem loop_held0 (F : Nat → Int → Int → Option Int) (c n B k : Nat) (m : Int) (hn : n ≤ 1048576) (hc : c ≤ 10) (h0 : 0 ≤ m) (h1 : m ≤ 100000000)
    (hstep : ∀ k i, B ≤ k → i < n → 0 ≤ m + (c * i : Nat) → m + (c * i : Nat) ≤ 1000000000 → F (k + 1) (m + (c * i : Nat)) (i : Int) = F k (m + (c * i : Nat) + c) (wrap64 ((i : Int) + 1))) (hend : ∀ k x, B ≤ k → F (k + 1) x (n : Int) = some x)
    (hk : B + n < k) : F k m 0 = some (m + (c * n : Nat)) := by
  have := loop_held F c n B m hn hc h0 h1 hstep hend n k 0 (by omega) hk
  simpa using this
/-- A loop that compares a list with itself. -/
theorem loop_true0 (F : Nat → Int → Option Bool) (n B k : Nat) (hn : n ≤ 9223372036854775807)
    (hstep : ∀ k i, B ≤ k → i < n → F (k + 1) (i : Int) = F k (wrap64 ((i : Int) + 1))) (hend : ∀ k, B ≤ k → F (k + 1) (n : Int) = some true) (hk : B + n < k) : F k 0 = some true := by
  have := loop_all0 F (fun _ => true) true n B k hn (fun k i hk hi => by rw [hstep k i hk hi, if_pos rfl]) hend hk
  rw [this]
  simp
theorem getD_set {α : Type} (l : List α) (d : α) (i : Nat) (v : α) (h : i < l.length) : (l.set i v).getD i d = v := by
  rw [List.getD_eq_getElem?_getD, List.getElem?_set_self h]
  rfl
theorem sub_in {a : Int} {n : Nat} (h0 : 0 ≤ a) (h1 : a ≤ 1048576) (hn : n ≤ 9223372036854775807) : wrap64 (a - (n : Int)) = a - (n : Int) := wrap_in (by omega) (by omega)
end Go.Proofs.Ytkandhljbbolnaa.Pure

namespace Go.Proofs.Ytkandhljbbolnaa.Pure
open Go.RowKit Go.Proofs.Ytkandhljbbolnaa.Q Go.Proofs.YtkandhljbbolnaaL.PrintWords Go.Proofs.YtkandhljbbolnaaL.PrintLast Go.Proofs.YtkandhljbbolnaaL.PrintMore
set_option linter.unusedVariables false
set_option linter.unusedSimpArgs false
def gInt (x : Int) : Int := x
theorem p_markIntS (l : List Int) (hl : l.length ≤ 1048576) (k : Nat) (hk : 3000000 ≤ k) (m : Int) (m0 : 0 ≤ m) (m1 : m ≤ 100000000) : laws_markIntS.f k l m = some (m + (1 * l.length : Nat), marked gInt 1 l.length m) := by
  unfold laws_markIntS.f
  refine loop_mark0 (fun k acc x i => laws_markIntS.l0 k acc x i) gInt 1 l.length 100 k m l hl (by omega) m0 m1 (fun k acc x i hk hi ha g0 g1 => ?_) (fun k acc x _ ha => ?_) (by omega) rfl
  · have e1 : wrap64 (x + 1) = x + 1 := by rw [wrap_in (by omega) (by omega)]
    simp only [laws_markIntS.l0]
    rw [if_pos (by omega), if_pos (by omega), e1, Int.toNat_natCast]
    rfl
  · simp only [laws_markIntS.l0]
    rw [if_neg (by omega)]
end Go.Proofs.Ytkandhljbbolnaa.Pure

namespace Go.Proofs.Ytkandhljbbolnaa.Pure
open Go.RowKit Go.Proofs.Ytkandhljbbolnaa.Q Go.Proofs.YtkandhljbbolnaaL.PrintWords Go.Proofs.YtkandhljbbolnaaL.PrintLast Go.Proofs.YtkandhljbbolnaaL.PrintMore
set_option linter.unusedVariables false
set_option linter.unusedSimpArgs false
theorem p_heldIntS (n : Nat) (hl : n ≤ 1048576) (k : Nat) (hk : 3000000 ≤ k) (m : Int) (m0 : 0 ≤ m) (m1 : m ≤ 100000000) : laws_heldIntS.f k (marked gInt 1 n m) m = some (m + (1 * n : Nat)) := by
  unfold laws_heldIntS.f
  refine loop_held0 (fun k x i => laws_heldIntS.l0 k (marked gInt 1 n m) x i) 1 n 100 k m hl (by omega) m0 m1 (fun k i hk hi g0 g1 => ?_) (fun k x _ => ?_) (by omega)
  · generalize hx : m + ((1 * i : Nat) : Int) = x at g0 g1 ⊢
    have e1 : wrap64 (x + 1) = x + 1 := by rw [wrap_in (by omega) (by omega)]
    simp only [laws_heldIntS.l0]
    rw [if_pos (by rw [marked_length]; omega), if_pos (by omega), rd_nat, marked_at _ _ _ _ _ _ hi, hx, e1]
    simp [gInt]
  · simp only [laws_heldIntS.l0]
    rw [if_neg (by rw [marked_length]; omega)]
end Go.Proofs.Ytkandhljbbolnaa.Pure

namespace Go.Proofs.Ytkandhljbbolnaa.Pure
open Go.RowKit Go.Proofs.Ytkandhljbbolnaa.Q Go.Proofs.YtkandhljbbolnaaL.PrintWords Go.Proofs.YtkandhljbbolnaaL.PrintLast Go.Proofs.YtkandhljbbolnaaL.PrintMore
set_option linter.unusedVariables false
set_option linter.unusedSimpArgs false
theorem strOfNums_size (l : List Int) : (strOfNums l).size = l.length := by
  unfold strOfNums
  simp [ByteArray.size]
theorem markText_l0 : ∀ (d : Nat) (n : Int) (x : ByteArray), n < 10 ^ d → n ≤ 1000000000000 → x.size + d ≤ 1000 → ∃ s, ∀ k, d < k → laws_markText.l0 k n x = some s := by
  intro d
  induction d with
  | zero =>
    intro n x h hb hx
    refine ⟨(⟨#[109]⟩ : ByteArray) ++ x, fun k hk => ?_⟩
    obtain ⟨k, rfl⟩ : ∃ m, k = m + 1 := ⟨k - 1, by omega⟩
    simp only [laws_markText.l0]
    rw [if_neg (by omega), if_pos (by omega)]
  | succ d ih =>
    intro n x h hb hx
    by_cases h0 : n > 0
    · have hs : (strOfNums ([(wrap64 (48 + (Int.tmod n 10))) % 256] : List Int)).size = 1 := strOfNums_size _
      have hd : wrap64 (Int.tdiv n 10) = n / 10 := by
        rw [Int.tdiv_eq_ediv_of_nonneg (by omega), wrap_in (by omega) (by omega)]
      have hp : (10 : Int) ^ (d + 1) = 10 ^ d * 10 := Int.pow_succ _ _
      obtain ⟨s, hs'⟩ := ih (n / 10) (strOfNums ([(wrap64 (48 + (Int.tmod n 10))) % 256] : List Int) ++ x) (by omega) (by omega) (by rw [ByteArray.size_append, hs]; omega)
      refine ⟨s, fun k hk => ?_⟩
      obtain ⟨k, rfl⟩ : ∃ m, k = m + 1 := ⟨k - 1, by omega⟩
      simp only [laws_markText.l0]
      rw [if_pos h0, Option.bind_some, if_pos (by omega), hd]
      exact hs' k (by omega)
    · refine ⟨(⟨#[109]⟩ : ByteArray) ++ x, fun k hk => ?_⟩
      obtain ⟨k, rfl⟩ : ∃ m, k = m + 1 := ⟨k - 1, by omega⟩
      simp only [laws_markText.l0]
      rw [if_neg (by omega), if_pos (by omega)]
theorem markText_ex (n : Int) (hn : n ≤ 2000000000) : ∃ s, ∀ k, 30 ≤ k → laws_markText.f k n = some s := by
  by_cases h0 : n ≤ 0
  · refine ⟨(⟨#[109, 48]⟩ : ByteArray), fun k _ => ?_⟩
    unfold laws_markText.f
    rw [if_pos h0]
  · have h12 : n < (10 : Int) ^ 12 := by
      rw [show (10 : Int) ^ 12 = 1000000000000 by decide]
      omega
    obtain ⟨s, hs⟩ := markText_l0 12 n (⟨#[]⟩ : ByteArray) h12 (by omega) (by decide)
    refine ⟨s, fun k hk => ?_⟩
    unfold laws_markText.f
    rw [if_neg h0]
    exact hs k (by omega)
/-- The text of a mark. -/
def mtx (n : Int) : ByteArray := (laws_markText.f 30 n).getD ByteArray.empty
theorem p_markText (n : Int) (hn : n ≤ 2000000000) (k : Nat) (hk : 30 ≤ k) : laws_markText.f k n = some (mtx n) := by
  obtain ⟨s, hs⟩ := markText_ex n hn
  unfold mtx
  rw [hs k hk, hs 30 (by omega)]
  rfl
end Go.Proofs.Ytkandhljbbolnaa.Pure

namespace Go.Proofs.Ytkandhljbbolnaa.Pure
open Go.RowKit Go.Proofs.Ytkandhljbbolnaa.Q Go.Proofs.YtkandhljbbolnaaL.PrintWords Go.Proofs.YtkandhljbbolnaaL.PrintLast Go.Proofs.YtkandhljbbolnaaL.PrintMore
set_option linter.unusedVariables false
set_option linter.unusedSimpArgs false
theorem rd_pairI (l : List S94) (i : Nat) : rd_T94 l (i : Int) = l.getD i z94 := by
  unfold rd_T94
  rw [Int.toNat_natCast]
theorem p_eqPairS (l : List S94) (hl : l.length ≤ 2000000) (k : Nat) (hk : 3000000 ≤ k) : laws_eqPairS.f k l l = some true := by
  unfold laws_eqPairS.f
  rw [if_pos rfl]
  refine loop_true0 (fun k i => laws_eqPairS.l0 k l l i) l.length 0 k (by omega) (fun k i _ hi => ?_) (fun k _ => ?_) (by omega)
  · simp only [laws_eqPairS.l0]
    rw [if_pos (by omega), if_pos (by omega), if_pos (by omega)]
    unfold laws_eqPair.f
    simp
  · simp only [laws_eqPairS.l0]
    rw [if_neg (by omega)]
end Go.Proofs.Ytkandhljbbolnaa.Pure

namespace Go.Proofs.Ytkandhljbbolnaa.Pure
open Go.RowKit Go.Proofs.Ytkandhljbbolnaa.Q Go.Proofs.YtkandhljbbolnaaL.PrintWords Go.Proofs.YtkandhljbbolnaaL.PrintLast Go.Proofs.YtkandhljbbolnaaL.PrintMore
set_option linter.unusedVariables false
set_option linter.unusedSimpArgs false
def gPair (x : Int) : S94 := ⟨mtx (x), x + 1⟩
theorem p_markPairS (l : List S94) (hl : l.length ≤ 1048576) (k : Nat) (hk : 3000000 ≤ k) (m : Int) (m0 : 0 ≤ m) (m1 : m ≤ 100000000) : laws_markPairS.f k l m = some (m + (2 * l.length : Nat), marked gPair 2 l.length m) := by
  unfold laws_markPairS.f
  refine loop_mark0 (fun k acc x i => laws_markPairS.l0 k acc x i) gPair 2 l.length 100 k m l hl (by omega) m0 m1 (fun k acc x i hk hi ha g0 g1 => ?_) (fun k acc x _ ha => ?_) (by omega) rfl
  · have e1 : wrap64 (x + 1) = x + 1 := by rw [wrap_in (by omega) (by omega)]
    have e2 : wrap64 (x + 1 + 1) = x + 2 := by rw [wrap_in (by omega) (by omega)]; omega
    have hset : ∀ (l : List S94) (v w : S94), (l.set i v).set i w = l.set i w := fun l v w => List.set_set ..
    have hget : ∀ v : S94, (acc.set i v).getD i z94 = v := fun v => getD_set _ _ _ _ (by omega)
    simp only [laws_markPairS.l0]
    rw [if_pos (by omega), p_markText x (by omega) k (by omega), Option.bind_some, if_pos (by omega)]
    simp only [Option.bind_some, Int.toNat_natCast, rd_pairI, hget, hset, e1, e2]
    rfl
  · simp only [laws_markPairS.l0]
    rw [if_neg (by omega)]
end Go.Proofs.Ytkandhljbbolnaa.Pure

namespace Go.Proofs.Ytkandhljbbolnaa.Pure
open Go.RowKit Go.Proofs.Ytkandhljbbolnaa.Q Go.Proofs.YtkandhljbbolnaaL.PrintWords Go.Proofs.YtkandhljbbolnaaL.PrintLast Go.Proofs.YtkandhljbbolnaaL.PrintMore
set_option linter.unusedVariables false
set_option linter.unusedSimpArgs false
theorem p_heldPairS (n : Nat) (hl : n ≤ 1048576) (k : Nat) (hk : 3000000 ≤ k) (m : Int) (m0 : 0 ≤ m) (m1 : m ≤ 100000000) : laws_heldPairS.f k (marked gPair 2 n m) m = some (m + (2 * n : Nat)) := by
  unfold laws_heldPairS.f
  refine loop_held0 (fun k x i => laws_heldPairS.l0 k (marked gPair 2 n m) x i) 2 n 100 k m hl (by omega) m0 m1 (fun k i hk hi g0 g1 => ?_) (fun k x _ => ?_) (by omega)
  · generalize hx : m + ((2 * i : Nat) : Int) = x at g0 g1 ⊢
    have e1 : wrap64 (x + 1) = x + 1 := by rw [wrap_in (by omega) (by omega)]
    have e2 : wrap64 (x + 1 + 1) = x + 2 := by rw [wrap_in (by omega) (by omega)]; omega
    simp only [laws_heldPairS.l0]
    rw [if_pos (by rw [marked_length]; omega), if_pos (by omega)]
    simp only [rd_pairI, marked_at _ _ _ _ _ _ hi, hx, e1, e2]
    rw [p_markText (x) (by omega) k (by omega), Option.bind_some]
    simp [gPair]
  · simp only [laws_heldPairS.l0]
    rw [if_neg (by rw [marked_length]; omega)]
end Go.Proofs.Ytkandhljbbolnaa.Pure

namespace Go.Proofs.Ytkandhljbbolnaa.Pure
open Go.RowKit Go.Proofs.Ytkandhljbbolnaa.Q Go.Proofs.YtkandhljbbolnaaL.PrintWords Go.Proofs.YtkandhljbbolnaaL.PrintLast Go.Proofs.YtkandhljbbolnaaL.PrintMore
set_option linter.unusedVariables false
set_option linter.unusedSimpArgs false
def mFlat1 (ps : List Int) : List Int := marked gInt 1 ps.length 1
def mFlat2 (ps : List Int) (l : List S94) : List S94 := marked gPair 2 l.length (1 + (1 * ps.length : Nat))
theorem p_markFlat (ps : List Int) (l : List S94) (hp : ps.length ≤ 1048576) (hl : l.length ≤ 1048576) (k : Nat) (hk : 3000000 ≤ k) :
    laws_markFlat.f k ps l 1 = some ((1 : Int) + (1 * ps.length : Nat) + (2 * l.length : Nat), mFlat1 ps, mFlat2 ps l) := by
  unfold laws_markFlat.f
  rw [p_markIntS ps hp k hk 1 (by omega) (by omega), Option.bind_some]
  dsimp only
  rw [p_markPairS l hl k hk _ (by omega) (by omega), Option.bind_some]
  rfl
theorem p_heldFlat (ps : List Int) (l : List S94) (hp : ps.length ≤ 1048576) (hl : l.length ≤ 1048576) (k : Nat) (hk : 3000000 ≤ k) :
    laws_heldFlat.f k (mFlat1 ps) (mFlat2 ps l) 1 = some ((1 : Int) + (1 * ps.length : Nat) + (2 * l.length : Nat)) := by
  unfold laws_heldFlat.f mFlat1 mFlat2
  rw [p_heldIntS _ hp k hk 1 (by omega) (by omega), Option.bind_some, if_neg (by omega), p_heldPairS _ hl k hk _ (by omega) (by omega), Option.bind_some, if_neg (by omega)]
end Go.Proofs.Ytkandhljbbolnaa.Pure

namespace Go.Proofs.Ytkandhljbbolnaa.Pure
open Go.RowKit Go.Proofs.Ytkandhljbbolnaa.Q Go.Proofs.YtkandhljbbolnaaL.PrintWords Go.Proofs.YtkandhljbbolnaaL.PrintLast Go.Proofs.YtkandhljbbolnaaL.PrintMore
set_option linter.unusedVariables false
set_option linter.unusedSimpArgs false
theorem p_eqIntS (l : List Int) (hl : l.length ≤ 2000000) (k : Nat) (hk : 3000000 ≤ k) : laws_eqIntS.f k l l = some true := by
  unfold laws_eqIntS.f
  rw [if_pos rfl]
  refine loop_true0 (fun k i => laws_eqIntS.l0 k l l i) l.length 0 k (by omega) (fun k i _ hi => ?_) (fun k _ => ?_) (by omega)
  · simp only [laws_eqIntS.l0]
    rw [if_pos (by omega), if_pos (by omega), if_pos (by omega)]
    simp
  · simp only [laws_eqIntS.l0]
    rw [if_neg (by omega)]
end Go.Proofs.Ytkandhljbbolnaa.Pure

namespace Go.Proofs.Ytkandhljbbolnaa.Pure
open Go.RowKit Go.Proofs.Ytkandhljbbolnaa.Q Go.Proofs.YtkandhljbbolnaaL.PrintWords Go.Proofs.YtkandhljbbolnaaL.PrintLast Go.Proofs.YtkandhljbbolnaaL.PrintMore
set_option linter.unusedVariables false
set_option linter.unusedSimpArgs false
theorem p_xeqFlat (ps : List Int) (l : List S94) (hp : ps.length ≤ 2000000) (hl : l.length ≤ 2000000) (k : Nat) (hk : 3000000 ≤ k) : laws_eqFlat.f k ps l ps l = some true := by
  unfold laws_eqFlat.f
  rw [p_eqIntS ps hp k hk, Option.bind_some, if_pos rfl, p_eqPairS l hl k hk, Option.bind_some, if_pos rfl]
end Go.Proofs.Ytkandhljbbolnaa.Pure

namespace Go.Proofs.Ytkandhljbbolnaa.Pure
open Go.RowKit Go.Proofs.Ytkandhljbbolnaa.Q Go.Proofs.YtkandhljbbolnaaL.PrintWords Go.Proofs.YtkandhljbbolnaaL.PrintLast Go.Proofs.YtkandhljbbolnaaL.PrintMore
set_option linter.unusedVariables false
set_option linter.unusedSimpArgs false
theorem p_szIntS (l : List Int) (hl : l.length ≤ maxLen) (a : Int) (h0 : 0 ≤ a) (h1 : a ≤ 1048576) :
    ∃ r, laws_szIntS.f l a = some r ∧ (r < 0 ∨ 0 ≤ r ∧ r ≤ a ∧ l.length ≤ 1048576) := by
  unfold maxLen at hl
  unfold laws_szIntS.f
  rw [sub_in h0 h1 hl]
  split
  · exact ⟨-1, rfl, .inl (by omega)⟩
  · exact ⟨_, rfl, .inr ⟨by omega, by omega, by omega⟩⟩
theorem p_toIntS (l : List Int) (hl : l.length ≤ 2000000) (k : Nat) (hk : 3000000 ≤ k) : laws_toIntS.f k l = some l := by
  unfold laws_toIntS.f
  rw [if_pos (by omega), if_pos (by omega)]
  have h := loop_set0 (fun k acc i => laws_toIntS.l0 k l acc i) (fun i => l.getD i 0) l.length 0 k (List.replicate ((l.length : Int)).toNat 0) (by omega) (fun k acc i _ hi ha => ?_) (fun k acc _ => ?_) (by omega) (by simp)
  · rw [h, range_map l 0 (fun x => x), List.map_id']
  · simp only [laws_toIntS.l0]
    rw [if_pos (by omega), if_pos (by omega), if_pos (by omega), rd_nat, Int.toNat_natCast]
  · simp only [laws_toIntS.l0]
    rw [if_neg (by omega)]
end Go.Proofs.Ytkandhljbbolnaa.Pure

namespace Go.Proofs.Ytkandhljbbolnaa.Pure
open Go.RowKit Go.Proofs.Ytkandhljbbolnaa.Q Go.Proofs.YtkandhljbbolnaaL.PrintWords Go.Proofs.YtkandhljbbolnaaL.PrintLast Go.Proofs.YtkandhljbbolnaaL.PrintMore
set_option linter.unusedVariables false
set_option linter.unusedSimpArgs false
def cPair (x : S134) : S94 := ⟨x.f0, x.f1⟩
theorem rd_pairL (l : List S134) (i : Nat) : rd_T134 l (i : Int) = l.getD i z134 := by
  unfold rd_T134
  rw [Int.toNat_natCast]
theorem p_szPairS (l : List S134) (hl : l.length ≤ maxLen) (hs : ∀ x ∈ l, x.f0.size ≤ maxLen) (k : Nat) (hk : 3000000 ≤ k) (a : Int) (h0 : 0 ≤ a) (h1 : a ≤ 1048576) :
    ∃ r, laws_szPairS.f k l a = some r ∧ (r < 0 ∨ 0 ≤ r ∧ r ≤ a ∧ l.length ≤ 1048576 ∧ ∀ x ∈ l, x.f0.size ≤ 1048576) := by
  unfold maxLen at hl hs
  unfold laws_szPairS.f
  rw [sub_in h0 h1 hl]
  split
  · exact ⟨-1, rfl, .inl (by omega)⟩
  · have hh := loop_sz0 (fun k a i => laws_szPairS.l0 k l a i) l z134 (fun x => x.f0.size ≤ 1048576) 0 k (a - l.length) hl (fun k a i _ hi g0 g1 => ?_) (fun k a _ => ?_) (by omega) (by omega) (by omega)
    · obtain ⟨r, hr, hc⟩ := hh
      refine ⟨r, hr, ?_⟩
      rcases hc with hc | ⟨c0, c1, c2⟩
      · exact .inl hc
      · exact .inr ⟨c0, by omega, by omega, c2⟩
    · have hm := hs _ (getD_mem l z134 i hi)
      simp only [laws_szPairS.l0]
      rw [if_pos (by omega), if_pos (by omega), rd_pairL]
      generalize l.getD i z134 = x at hm ⊢
      have s0 := hm
      unfold laws_szPair.f
      rw [sub_in g0 g1 s0]
      by_cases q0 : a - (x.f0.size : Int) < 0
      · rw [if_pos q0]
        exact .inl rfl
      · skip
        rw [if_neg q0, Option.bind_some, if_neg q0]
        exact .inr ⟨_, by omega, by omega, by omega, rfl⟩
    · simp only [laws_szPairS.l0]
      rw [if_neg (by omega)]
theorem p_toPairS (l : List S134) (hl : l.length ≤ 2000000) (k : Nat) (hk : 3000000 ≤ k) : laws_toPairS.f k l = some (l.map cPair) := by
  unfold laws_toPairS.f
  rw [if_pos (by omega), if_pos (by omega)]
  have h := loop_set0 (fun k acc i => laws_toPairS.l0 k l acc i) (fun i => cPair (l.getD i z134)) l.length 0 k (List.replicate ((l.length : Int)).toNat z94) (by omega) (fun k acc i _ hi ha => ?_) (fun k acc _ => ?_) (by omega) (by simp)
  · rw [h, range_map]
  · simp only [laws_toPairS.l0]
    rw [if_pos (by omega), if_pos (by omega), rd_pairL]
    unfold laws_toPair.f
    rw [Option.bind_some, if_pos (by omega), Int.toNat_natCast]
    rfl
  · simp only [laws_toPairS.l0]
    rw [if_neg (by omega)]
end Go.Proofs.Ytkandhljbbolnaa.Pure

namespace Go.Proofs.Ytkandhljbbolnaa.Pure
open Go.RowKit Go.Proofs.Ytkandhljbbolnaa.Q Go.Proofs.YtkandhljbbolnaaL.PrintWords Go.Proofs.YtkandhljbbolnaaL.PrintLast Go.Proofs.YtkandhljbbolnaaL.PrintMore
set_option linter.unusedVariables false
set_option linter.unusedSimpArgs false
theorem p_szFlat (ps : List Int) (l : List S134) (hp : ps.length ≤ maxLen) (hl : l.length ≤ maxLen) (hs : ∀ x ∈ l, x.f0.size ≤ maxLen) (k : Nat) (hk : 3000000 ≤ k) :
    ∃ r, laws_szFlat.f k ps l 1048576 = some r ∧ (r < 0 ∨ 0 ≤ r ∧ ps.length ≤ 1048576 ∧ l.length ≤ 1048576 ∧ ∀ x ∈ l, x.f0.size ≤ 1048576) := by
  unfold laws_szFlat.f
  obtain ⟨r, hr, hc⟩ := p_szIntS ps hp 1048576 (by omega) (by omega)
  rw [hr, Option.bind_some]
  rcases hc with hc | ⟨c0, c1, c2⟩
  · rw [if_pos hc]
    exact ⟨-1, rfl, .inl (by omega)⟩
  · rw [if_neg (by omega)]
    obtain ⟨q, hq, hd⟩ := p_szPairS l hl hs k hk r c0 c1
    rw [hq, Option.bind_some]
    rcases hd with hd | ⟨d0, d1, d2, d3⟩
    · rw [if_pos hd]
      exact ⟨-1, rfl, .inl (by omega)⟩
    · rw [if_neg (by omega)]
      exact ⟨_, rfl, .inr ⟨d0, c2, d2, d3⟩⟩
theorem p_toFlat (ps : List Int) (l : List S134) (hp : ps.length ≤ 2000000) (hl : l.length ≤ 2000000) (k : Nat) (hk : 3000000 ≤ k) : laws_toFlat.f k ps l = some (ps, l.map cPair) := by
  unfold laws_toFlat.f
  rw [p_toIntS ps hp k hk, Option.bind_some, p_toPairS l hl k hk, Option.bind_some]
/-- What a law's flat call is. -/
theorem cPair_small {l : List S134} (h : ∀ x ∈ l, x.f0.size ≤ 1048576) : ∀ x ∈ l.map cPair, x.f0.size ≤ 2000000 := by
  intro x hx
  obtain ⟨y, hy, rfl⟩ := List.mem_map.1 hx
  exact Nat.le_trans (h y hy) (by omega)
end Go.Proofs.Ytkandhljbbolnaa.Pure
