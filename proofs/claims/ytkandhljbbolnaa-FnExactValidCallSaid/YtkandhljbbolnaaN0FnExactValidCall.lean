-- written by px.py and merge.py (programs of this claim's), over the kit's print. Not trusted: Lean checks it.
import Derived.Test.YtkandhljbbolnaaLMore
import Derived.Test.YtkandhljbbolnaaM0FnExactValidCall
import Derived.Test.YtkandhljbbolnaaM1FnExactValidCall
import Derived.Test.YtkandhljbbolnaaM5FnExactValidCall
import Derived.Test.YtkandhljbbolnaaM6FnExactValidCall
import Derived.Test.YtkandhljbbolnaaM3FnExactValidCall
import Derived.Test.YtkandhljbbolnaaM2FnExactValidCall
import Derived.Test.YtkandhljbbolnaaM4FnExactValidCall
namespace Go.Proofs.Ytkandhljbbolnaa.Pure
open Go.RowKit Go.Proofs.Ytkandhljbbolnaa.Q Go.Proofs.YtkandhljbbolnaaL.PrintWords Go.Proofs.YtkandhljbbolnaaL.PrintLast Go.Proofs.YtkandhljbbolnaaL.PrintMore
set_option linter.unusedVariables false
set_option linter.unusedSimpArgs false

/-- A number of a call. -/
def val (v : Int) : Bool := decide (-99 ≤ v) && decide (v ≤ 99)
theorem p_inRange (a lo hi : Int) : spec_inRange.f a lo hi = some (decide (lo ≤ a) && decide (a ≤ hi)) := by
  unfold spec_inRange.f
  split <;> simp [*]
theorem p_in (a lo hi : Int) : impl_in.f a lo hi = some (decide (lo ≤ a) && decide (a ≤ hi)) := by
  unfold impl_in.f
  split
  · have : lo ≤ a := by omega
    simp [this]
  · have : ¬ lo ≤ a := by omega
    simp [this]
theorem p_isValue (v : Int) : impl_isValue.f v = some (val v) := by
  unfold impl_isValue.f val
  simp [p_in]
theorem p_validNumber (v : Int) : spec_validNumber.f v = some (val v) := by
  unfold spec_validNumber.f val
  simp [p_inRange]
theorem bt_eq (s t : ByteArray) : (s.toList == t.toList) = (s.data.toList == t.data.toList) := by
  rw [ByteArray.toList_eq, ByteArray.toList_eq]
theorem bt_eqv (s t : ByteArray) : s.toList = t.toList ↔ s = t := by
  rw [ByteArray.toList_eq, ByteArray.toList_eq]
  constructor
  · intro h
    cases s; cases t
    simp only at h
    exact congrArg _ (Array.toList_inj.1 h)
  · rintro rfl; rfl
/-- A loop that ends with false at the first place that is not good. -/
theorem loop_all (F : Nat → Int → Option Bool) (P : Nat → Bool) (T : Bool) (n B : Nat) (hn : n ≤ 9223372036854775807)
    (hstep : ∀ k i, B ≤ k → i < n → F (k + 1) (i : Int) = if P i = true then F k (wrap64 ((i : Int) + 1)) else some false) (hend : ∀ k, B ≤ k → F (k + 1) (n : Int) = some T) :
    ∀ d k i, i + d = n → B + d < k → F k (i : Int) = some ((List.range' i d).all P && T) := by
  intro d
  induction d with
  | zero =>
    intro k i h hk
    obtain ⟨k, rfl⟩ : ∃ m, k = m + 1 := ⟨k - 1, by omega⟩
    obtain rfl : i = n := by omega
    rw [hend k (by omega)]
    simp
  | succ d ih =>
    intro k i h hk
    obtain ⟨k, rfl⟩ : ∃ m, k = m + 1 := ⟨k - 1, by omega⟩
    rw [hstep k i (by omega) (by omega), wrap_succ (n := n) (by omega) hn, ih k (i + 1) (by omega) (by omega), List.range'_succ, List.all_cons]
    cases P i <;> simp
theorem loop_all0 (F : Nat → Int → Option Bool) (P : Nat → Bool) (T : Bool) (n B k : Nat) (hn : n ≤ 9223372036854775807)
    (hstep : ∀ k i, B ≤ k → i < n → F (k + 1) (i : Int) = if P i = true then F k (wrap64 ((i : Int) + 1)) else some false) (hend : ∀ k, B ≤ k → F (k + 1) (n : Int) = some T)
    (hk : B + n < k) : F k 0 = some ((List.range n).all P && T) := by
  have := loop_all F P T n B hn hstep hend n k 0 (by omega) hk
  rw [List.range_eq_range']
  exact this
theorem name_loop (s : ByteArray) : ((List.range s.size).all fun i => decide (97 ≤ bt s (i : Int)) && decide (bt s (i : Int) ≤ 122)) = s.data.toList.all (fun c => decide (97 ≤ c.toNat) && decide (c.toNat ≤ 122)) := by
  rw [Bool.eq_iff_iff, List.all_eq_true, List.all_eq_true]
  constructor
  · intro h c hc
    obtain ⟨i, hi, rfl⟩ := List.mem_iff_getElem.1 hc
    have hi' : i < s.size := by simpa using hi
    have := h i (List.mem_range.2 hi')
    rw [bt_nat s i hi'] at this
    simp only [Bool.and_eq_true, decide_eq_true_eq] at this ⊢
    have e : s.data.toList[i] = s[i] := rfl
    rw [e]
    omega
  · intro h i hi
    have hi' := List.mem_range.1 hi
    have := h s[i] (by
      have : s[i] = s.data.toList[i]'(by simpa using hi') := rfl
      rw [this]; exact List.getElem_mem _)
    rw [bt_nat s i hi']
    simp only [Bool.and_eq_true, decide_eq_true_eq] at this ⊢
    omega
theorem name_size (s : ByteArray) : (decide ((1 : Int) ≤ (s.size : Int)) && decide ((s.size : Int) ≤ 6)) = (decide (1 ≤ s.size) && decide (s.size ≤ 6)) := by
  rw [Bool.eq_iff_iff]
  simp only [Bool.and_eq_true, decide_eq_true_eq]
  omega
theorem p_validName (s : ByteArray) (hs : s.size ≤ 9223372036854775807) (k : Nat) (hk : s.size < k) : spec_validName.f k s = some (pxName s) := by
  unfold spec_validName.f pxName
  rw [← name_loop]
  refine loop_all0 (fun k i => spec_validName.l0 k s i) _ _ s.size 0 k hs (fun k i _ hi => ?_) (fun k _ => ?_) (by omega)
  · simp only [spec_validName.l0]
    rw [if_pos (by omega), if_pos (by omega)]
    by_cases h1 : bt s (i : Int) < 97
    · have : ¬ 97 ≤ bt s (i : Int) := by omega
      simp [h1, this]
    · have h1' : 97 ≤ bt s (i : Int) := by omega
      by_cases h2 : bt s (i : Int) > 122
      · have : ¬ bt s (i : Int) ≤ 122 := by omega
        simp [h1, h2, this]
      · have : bt s (i : Int) ≤ 122 := by omega
        simp [h1, h2, this, h1']
  · simp only [spec_validName.l0]
    rw [if_neg (by omega), p_inRange, Option.bind_some, name_size]
theorem p_isName (s : ByteArray) (hs : s.size ≤ 9223372036854775807) (k : Nat) (hk : s.size < k) : impl_isName.f k s = some (pxName s) := by
  unfold impl_isName.f pxName
  rw [← name_loop]
  refine loop_all0 (fun k i => impl_isName.l0 k s i) _ _ s.size 0 k hs (fun k i _ hi => ?_) (fun k _ => ?_) (by omega)
  · simp only [impl_isName.l0]
    rw [if_pos (by omega), if_pos (by omega)]
    by_cases h1 : bt s (i : Int) < 97
    · have : ¬ 97 ≤ bt s (i : Int) := by omega
      simp [h1, this]
    · have h1' : 97 ≤ bt s (i : Int) := by omega
      by_cases h2 : bt s (i : Int) > 122
      · have : ¬ bt s (i : Int) ≤ 122 := by omega
        simp [h1, h2, this]
      · have : bt s (i : Int) ≤ 122 := by omega
        simp [h1, h2, this, h1']
  · simp only [impl_isName.l0]
    rw [if_neg (by omega), p_in, Option.bind_some, name_size]

theorem wrap_in {n : Int} (h1 : -9223372036854775808 ≤ n) (h2 : n ≤ 9223372036854775807) : wrap64 n = n := by
  unfold wrap64
  omega
end Go.Proofs.Ytkandhljbbolnaa.Pure

namespace Go.Proofs.Ytkandhljbbolnaa.Pure
open Go.RowKit Go.Proofs.Ytkandhljbbolnaa.Q Go.Proofs.YtkandhljbbolnaaL.PrintWords Go.Proofs.YtkandhljbbolnaaL.PrintLast Go.Proofs.YtkandhljbbolnaaL.PrintMore
set_option linter.unusedVariables false
set_option linter.unusedSimpArgs false
theorem range_all {α : Type} (l : List α) (d : α) (p : α → Bool) : ((List.range l.length).all fun i => p (l.getD i d)) = l.all p := by
  rw [Bool.eq_iff_iff, List.all_eq_true, List.all_eq_true]
  constructor
  · intro h x hx
    obtain ⟨i, hi, rfl⟩ := List.mem_iff_getElem.1 hx
    have := h i (List.mem_range.2 hi)
    rwa [List.getD_eq_getElem?_getD, List.getElem?_eq_getElem hi] at this
  · intro h i hi
    have hi' := List.mem_range.1 hi
    rw [List.getD_eq_getElem?_getD, List.getElem?_eq_getElem hi']
    exact h _ (List.getElem_mem _)
theorem getD_mem {α : Type} (l : List α) (d : α) (i : Nat) (h : i < l.length) : l.getD i d ∈ l := by
  rw [List.getD_eq_getElem?_getD, List.getElem?_eq_getElem h]
  exact List.getElem_mem _
theorem rd_nat (l : List Int) (i : Nat) : rd l (i : Int) = l.getD i 0 := by
  unfold Go.Proofs.YtkandhljbbolnaaL.PrintWords.rd
  rw [Int.toNat_natCast]
theorem rdOf_nat {α : Type} (d : α) (l : List α) (i : Nat) : rdOf d l (i : Int) = l.getD i d := by
  unfold rdOf
  rw [Int.toNat_natCast]
/-- A loop that looks for the first one. -/
theorem loop_find {α : Type} (F : Nat → Int → Option Int) (l : List α) (d : α) (p : α → Bool) (B : Nat) (hn : l.length ≤ 9223372036854775807)
    (hstep : ∀ k i, B ≤ k → i < l.length → F (k + 1) (i : Int) = if p (l.getD i d) = true then some (i : Int) else F k (wrap64 ((i : Int) + 1))) (hend : ∀ k, B ≤ k → F (k + 1) (l.length : Int) = some (-1)) :
    ∀ e k i, i + e = l.length → B + e < k → (∀ j, j < i → p (l.getD j d) = false) → F k (i : Int) = some (pxIdx p l) := by
  intro e
  induction e with
  | zero =>
    intro k i h hk hm
    obtain ⟨k, rfl⟩ : ∃ m, k = m + 1 := ⟨k - 1, by omega⟩
    obtain rfl : i = l.length := by omega
    rw [hend k (by omega), pxIdx_miss p l d hm]
  | succ e ih =>
    intro k i h hk hm
    obtain ⟨k, rfl⟩ : ∃ m, k = m + 1 := ⟨k - 1, by omega⟩
    rw [hstep k i (by omega) (by omega)]
    cases hq : p (l.getD i d) with
    | true => rw [if_pos rfl, pxIdx_hit p l d i (by omega) hq hm]
    | false =>
      rw [if_neg (by simp), wrap_succ (n := l.length) (by omega) hn]
      refine ih k (i + 1) (by omega) (by omega) (fun j hj => ?_)
      by_cases e : j = i
      · rw [e]; exact hq
      · exact hm j (by omega)
theorem loop_find0 {α : Type} (F : Nat → Int → Option Int) (l : List α) (d : α) (p : α → Bool) (B k : Nat) (hn : l.length ≤ 9223372036854775807)
    (hstep : ∀ k i, B ≤ k → i < l.length → F (k + 1) (i : Int) = if p (l.getD i d) = true then some (i : Int) else F k (wrap64 ((i : Int) + 1))) (hend : ∀ k, B ≤ k → F (k + 1) (l.length : Int) = some (-1))
    (hk : B + l.length < k) : F k 0 = some (pxIdx p l) :=
  loop_find F l d p B hn hstep hend l.length k 0 (by omega) hk (fun j hj => absurd hj (Nat.not_lt_zero _))
theorem pxIdx_range {α : Type} (p : α → Bool) (l : List α) : pxIdx p l = -1 ∨ ∃ i : Nat, i < l.length ∧ pxIdx p l = (i : Int) := by
  unfold pxIdx
  cases h : l.findIdx? p with
  | none => exact .inl rfl
  | some i =>
    rw [List.findIdx?_eq_some_iff_getElem] at h
    exact .inr ⟨i, h.1, rfl⟩
end Go.Proofs.Ytkandhljbbolnaa.Pure

namespace Go.Proofs.Ytkandhljbbolnaa.Pure
open Go.RowKit Go.Proofs.Ytkandhljbbolnaa.Q Go.Proofs.YtkandhljbbolnaaL.PrintWords Go.Proofs.YtkandhljbbolnaaL.PrintLast Go.Proofs.YtkandhljbbolnaaL.PrintMore
set_option linter.unusedVariables false
set_option linter.unusedSimpArgs false
abbrev PR := S94
abbrev pz : PR := z94
theorem rdp (l : List PR) (i : Nat) : rd_T94 l (i : Int) = l.getD i pz := by
  unfold rd_T94
  rw [Int.toNat_natCast]
theorem p_validNumbers (l : List Int) (hl : l.length ≤ 2000000) (k : Nat) (hk : 3000000 ≤ k) : spec_validNumbers.f k l = some (l.all val) := by
  unfold spec_validNumbers.f
  rw [← range_all l 0 val, ← Bool.and_true (List.all _ _)]
  refine loop_all0 (fun k i => spec_validNumbers.l0 k l i) _ _ l.length 0 k (by omega) (fun k i _ hi => ?_) (fun k _ => ?_) (by omega)
  · simp only [spec_validNumbers.l0]
    rw [if_pos (by omega), if_pos (by omega), p_validNumber, Option.bind_some, rd_nat]
  · simp only [spec_validNumbers.l0]
    rw [if_neg (by omega)]
theorem p_areValues (l : List Int) : impl_areValues.f l = some (l.all val) := by
  unfold impl_areValues.f
  rw [Option.some.injEq, List.not_any_eq_all_not]
  simp only [Bool.not_not]
  rfl
theorem p_specPairAt (l : List PR) (s : ByteArray) (hl : l.length ≤ 2000000) (k : Nat) (hk : 3000000 ≤ k) : spec_pairAt.f k l s = some (pxIdx (fun x : PR => x.f0.toList == s.toList) l) := by
  unfold spec_pairAt.f
  refine loop_find0 (fun k i => spec_pairAt.l0 k l s i) l pz _ 0 k (by omega) (fun k i _ hi => ?_) (fun k _ => ?_) (by omega)
  · simp only [spec_pairAt.l0]
    rw [if_pos (by omega), if_pos (by omega), rdp]
    simp only [beq_iff_eq]
  · simp only [spec_pairAt.l0]
    rw [if_neg (by omega)]
/-- What a pair must be. -/
def pairOk (x : PR) : Bool := pxName x.f0 && val x.f1
def freshAt (l : List PR) (i : Nat) : Bool := !((l.take i).any fun x => x.f0.toList == (l.getD i pz).f0.toList)
def vflat (ps : List Int) (l : List PR) : Bool := (List.range l.length).all (freshAt l) && (ps.all val && l.all pairOk && decide (ps.length ≤ 8) && decide (l.length ≤ 8))
theorem p_validPairs (l : List PR) (hl : l.length ≤ 2000000) (hs : ∀ x ∈ l, x.f0.size ≤ 2000000) (k : Nat) (hk : 6000000 ≤ k) : spec_validPairs.f k l = some (l.all pairOk) := by
  unfold spec_validPairs.f
  rw [← range_all l pz pairOk, ← Bool.and_true (List.all _ _)]
  refine loop_all0 (fun k i => spec_validPairs.l0 k l i) _ _ l.length 3000000 k (by omega) (fun k i hk hi => ?_) (fun k _ => ?_) (by omega)
  · simp only [spec_validPairs.l0]
    have hsz := hs _ (getD_mem l pz i hi)
    rw [if_pos (by omega), if_pos (by omega), rdp, p_validName _ (by omega) k (by omega), Option.bind_some, p_validNumber, Option.bind_some]
    unfold pairOk
    cases pxName (l.getD i pz).f0 <;> cases val (l.getD i pz).f1 <;> simp
  · simp only [spec_validPairs.l0]
    rw [if_neg (by omega)]
theorem freshAt_idx (l : List PR) (i : Nat) : freshAt l i = !decide (pxIdx (fun x : PR => x.f0.toList == (l.getD i pz).f0.toList) (l.take i) ≥ 0) := by
  rw [pxIdx_any]; rfl
theorem int_le8 (n : Nat) : decide ((n : Int) ≤ 8) = decide (n ≤ 8) := by
  rw [decide_eq_decide]; omega
theorem p_specFlat (ps : List Int) (l : List PR) (hp : ps.length ≤ 2000000) (hl : l.length ≤ 2000000) (hs : ∀ x ∈ l, x.f0.size ≤ 2000000) (k : Nat) (hk : 9000000 ≤ k) : spec_validFlat.f k ps l = some (vflat ps l) := by
  unfold spec_validFlat.f vflat
  refine loop_all0 (fun k i => spec_validFlat.l0 k i ps l) _ _ l.length 6000000 k (by omega) (fun k i hk hi => ?_) (fun k hk => ?_) (by omega)
  · simp only [spec_validFlat.l0]
    rw [if_pos (by omega), if_pos (by omega), if_pos (by omega), Int.toNat_natCast, rdp, p_specPairAt _ _ (by rw [List.length_take]; omega) k (by omega), Option.bind_some, freshAt_idx]
    generalize pxIdx (fun x : PR => x.f0.toList == (l.getD i pz).f0.toList) (l.take i) = q
    by_cases h : q ≥ 0
    · rw [if_pos h, if_neg (by simp [h])]
    · rw [if_neg h, if_pos (by simp [h])]
  · simp only [spec_validFlat.l0]
    rw [if_neg (by omega), p_validNumbers ps hp k (by omega), Option.bind_some, p_validPairs l hl hs k hk, Option.bind_some, int_le8]
    cases ps.all val <;> cases l.all pairOk <;> by_cases h : ps.length ≤ 8 <;> simp [h] <;> omega
theorem p_pairValid (s : ByteArray) (v : Int) (hs : s.size ≤ 2000000) (k : Nat) (hk : 3000000 ≤ k) : impl_Pair_valid.f k s v = some (pxName s && val v) := by
  unfold impl_Pair_valid.f
  rw [p_isName s (by omega) k (by omega), Option.bind_some, p_isValue, Option.bind_some]
  cases pxName s <;> simp
theorem and_range (n : Nat) (p q : Nat → Bool) : ((List.range n).all fun i => p i && q i) = ((List.range n).all p && (List.range n).all q) := by
  induction n with
  | zero => rfl
  | succ n ih =>
    simp only [List.range_succ, List.all_append, List.all_cons, List.all_nil, ih]
    cases (List.range n).all p <;> cases (List.range n).all q <;> cases p n <;> cases q n <;> rfl
theorem p_implFlat (ps : List Int) (l : List PR) (hl : l.length ≤ 2000000) (hs : ∀ x ∈ l, x.f0.size ≤ 2000000) (k : Nat) (hk : 9000000 ≤ k) : impl_ValidFlat.f k ps l = some (vflat ps l) := by
  unfold impl_ValidFlat.f
  have e : vflat ps l = (((List.range l.length).all fun i => pairOk (l.getD i pz) && freshAt l i) && (decide (ps.length ≤ 8) && decide (l.length ≤ 8) && ps.all val)) := by
    rw [and_range, range_all l pz pairOk]
    unfold vflat
    cases (List.range l.length).all (freshAt l) <;> cases ps.all val <;> cases l.all pairOk <;> cases decide (ps.length ≤ 8) <;> cases decide (l.length ≤ 8) <;> rfl
  rw [e]
  refine loop_all0 (fun k i => impl_ValidFlat.l0 k l (l.length : Int) i ps l) _ _ l.length 6000000 k (by omega) (fun k i hk hi => ?_) (fun k hk => ?_) (by omega)
  · simp only [impl_ValidFlat.l0]
    have hsz := hs _ (getD_mem l pz i hi)
    rw [if_pos (by omega), if_pos (by omega), if_pos (by omega), rdp, p_pairValid _ _ hsz k (by omega), Option.bind_some, if_pos (show (i : Int) ≤ (l.length : Int) by omega), Int.toNat_natCast]
    unfold impl_pairAt.f
    rw [Option.bind_some, freshAt_idx]
    unfold pairOk
    cases pxName (l.getD i pz).f0 && val (l.getD i pz).f1 with
    | false => simp
    | true =>
      generalize pxIdx (fun x : PR => x.f0.toList == (l.getD i pz).f0.toList) (l.take i) = q
      by_cases h : q ≥ 0
      · simp [h]
      · simp [h]
  · simp only [impl_ValidFlat.l0]
    rw [if_neg (by omega), p_areValues, Option.bind_some]
    by_cases h1 : ps.length ≤ 8
    · rw [if_pos (by omega)]
      by_cases h2 : l.length ≤ 8
      · rw [if_pos (by omega)]
        simp [h1, h2]
      · rw [if_neg (by omega)]
        simp [h2]
    · rw [if_neg (by omega)]
      simp [h1]
end Go.Proofs.Ytkandhljbbolnaa.Pure

namespace Go.Proofs.Ytkandhljbbolnaa.Pure
open Go.RowKit Go.Proofs.Ytkandhljbbolnaa.Q Go.Proofs.YtkandhljbbolnaaL.PrintWords Go.Proofs.YtkandhljbbolnaaL.PrintLast Go.Proofs.YtkandhljbbolnaaL.PrintMore
set_option linter.unusedVariables false
set_option linter.unusedSimpArgs false
abbrev AR := S110
abbrev az : AR := z110
theorem rda (l : List AR) (i : Nat) : rd_T110 l (i : Int) = l.getD i az := by
  unfold rd_T110
  rw [Int.toNat_natCast]
def SmArg (x : AR) : Prop := x.f1.size ≤ 2000000 ∧ x.f2.length ≤ 2000000 ∧ x.f3.length ≤ 2000000 ∧ ∀ y ∈ x.f3, y.f0.size ≤ 2000000
def argB (x : AR) : Bool := pxArg x.f0 x.f1 x.f2 x.f3
theorem arg_range {x : AR} (h : argB x = true) : x.f0 = 0 ∨ x.f0 = 1 ∨ x.f0 = 2 ∨ x.f0 = 3 := by
  unfold argB pxArg at h
  by_cases h0 : x.f0 = 0
  · exact .inl h0
  by_cases h1 : x.f0 = 1
  · exact .inr (.inl h1)
  by_cases h2 : x.f0 = 2
  · exact .inr (.inr (.inl h2))
  by_cases h3 : x.f0 = 3
  · exact .inr (.inr (.inr h3))
  rw [if_neg h0, if_neg h1, if_neg h2, if_neg h3] at h
  cases h
theorem p_implArg (x : AR) (hs : SmArg x) : impl_Arg_valid.f x.f0 x.f1 x.f2 x.f3 = some (argB x) := by
  unfold impl_Arg_valid.f
  rw [if_pos]
  · rfl
  · obtain ⟨h1, h2, h3, h4⟩ := hs
    rw [Bool.and_eq_true, List.all_eq_true, decide_eq_true_eq]
    exact ⟨fun y hy => decide_eq_true (Nat.le_trans (h4 y hy) (by omega)), by omega⟩
theorem vals_eq (l : List Int) : pxVals l = l.all val := Option.some.inj (p_areValues l)
theorem pairs_eq (m : List PR) : (!m.any fun x => !pxPairOk x) = m.all pairOk := by
  rw [List.not_any_eq_all_not]
  simp only [Bool.not_not]
  rfl
theorem p_specArg (x : AR) (hs : SmArg x) (k : Nat) (hk : 6000000 ≤ k) : spec_validArg.f k x.f0 x.f1 x.f2 x.f3 = some (argB x) := by
  obtain ⟨a, b, l, m⟩ := x
  obtain ⟨h1, h2, h3, h4⟩ := hs
  dsimp only at h1 h2 h3 h4 ⊢
  unfold spec_validArg.f argB pxArg
  dsimp only
  rw [p_validNumbers l h2 k (by omega), p_validName b (by omega) k (by omega), p_validPairs m h3 h4 k hk, vals_eq, pairs_eq]
  simp only [Option.bind_some]
  have i0 : ((m.length : Int) == 0) = (m.length == 0) := by rw [Bool.eq_iff_iff]; simp
  have i1 : ((l.length : Int) = 1) ↔ l.length = 1 := by omega
  have i2 : ((l.length : Int) ≤ 8) ↔ l.length ≤ 8 := by omega
  have i3 : ((l.length : Int) = 0) ↔ l.length = 0 := by omega
  have i4 : ((m.length : Int) ≤ 8) ↔ m.length ≤ 8 := by omega
  rw [i0]
  simp only [i1, i2, i3, i4]
  generalize l.all val = v
  generalize m.all pairOk = u
  generalize (m.length == 0) = z
  by_cases e0 : a = 0
  · rw [if_pos e0, if_pos e0]
    by_cases c1 : b.toList = []
    · rw [if_pos c1]
      by_cases c2 : l.length = 1
      · rw [if_pos c2]
        cases v <;> cases z <;> simp [c1, c2]
      · rw [if_neg c2]
        simp [c1, c2]
    · rw [if_neg c1]
      simp [c1]
  rw [if_neg e0, if_neg e0]
  by_cases e1 : a = 1
  · rw [if_pos e1, if_pos e1]
    by_cases c1 : b.toList = []
    · rw [if_pos c1]
      by_cases c2 : l.length ≤ 8
      · rw [if_pos c2]
        cases v <;> cases z <;> simp [c1, c2]
      · rw [if_neg c2]
        simp [c1, c2]
    · rw [if_neg c1]
      simp [c1]
  rw [if_neg e1, if_neg e1]
  by_cases e2 : a = 2
  · rw [if_pos e2, if_pos e2]
    cases pxName b with
    | false => simp
    | true =>
      rw [if_pos rfl]
      by_cases c2 : l.length = 1
      · rw [if_pos c2]
        cases v <;> cases z <;> simp [c2]
      · rw [if_neg c2]
        simp [c2]
  rw [if_neg e2, if_neg e2]
  by_cases e3 : a = 3
  · rw [if_pos e3, if_pos e3]
    by_cases c1 : b.toList = []
    · rw [if_pos c1]
      by_cases c2 : l.length = 0
      · rw [if_pos c2]
        by_cases c3 : m.length ≤ 8
        · rw [if_pos c3]
          simp [c1, c2, c3]
        · rw [if_neg c3]
          simp [c3]
      · rw [if_neg c2]
        simp [c2]
    · rw [if_neg c1]
      simp [c1]
  rw [if_neg e3, if_neg e3]
def callAt (l : List AR) (i : Nat) : Bool := argB (l.getD i az) && (i == 0 || !(decide ((l.getD i az).f0 < 2) && decide ((l.getD (i - 1) az).f0 ≥ 2)))
def vcall (l : List AR) : Bool := (List.range l.length).all (callAt l) && decide (l.length ≤ 16)
theorem int_le16 (n : Nat) : decide ((n : Int) ≤ 16) = decide (n ≤ 16) := by
  rw [decide_eq_decide]; omega
theorem p_specCall (l : List AR) (hl : l.length ≤ 2000000) (hs : ∀ x ∈ l, SmArg x) (k : Nat) (hk : 9000000 ≤ k) : spec_validCall.f k l = some (vcall l) := by
  unfold spec_validCall.f vcall
  rw [← int_le16]
  refine loop_all0 (fun k i => spec_validCall.l0 k i l) (callAt l) _ l.length 6000000 k (by omega) (fun k i hk hi => ?_) (fun k _ => ?_) (by omega)
  · simp only [spec_validCall.l0]
    rw [if_pos (by omega), if_pos (by omega), rda, p_specArg _ (hs _ (getD_mem l az i hi)) k (by omega), Option.bind_some]
    unfold callAt
    cases argB (l.getD i az) with
    | false => rfl
    | true =>
      rw [if_pos rfl]
      by_cases h0 : i = 0
      · subst h0
        rw [if_neg (by omega)]
        simp
      · have hp : wrap64 ((i : Int) - 1) = ((i - 1 : Nat) : Int) := by rw [wrap_in (by omega) (by omega)]; omega
        have hz : (i == 0) = false := by simpa using h0
        rw [if_pos (by omega), hp, rda, hz]
        by_cases h2 : (l.getD i az).f0 < 2
        · rw [if_pos h2, if_pos (by omega), if_pos (by omega)]
          by_cases h3 : (l.getD (i - 1) az).f0 ≥ 2
          · rw [if_pos h3, decide_eq_true h2, decide_eq_true h3]
            rfl
          · rw [if_neg h3, decide_eq_true h2, decide_eq_false h3]
            rfl
        · rw [if_neg h2, decide_eq_false h2]
          rfl
  · simp only [spec_validCall.l0]
    rw [if_neg (by omega)]
theorem p_implCall_l0 (l : List AR) (hl : l.length ≤ 2000000) (hs : ∀ x ∈ l, SmArg x) : ∀ (d k i : Nat) (x3 : Bool), i + d = l.length → x3 = (decide (0 < i) && decide ((l.getD (i - 1) az).f0 ≥ 2)) → d < k →
    impl_ValidCall.l0 k x3 l (l.length : Int) (i : Int) l = some ((List.range' i d).all (callAt l) && decide (l.length ≤ 16)) := by
  intro d
  induction d with
  | zero =>
    intro k i x3 h hx hk
    obtain ⟨k, rfl⟩ : ∃ m, k = m + 1 := ⟨k - 1, by omega⟩
    simp only [impl_ValidCall.l0]
    rw [if_neg (by omega), int_le16]
    simp
  | succ d ih =>
    intro k i x3 h hx hk
    obtain ⟨k, rfl⟩ : ∃ m, k = m + 1 := ⟨k - 1, by omega⟩
    simp only [impl_ValidCall.l0]
    rw [if_pos (by omega), if_pos (by omega), if_pos (by omega), rda, p_implArg _ (hs _ (getD_mem l az i (by omega))), Option.bind_some, Option.bind_some, wrap_succ (n := l.length) (by omega) (by omega), List.range'_succ, List.all_cons]
    have next : ∀ b : Bool, b = decide ((l.getD i az).f0 ≥ 2) → impl_ValidCall.l0 k b l (l.length : Int) ((i + 1 : Nat) : Int) l = some ((List.range' (i + 1) d).all (callAt l) && decide (l.length ≤ 16)) := by
      intro b hb
      refine ih k (i + 1) b (by omega) ?_ (by omega)
      rw [hb, Nat.add_sub_cancel]
      simp
    unfold callAt at next ⊢
    generalize ((List.range' (i + 1) d).all fun i => argB (l.getD i az) && (i == 0 || !(decide ((l.getD i az).f0 < 2) && decide ((l.getD (i - 1) az).f0 ≥ 2)))) = R at next ⊢
    have hr := @arg_range (l.getD i az)
    generalize l.getD i az = x at hr next ⊢
    have hi0 : x3 = true → (i == 0) = false := by
      intro e
      rw [e] at hx
      have := (Bool.and_eq_true _ _ ▸ hx.symm : _ ∧ _).1
      have := of_decide_eq_true this
      simp; omega
    cases hb : argB x with
    | false =>
      by_cases h2 : x.f0 = 2
      · rw [if_pos h2]; rfl
      · rw [if_neg h2]; rfl
    | true =>
      have hr := hr hb
      by_cases h2 : x.f0 = 2
      · rw [if_pos h2, if_pos rfl, ite_self, next true (by rw [h2]; rfl), h2]
        simp
      · rw [if_neg h2, if_pos rfl]
        by_cases h3 : x.f0 = 3
        · rw [if_pos h3, ite_self, next (x.f0 == 3) (by rw [h3]; rfl), h3]
          simp
        · have lt : x.f0 < 2 := by omega
          have nge : ¬ x.f0 ≥ 2 := by omega
          rw [if_neg h3, next (x.f0 == 3) (by rw [decide_eq_false nge]; simpa using h3)]
          cases x3 with
          | true =>
            rw [if_pos rfl, hi0 rfl]
            have := (Bool.and_eq_true _ _ ▸ hx.symm : _ ∧ _).2
            rw [this, decide_eq_true lt]
            rfl
          | false =>
            rw [if_neg (by decide), decide_eq_true lt]
            have : (i == 0 || !(true && decide ((l.getD (i - 1) az).f0 ≥ 2))) = true := by
              by_cases h0 : i = 0
              · simp [h0]
              · have hp : decide (0 < i) = true := decide_eq_true (by omega)
                rw [hp, Bool.true_and] at hx
                rw [← hx]
                simp
            rw [this]
            simp
theorem p_implCall (l : List AR) (hl : l.length ≤ 2000000) (hs : ∀ x ∈ l, SmArg x) (k : Nat) (hk : 9000000 ≤ k) : impl_ValidCall.f k l = some (vcall l) := by
  unfold impl_ValidCall.f vcall
  have := p_implCall_l0 l hl hs l.length k 0 false (by omega) (by simp) (by omega)
  rw [List.range_eq_range']
  exact this
end Go.Proofs.Ytkandhljbbolnaa.Pure

namespace Go.Proofs.Ytkandhljbbolnaa.Pure
open Go.RowKit Go.Proofs.Ytkandhljbbolnaa.Q Go.Proofs.YtkandhljbbolnaaL.PrintWords Go.Proofs.YtkandhljbbolnaaL.PrintLast Go.Proofs.YtkandhljbbolnaaL.PrintMore
set_option linter.unusedVariables false
set_option linter.unusedSimpArgs false
/-- A loop that writes its list, place by place. -/
theorem loop_set {β : Type} (F : Nat → List β → Int → Option (List β)) (g : Nat → β) (n B : Nat) (hn : n ≤ 9223372036854775807)
    (hstep : ∀ k acc i, B ≤ k → i < n → acc.length = n → F (k + 1) acc (i : Int) = F k (acc.set i (g i)) (wrap64 ((i : Int) + 1))) (hend : ∀ k acc, B ≤ k → F (k + 1) acc (n : Int) = some acc) :
    ∀ d k i acc, i + d = n → B + d < k → acc.length = n → F k acc (i : Int) = some (acc.take i ++ (List.range' i d).map g) := by
  intro d
  induction d with
  | zero =>
    intro k i acc h hk ha
    obtain ⟨k, rfl⟩ : ∃ m, k = m + 1 := ⟨k - 1, by omega⟩
    obtain rfl : i = n := by omega
    rw [hend k acc (by omega), List.take_of_length_le (by omega)]
    simp
  | succ d ih =>
    intro k i acc h hk ha
    obtain ⟨k, rfl⟩ : ∃ m, k = m + 1 := ⟨k - 1, by omega⟩
    rw [hstep k acc i (by omega) (by omega) ha, wrap_succ (n := n) (by omega) hn, ih k (i + 1) _ (by omega) (by omega) (by rw [List.length_set]; exact ha), List.range'_succ, List.map_cons]
    rw [List.take_succ_eq_append_getElem (by rw [List.length_set]; omega), List.take_set_of_le (by omega)]
    simp
theorem loop_set0 {β : Type} (F : Nat → List β → Int → Option (List β)) (g : Nat → β) (n B k : Nat) (acc : List β) (hn : n ≤ 9223372036854775807)
    (hstep : ∀ k acc i, B ≤ k → i < n → acc.length = n → F (k + 1) acc (i : Int) = F k (acc.set i (g i)) (wrap64 ((i : Int) + 1))) (hend : ∀ k acc, B ≤ k → F (k + 1) acc (n : Int) = some acc)
    (hk : B + n < k) (ha : acc.length = n) : F k acc 0 = some ((List.range n).map g) := by
  have := loop_set F g n B hn hstep hend n k 0 acc (by omega) hk ha
  rw [List.range_eq_range']
  simpa using this
theorem range_map {α β : Type} (l : List α) (d : α) (g : α → β) : (List.range l.length).map (fun i => g (l.getD i d)) = l.map g := by
  apply List.ext_getElem
  · simp
  · intro i h1 h2
    simp only [List.getElem_map, List.getElem_range]
    have : i < l.length := by simpa using h2
    rw [List.getD_eq_getElem?_getD, List.getElem?_eq_getElem this]
    rfl
/-- A loop that counts down from a number, and ends early below 0. -/
theorem loop_sz {α : Type} (F : Nat → Int → Int → Option Int) (l : List α) (d : α) (P : α → Prop) (B : Nat) (hn : l.length ≤ 9223372036854775807)
    (hstep : ∀ k a i, B ≤ k → i < l.length → 0 ≤ a → a ≤ 1048576 → F (k + 1) a (i : Int) = some (-1) ∨ ∃ a', 0 ≤ a' ∧ a' ≤ a ∧ P (l.getD i d) ∧ F (k + 1) a (i : Int) = F k a' (wrap64 ((i : Int) + 1)))
    (hend : ∀ k a, B ≤ k → F (k + 1) a (l.length : Int) = some a) :
    ∀ e k i a, i + e = l.length → B + e < k → 0 ≤ a → a ≤ 1048576 → ∃ r, F k a (i : Int) = some r ∧ (r < 0 ∨ 0 ≤ r ∧ r ≤ a ∧ ∀ j, i ≤ j → j < l.length → P (l.getD j d)) := by
  intro e
  induction e with
  | zero =>
    intro k i a h hk h0 h1
    obtain ⟨k, rfl⟩ : ∃ m, k = m + 1 := ⟨k - 1, by omega⟩
    obtain rfl : i = l.length := by omega
    exact ⟨a, hend k a (by omega), .inr ⟨h0, Int.le_refl _, fun j h1 h2 => by omega⟩⟩
  | succ e ih =>
    intro k i a h hk h0 h1
    obtain ⟨k, rfl⟩ : ∃ m, k = m + 1 := ⟨k - 1, by omega⟩
    rcases hstep k a i (by omega) (by omega) h0 h1 with hf | ⟨a', g0, g1, hp, hf⟩
    · exact ⟨-1, hf, .inl (by omega)⟩
    · rw [hf, wrap_succ (n := l.length) (by omega) hn]
      obtain ⟨r, hr, hc⟩ := ih k (i + 1) a' (by omega) (by omega) g0 (by omega)
      refine ⟨r, hr, ?_⟩
      rcases hc with hc | ⟨c0, c1, c2⟩
      · exact .inl hc
      · refine .inr ⟨c0, by omega, fun j h1 h2 => ?_⟩
        by_cases e : j = i
        · rw [e]; exact hp
        · exact c2 j (by omega) h2
theorem loop_sz0 {α : Type} (F : Nat → Int → Int → Option Int) (l : List α) (d : α) (P : α → Prop) (B k : Nat) (a : Int) (hn : l.length ≤ 9223372036854775807)
    (hstep : ∀ k a i, B ≤ k → i < l.length → 0 ≤ a → a ≤ 1048576 → F (k + 1) a (i : Int) = some (-1) ∨ ∃ a', 0 ≤ a' ∧ a' ≤ a ∧ P (l.getD i d) ∧ F (k + 1) a (i : Int) = F k a' (wrap64 ((i : Int) + 1)))
    (hend : ∀ k a, B ≤ k → F (k + 1) a (l.length : Int) = some a) (hk : B + l.length < k) (h0 : 0 ≤ a) (h1 : a ≤ 1048576) :
    ∃ r, F k a 0 = some r ∧ (r < 0 ∨ 0 ≤ r ∧ r ≤ a ∧ ∀ x ∈ l, P x) := by
  obtain ⟨r, hr, hc⟩ := loop_sz F l d P B hn hstep hend l.length k 0 a (by omega) hk h0 h1
  refine ⟨r, hr, ?_⟩
  rcases hc with hc | ⟨c0, c1, c2⟩
  · exact .inl hc
  · refine .inr ⟨c0, c1, fun x hx => ?_⟩
    obtain ⟨j, hj, rfl⟩ := List.mem_iff_getElem.1 hx
    have := c2 j (by omega) hj
    rwa [List.getD_eq_getElem?_getD, List.getElem?_eq_getElem hj] at this
/-- A loop that marks. -/
theorem loop_mark {β : Type} (F : Nat → List β → Int → Int → Option (Int × List β)) (g : Int → β) (c n B : Nat) (m : Int) (hn : n ≤ 1048576) (hc : c ≤ 10) (h0 : 0 ≤ m) (h1 : m ≤ 100000000)
    (hstep : ∀ k acc x i, B ≤ k → i < n → acc.length = n → 0 ≤ x → x ≤ 1000000000 → F (k + 1) acc x (i : Int) = F k (acc.set i (g x)) (x + c) (wrap64 ((i : Int) + 1))) (hend : ∀ k acc x, B ≤ k → acc.length = n → F (k + 1) acc x (n : Int) = some (x, acc)) :
    ∀ d k i acc, i + d = n → B + d < k → acc.length = n → F k acc (m + (c * i : Nat)) (i : Int) = some (m + (c * n : Nat), acc.take i ++ (List.range' i d).map (fun j => g (m + (c * j : Nat)))) := by
  intro d
  induction d with
  | zero =>
    intro k i acc h hk ha
    obtain ⟨k, rfl⟩ : ∃ m, k = m + 1 := ⟨k - 1, by omega⟩
    obtain rfl : i = n := by omega
    rw [hend k acc _ (by omega) ha, List.take_of_length_le (by omega)]
    simp
  | succ d ih =>
    intro k i acc h hk ha
    obtain ⟨k, rfl⟩ : ∃ m, k = m + 1 := ⟨k - 1, by omega⟩
    have hci : c * i ≤ 10485760 := by
      have := Nat.mul_le_mul hc (show i ≤ 1048576 by omega)
      omega
    have e : m + (c * i : Nat) + (c : Int) = m + (c * (i + 1) : Nat) := by rw [Nat.mul_add, Nat.mul_one]; omega
    rw [hstep k acc _ i (by omega) (by omega) ha (by omega) (by omega), wrap_succ (n := n) (by omega) (by omega), e, ih k (i + 1) _ (by omega) (by omega) (by rw [List.length_set]; exact ha), List.range'_succ, List.map_cons]
    rw [List.take_succ_eq_append_getElem (by rw [List.length_set]; omega), List.take_set_of_le (by omega)]
    simp
def marked {β : Type} (g : Int → β) (c n : Nat) (m : Int) : List β := (List.range n).map (fun j => g (m + (c * j : Nat)))
theorem marked_length {β : Type} (g : Int → β) (c n : Nat) (m : Int) : (marked g c n m).length = n := by simp [marked]
theorem marked_at {β : Type} (g : Int → β) (c n : Nat) (m : Int) (d : β) (i : Nat) (h : i < n) : (marked g c n m).getD i d = g (m + (c * i : Nat)) := by
  unfold marked
  rw [List.getD_eq_getElem?_getD, List.getElem?_eq_getElem (by simpa using h)]
  simp
theorem loop_mark0 {β : Type} (F : Nat → List β → Int → Int → Option (Int × List β)) (g : Int → β) (c n B k : Nat) (m : Int) (acc : List β) (hn : n ≤ 1048576) (hc : c ≤ 10) (h0 : 0 ≤ m) (h1 : m ≤ 100000000)
    (hstep : ∀ k acc x i, B ≤ k → i < n → acc.length = n → 0 ≤ x → x ≤ 1000000000 → F (k + 1) acc x (i : Int) = F k (acc.set i (g x)) (x + c) (wrap64 ((i : Int) + 1))) (hend : ∀ k acc x, B ≤ k → acc.length = n → F (k + 1) acc x (n : Int) = some (x, acc))
    (hk : B + n < k) (ha : acc.length = n) : F k acc m 0 = some (m + (c * n : Nat), marked g c n m) := by
  have := loop_mark F g c n B m hn hc h0 h1 hstep hend n k 0 acc (by omega) hk ha
  unfold marked
  rw [List.range_eq_range']
  simpa using this
/-- A loop that looks whether marks are held. -/
theorem loop_held (F : Nat → Int → Int → Option Int) (c n B : Nat) (m : Int) (hn : n ≤ 1048576) (hc : c ≤ 10) (h0 : 0 ≤ m) (h1 : m ≤ 100000000)
    (hstep : ∀ k i, B ≤ k → i < n → 0 ≤ m + (c * i : Nat) → m + (c * i : Nat) ≤ 1000000000 → F (k + 1) (m + (c * i : Nat)) (i : Int) = F k (m + (c * i : Nat) + c) (wrap64 ((i : Int) + 1))) (hend : ∀ k x, B ≤ k → F (k + 1) x (n : Int) = some x) :
    ∀ d k i, i + d = n → B + d < k → F k (m + (c * i : Nat)) (i : Int) = some (m + (c * n : Nat)) := by
  intro d
  induction d with
  | zero =>
    intro k i h hk
    obtain ⟨k, rfl⟩ : ∃ m, k = m + 1 := ⟨k - 1, by omega⟩
    obtain rfl : i = n := by omega
    rw [hend k _ (by omega)]
  | succ d ih =>
    intro k i h hk
    obtain ⟨k, rfl⟩ : ∃ m, k = m + 1 := ⟨k - 1, by omega⟩
    have hci : c * i ≤ 10485760 := by
      have := Nat.mul_le_mul hc (show i ≤ 1048576 by omega)
      omega
    have e : m + (c * i : Nat) + (c : Int) = m + (c * (i + 1) : Nat) := by rw [Nat.mul_add, Nat.mul_one]; omega
    rw [hstep k i (by omega) (by omega) (by omega) (by omega), wrap_succ (n := n) (by omega) (by omega), e, ih k (i + 1) (by omega) (by omega)]
theorem loop_held0 (F : Nat → Int → Int → Option Int) (c n B k : Nat) (m : Int) (hn : n ≤ 1048576) (hc : c ≤ 10) (h0 : 0 ≤ m) (h1 : m ≤ 100000000)
    (hstep : ∀ k i, B ≤ k → i < n → 0 ≤ m + (c * i : Nat) → m + (c * i : Nat) ≤ 1000000000 → F (k + 1) (m + (c * i : Nat)) (i : Int) = F k (m + (c * i : Nat) + c) (wrap64 ((i : Int) + 1))) (hend : ∀ k x, B ≤ k → F (k + 1) x (n : Int) = some x)
    (hk : B + n < k) : F k m 0 = some (m + (c * n : Nat)) := by
  have := loop_held F c n B m hn hc h0 h1 hstep hend n k 0 (by omega) hk
  simpa using this
/-- A loop that compares a list with itself. -/
theorem loop_true0 (F : Nat → Int → Option Bool) (n B k : Nat) (hn : n ≤ 9223372036854775807)
    (hstep : ∀ k i, B ≤ k → i < n → F (k + 1) (i : Int) = F k (wrap64 ((i : Int) + 1))) (hend : ∀ k, B ≤ k → F (k + 1) (n : Int) = some true) (hk : B + n < k) : F k 0 = some true := by
  have := loop_all0 F (fun _ => true) true n B k hn (fun k i hk hi => by rw [hstep k i hk hi, if_pos rfl]) hend hk
  rw [this]
  simp
theorem getD_set {α : Type} (l : List α) (d : α) (i : Nat) (v : α) (h : i < l.length) : (l.set i v).getD i d = v := by
  rw [List.getD_eq_getElem?_getD, List.getElem?_set_self h]
  rfl
theorem sub_in {a : Int} {n : Nat} (h0 : 0 ≤ a) (h1 : a ≤ 1048576) (hn : n ≤ 9223372036854775807) : wrap64 (a - (n : Int)) = a - (n : Int) := wrap_in (by omega) (by omega)
end Go.Proofs.Ytkandhljbbolnaa.Pure

namespace Go.Proofs.Ytkandhljbbolnaa.Pure
open Go.RowKit Go.Proofs.Ytkandhljbbolnaa.Q Go.Proofs.YtkandhljbbolnaaL.PrintWords Go.Proofs.YtkandhljbbolnaaL.PrintLast Go.Proofs.YtkandhljbbolnaaL.PrintMore
set_option linter.unusedVariables false
set_option linter.unusedSimpArgs false
theorem p_eqIntS (l : List Int) (hl : l.length ≤ 2000000) (k : Nat) (hk : 3000000 ≤ k) : laws_eqIntS.f k l l = some true := by
  unfold laws_eqIntS.f
  rw [if_pos rfl]
  refine loop_true0 (fun k i => laws_eqIntS.l0 k l l i) l.length 0 k (by omega) (fun k i _ hi => ?_) (fun k _ => ?_) (by omega)
  · simp only [laws_eqIntS.l0]
    rw [if_pos (by omega), if_pos (by omega), if_pos (by omega)]
    simp
  · simp only [laws_eqIntS.l0]
    rw [if_neg (by omega)]
end Go.Proofs.Ytkandhljbbolnaa.Pure

namespace Go.Proofs.Ytkandhljbbolnaa.Pure
open Go.RowKit Go.Proofs.Ytkandhljbbolnaa.Q Go.Proofs.YtkandhljbbolnaaL.PrintWords Go.Proofs.YtkandhljbbolnaaL.PrintLast Go.Proofs.YtkandhljbbolnaaL.PrintMore
set_option linter.unusedVariables false
set_option linter.unusedSimpArgs false
theorem rd_pairI (l : List S94) (i : Nat) : rd_T94 l (i : Int) = l.getD i z94 := by
  unfold rd_T94
  rw [Int.toNat_natCast]
theorem p_eqPairS (l : List S94) (hl : l.length ≤ 2000000) (k : Nat) (hk : 3000000 ≤ k) : laws_eqPairS.f k l l = some true := by
  unfold laws_eqPairS.f
  rw [if_pos rfl]
  refine loop_true0 (fun k i => laws_eqPairS.l0 k l l i) l.length 0 k (by omega) (fun k i _ hi => ?_) (fun k _ => ?_) (by omega)
  · simp only [laws_eqPairS.l0]
    rw [if_pos (by omega), if_pos (by omega), if_pos (by omega)]
    unfold laws_eqPair.f
    simp
  · simp only [laws_eqPairS.l0]
    rw [if_neg (by omega)]
end Go.Proofs.Ytkandhljbbolnaa.Pure

namespace Go.Proofs.Ytkandhljbbolnaa.Pure
open Go.RowKit Go.Proofs.Ytkandhljbbolnaa.Q Go.Proofs.YtkandhljbbolnaaL.PrintWords Go.Proofs.YtkandhljbbolnaaL.PrintLast Go.Proofs.YtkandhljbbolnaaL.PrintMore
set_option linter.unusedVariables false
set_option linter.unusedSimpArgs false
theorem p_szIntS (l : List Int) (hl : l.length ≤ maxLen) (a : Int) (h0 : 0 ≤ a) (h1 : a ≤ 1048576) :
    ∃ r, laws_szIntS.f l a = some r ∧ (r < 0 ∨ 0 ≤ r ∧ r ≤ a ∧ l.length ≤ 1048576) := by
  unfold maxLen at hl
  unfold laws_szIntS.f
  rw [sub_in h0 h1 hl]
  split
  · exact ⟨-1, rfl, .inl (by omega)⟩
  · exact ⟨_, rfl, .inr ⟨by omega, by omega, by omega⟩⟩
theorem p_toIntS (l : List Int) (hl : l.length ≤ 2000000) (k : Nat) (hk : 3000000 ≤ k) : laws_toIntS.f k l = some l := by
  unfold laws_toIntS.f
  rw [if_pos (by omega), if_pos (by omega)]
  have h := loop_set0 (fun k acc i => laws_toIntS.l0 k l acc i) (fun i => l.getD i 0) l.length 0 k (List.replicate ((l.length : Int)).toNat 0) (by omega) (fun k acc i _ hi ha => ?_) (fun k acc _ => ?_) (by omega) (by simp)
  · rw [h, range_map l 0 (fun x => x), List.map_id']
  · simp only [laws_toIntS.l0]
    rw [if_pos (by omega), if_pos (by omega), if_pos (by omega), rd_nat, Int.toNat_natCast]
  · simp only [laws_toIntS.l0]
    rw [if_neg (by omega)]
end Go.Proofs.Ytkandhljbbolnaa.Pure

namespace Go.Proofs.Ytkandhljbbolnaa.Pure
open Go.RowKit Go.Proofs.Ytkandhljbbolnaa.Q Go.Proofs.YtkandhljbbolnaaL.PrintWords Go.Proofs.YtkandhljbbolnaaL.PrintLast Go.Proofs.YtkandhljbbolnaaL.PrintMore
set_option linter.unusedVariables false
set_option linter.unusedSimpArgs false
def cPair (x : S134) : S94 := ⟨x.f0, x.f1⟩
theorem rd_pairL (l : List S134) (i : Nat) : rd_T134 l (i : Int) = l.getD i z134 := by
  unfold rd_T134
  rw [Int.toNat_natCast]
theorem p_szPairS (l : List S134) (hl : l.length ≤ maxLen) (hs : ∀ x ∈ l, x.f0.size ≤ maxLen) (k : Nat) (hk : 3000000 ≤ k) (a : Int) (h0 : 0 ≤ a) (h1 : a ≤ 1048576) :
    ∃ r, laws_szPairS.f k l a = some r ∧ (r < 0 ∨ 0 ≤ r ∧ r ≤ a ∧ l.length ≤ 1048576 ∧ ∀ x ∈ l, x.f0.size ≤ 1048576) := by
  unfold maxLen at hl hs
  unfold laws_szPairS.f
  rw [sub_in h0 h1 hl]
  split
  · exact ⟨-1, rfl, .inl (by omega)⟩
  · have hh := loop_sz0 (fun k a i => laws_szPairS.l0 k l a i) l z134 (fun x => x.f0.size ≤ 1048576) 0 k (a - l.length) hl (fun k a i _ hi g0 g1 => ?_) (fun k a _ => ?_) (by omega) (by omega) (by omega)
    · obtain ⟨r, hr, hc⟩ := hh
      refine ⟨r, hr, ?_⟩
      rcases hc with hc | ⟨c0, c1, c2⟩
      · exact .inl hc
      · exact .inr ⟨c0, by omega, by omega, c2⟩
    · have hm := hs _ (getD_mem l z134 i hi)
      simp only [laws_szPairS.l0]
      rw [if_pos (by omega), if_pos (by omega), rd_pairL]
      generalize l.getD i z134 = x at hm ⊢
      have s0 := hm
      unfold laws_szPair.f
      rw [sub_in g0 g1 s0]
      by_cases q0 : a - (x.f0.size : Int) < 0
      · rw [if_pos q0]
        exact .inl rfl
      · skip
        rw [if_neg q0, Option.bind_some, if_neg q0]
        exact .inr ⟨_, by omega, by omega, by omega, rfl⟩
    · simp only [laws_szPairS.l0]
      rw [if_neg (by omega)]
theorem p_toPairS (l : List S134) (hl : l.length ≤ 2000000) (k : Nat) (hk : 3000000 ≤ k) : laws_toPairS.f k l = some (l.map cPair) := by
  unfold laws_toPairS.f
  rw [if_pos (by omega), if_pos (by omega)]
  have h := loop_set0 (fun k acc i => laws_toPairS.l0 k l acc i) (fun i => cPair (l.getD i z134)) l.length 0 k (List.replicate ((l.length : Int)).toNat z94) (by omega) (fun k acc i _ hi ha => ?_) (fun k acc _ => ?_) (by omega) (by simp)
  · rw [h, range_map]
  · simp only [laws_toPairS.l0]
    rw [if_pos (by omega), if_pos (by omega), rd_pairL]
    unfold laws_toPair.f
    rw [Option.bind_some, if_pos (by omega), Int.toNat_natCast]
    rfl
  · simp only [laws_toPairS.l0]
    rw [if_neg (by omega)]
end Go.Proofs.Ytkandhljbbolnaa.Pure

namespace Go.Proofs.Ytkandhljbbolnaa.Pure
open Go.RowKit Go.Proofs.Ytkandhljbbolnaa.Q Go.Proofs.YtkandhljbbolnaaL.PrintWords Go.Proofs.YtkandhljbbolnaaL.PrintLast Go.Proofs.YtkandhljbbolnaaL.PrintMore
set_option linter.unusedVariables false
set_option linter.unusedSimpArgs false
def cArg (x : S155) : S110 := ⟨x.f0, x.f1, x.f2, x.f3.map cPair⟩
def ArgSz (n : Nat) (x : S155) : Prop := x.f1.size ≤ n ∧ x.f2.length ≤ n ∧ x.f3.length ≤ n ∧ ∀ y ∈ x.f3, y.f0.size ≤ n
def SmallA (x : S110) : Prop := x.f1.size ≤ 2000000 ∧ x.f2.length ≤ 2000000 ∧ x.f3.length ≤ 2000000 ∧ ∀ y ∈ x.f3, y.f0.size ≤ 2000000
theorem cArg_small {x : S155} (h : ArgSz 1048576 x) : SmallA (cArg x) := by
  obtain ⟨h1, h2, h3, h4⟩ := h
  refine ⟨by show x.f1.size ≤ 2000000; omega, by show x.f2.length ≤ 2000000; omega, by show (x.f3.map cPair).length ≤ 2000000; rw [List.length_map]; omega, fun y hy => ?_⟩
  obtain ⟨z, hz, rfl⟩ := List.mem_map.1 (show y ∈ x.f3.map cPair from hy)
  exact Nat.le_trans (h4 z hz) (by omega)
theorem rd_argL (l : List S155) (i : Nat) : rd_T155 l (i : Int) = l.getD i z155 := by
  unfold rd_T155
  rw [Int.toNat_natCast]
theorem rd_argI (l : List S110) (i : Nat) : rd_T110 l (i : Int) = l.getD i z110 := by
  unfold rd_T110
  rw [Int.toNat_natCast]
theorem p_szCall (l : List S155) (hl : l.length ≤ maxLen) (hs : ∀ x ∈ l, ArgSz maxLen x) (k : Nat) (hk : 9000000 ≤ k) (a : Int) (h0 : 0 ≤ a) (h1 : a ≤ 1048576) :
    ∃ r, laws_szCall.f k l a = some r ∧ (r < 0 ∨ 0 ≤ r ∧ r ≤ a ∧ l.length ≤ 1048576 ∧ ∀ x ∈ l, ArgSz 1048576 x) := by
  have key : ∃ r, laws_szArgS.f k l a = some r ∧ (r < 0 ∨ 0 ≤ r ∧ r ≤ a ∧ l.length ≤ 1048576 ∧ ∀ x ∈ l, ArgSz 1048576 x) := by
    unfold maxLen at hl
    unfold laws_szArgS.f
    rw [sub_in h0 h1 hl]
    split
    · exact ⟨-1, rfl, .inl (by omega)⟩
    · have hh := loop_sz0 (fun k a i => laws_szArgS.l0 k l a i) l z155 (ArgSz 1048576) 3000000 k (a - l.length) hl (fun k a i hk hi g0 g1 => ?_) (fun k a _ => ?_) (by omega) (by omega) (by omega)
      · obtain ⟨r, hr, hc⟩ := hh
        refine ⟨r, hr, ?_⟩
        rcases hc with hc | ⟨c0, c1, c2⟩
        · exact .inl hc
        · exact .inr ⟨c0, by omega, by omega, c2⟩
      · obtain ⟨m1, m2, m3, m4⟩ := hs _ (getD_mem l z155 i hi)
        simp only [laws_szArgS.l0]
        rw [if_pos (by omega), if_pos (by omega), rd_argL]
        generalize l.getD i z155 = x at m1 m2 m3 m4 ⊢
        unfold laws_szArg.f
        have s0 : x.f1.size ≤ 9223372036854775807 := m1
        rw [sub_in g0 g1 s0]
        by_cases q0 : a - (x.f1.size : Int) < 0
        · rw [if_pos q0]
          exact .inl rfl
        rw [if_neg q0]
        obtain ⟨r1, e1, c1⟩ := p_szIntS x.f2 m2 (a - (x.f1.size : Int)) (by omega) (by omega)
        rw [e1, Option.bind_some]
        rcases c1 with c1 | ⟨c1, c2, c3⟩
        · rw [if_pos c1]
          exact .inl rfl
        rw [if_neg (by omega)]
        obtain ⟨r2, e2, d1⟩ := p_szPairS x.f3 m3 m4 k (by omega) r1 (by omega) (by omega)
        rw [e2, Option.bind_some]
        rcases d1 with d1 | ⟨d1, d2, d3, d4⟩
        · rw [if_pos d1]
          exact .inl rfl
        rw [if_neg (by omega), Option.bind_some, if_neg (by omega)]
        exact .inr ⟨_, by omega, by omega, ⟨by omega, c3, d3, d4⟩, rfl⟩
      · simp only [laws_szArgS.l0]
        rw [if_neg (by omega)]
  obtain ⟨r, hr, hc⟩ := key
  unfold laws_szCall.f
  rw [hr, Option.bind_some]
  rcases hc with hc | hc
  · rw [if_pos hc]
    exact ⟨-1, rfl, .inl (by omega)⟩
  · rw [if_neg (by omega)]
    exact ⟨_, rfl, .inr hc⟩
theorem p_toCall (l : List S155) (hl : l.length ≤ 2000000) (hs : ∀ x ∈ l, ArgSz 1048576 x) (k : Nat) (hk : 9000000 ≤ k) : laws_toCall.f k l = some (l.map cArg) := by
  unfold laws_toCall.f laws_toArgS.f
  rw [if_pos (by omega), if_pos (by omega)]
  have h := loop_set0 (fun k acc i => laws_toArgS.l0 k l acc i) (fun i => cArg (l.getD i z155)) l.length 3000000 k (List.replicate ((l.length : Int)).toNat z110) (by omega) (fun k acc i hk hi ha => ?_) (fun k acc _ => ?_) (by omega) (by simp)
  · rw [h, range_map, Option.bind_some]
  · obtain ⟨m1, m2, m3, m4⟩ := hs _ (getD_mem l z155 i hi)
    simp only [laws_toArgS.l0]
    rw [if_pos (by omega), if_pos (by omega), rd_argL]
    unfold laws_toArg.f
    rw [p_toIntS _ (by omega) k (by omega), Option.bind_some, p_toPairS _ (by omega) k (by omega), Option.bind_some, Option.bind_some, if_pos (by omega), Int.toNat_natCast]
    rfl
  · simp only [laws_toArgS.l0]
    rw [if_neg (by omega)]
theorem p_eqCall (l : List S110) (hl : l.length ≤ 2000000) (hs : ∀ x ∈ l, SmallA x) (k : Nat) (hk : 9000000 ≤ k) : laws_eqCall.f k l l = some true := by
  have key : laws_eqArgS.f k l l = some true := by
    unfold laws_eqArgS.f
    rw [if_pos rfl]
    refine loop_true0 (fun k i => laws_eqArgS.l0 k l l i) l.length 3000000 k (by omega) (fun k i hk hi => ?_) (fun k _ => ?_) (by omega)
    · obtain ⟨m1, m2, m3, m4⟩ := hs _ (getD_mem l z110 i hi)
      simp only [laws_eqArgS.l0]
      rw [if_pos (by omega), if_pos (by omega), if_pos (by omega), rd_argI]
      unfold laws_eqArg.f
      rw [if_pos rfl, if_pos rfl, p_eqIntS _ m2 k (by omega), Option.bind_some, if_pos rfl, p_eqPairS _ m3 k (by omega), Option.bind_some, if_pos rfl, Option.bind_some, if_pos rfl]
    · simp only [laws_eqArgS.l0]
      rw [if_neg (by omega)]
  unfold laws_eqCall.f
  rw [key, Option.bind_some, if_pos rfl]
end Go.Proofs.Ytkandhljbbolnaa.Pure
