import Derived.Test.YtjnfofgonddflaaLMore
import Derived.Test.YtjnfofgonddflaaPBase
import Derived.Test.YtjnfofgonddflaaM1FnExactMostPlaces
namespace Go.Proofs.Ytjnfofgonddflaa.Pure
open Go.RowKit Go.Proofs.Ytjnfofgonddflaa.Q Go.Proofs.YtjnfofgonddflaaL.PrintWords Go.Proofs.YtjnfofgonddflaaL.PrintLast Go.Proofs.YtjnfofgonddflaaL.PrintMore
set_option linter.unusedVariables false
set_option linter.unusedSimpArgs false
theorem range_all {α : Type} (l : List α) (d : α) (p : α → Bool) : ((List.range l.length).all fun i => p (l.getD i d)) = l.all p := by
  rw [Bool.eq_iff_iff, List.all_eq_true, List.all_eq_true]
  constructor
  · intro h x hx
    obtain ⟨i, hi, rfl⟩ := List.mem_iff_getElem.1 hx
    have := h i (List.mem_range.2 hi)
    rwa [List.getD_eq_getElem?_getD, List.getElem?_eq_getElem hi] at this
  · intro h i hi
    have hi' := List.mem_range.1 hi
    rw [List.getD_eq_getElem?_getD, List.getElem?_eq_getElem hi']
    exact h _ (List.getElem_mem _)
theorem getD_mem {α : Type} (l : List α) (d : α) (i : Nat) (h : i < l.length) : l.getD i d ∈ l := by
  rw [List.getD_eq_getElem?_getD, List.getElem?_eq_getElem h]
  exact List.getElem_mem _
theorem rd_nat (l : List Int) (i : Nat) : rd l (i : Int) = l.getD i 0 := by
  unfold Go.Proofs.YtjnfofgonddflaaL.PrintWords.rd
  rw [Int.toNat_natCast]
theorem rdOf_nat {α : Type} (d : α) (l : List α) (i : Nat) : rdOf d l (i : Int) = l.getD i d := by
  unfold rdOf
  rw [Int.toNat_natCast]
/-- A loop that looks for the first one. -/
theorem loop_find {α : Type} (F : Nat → Int → Option Int) (l : List α) (d : α) (p : α → Bool) (B : Nat) (hn : l.length ≤ 9223372036854775807)
    (hstep : ∀ k i, B ≤ k → i < l.length → F (k + 1) (i : Int) = if p (l.getD i d) = true then some (i : Int) else F k (wrap64 ((i : Int) + 1))) (hend : ∀ k, B ≤ k → F (k + 1) (l.length : Int) = some (-1)) :
    ∀ e k i, i + e = l.length → B + e < k → (∀ j, j < i → p (l.getD j d) = false) → F k (i : Int) = some (pxIdx p l) := by
  intro e
  induction e with
  | zero =>
    intro k i h hk hm
    obtain ⟨k, rfl⟩ : ∃ m, k = m + 1 := ⟨k - 1, by omega⟩
    obtain rfl : i = l.length := by omega
    rw [hend k (by omega), pxIdx_miss p l d hm]
  | succ e ih =>
    intro k i h hk hm
    obtain ⟨k, rfl⟩ : ∃ m, k = m + 1 := ⟨k - 1, by omega⟩
    rw [hstep k i (by omega) (by omega)]
    cases hq : p (l.getD i d) with
    | true => rw [if_pos rfl, pxIdx_hit p l d i (by omega) hq hm]
    | false =>
      rw [if_neg (by simp), wrap_succ (n := l.length) (by omega) hn]
      refine ih k (i + 1) (by omega) (by omega) (fun j hj => ?_)
      by_cases e : j = i
      · rw [e]; exact hq
      · exact hm j (by omega)
theorem loop_find0 {α : Type} (F : Nat → Int → Option Int) (l : List α) (d : α) (p : α → Bool) (B k : Nat) (hn : l.length ≤ 9223372036854775807)
    (hstep : ∀ k i, B ≤ k → i < l.length → F (k + 1) (i : Int) = if p (l.getD i d) = true then some (i : Int) else F k (wrap64 ((i : Int) + 1))) (hend : ∀ k, B ≤ k → F (k + 1) (l.length : Int) = some (-1))
    (hk : B + l.length < k) : F k 0 = some (pxIdx p l) :=
  loop_find F l d p B hn hstep hend l.length k 0 (by omega) hk (fun j hj => absurd hj (Nat.not_lt_zero _))
theorem pxIdx_range {α : Type} (p : α → Bool) (l : List α) : pxIdx p l = -1 ∨ ∃ i : Nat, i < l.length ∧ pxIdx p l = (i : Int) := by
  unfold pxIdx
  cases h : l.findIdx? p with
  | none => exact .inl rfl
  | some i =>
    rw [List.findIdx?_eq_some_iff_getElem] at h
    exact .inr ⟨i, h.1, rfl⟩
end Go.Proofs.Ytjnfofgonddflaa.Pure
