import Derived.Test.YtjnfofgonddflaaLMore
import Derived.Test.YtjnfofgonddflaaPBase
import Derived.Test.YtjnfofgonddflaaPLoops
import Derived.Test.YtjnfofgonddflaaM1FnExactMostPlaces
namespace Go.Proofs.Ytjnfofgonddflaa.Pure
open Go.RowKit Go.Proofs.Ytjnfofgonddflaa.Q Go.Proofs.YtjnfofgonddflaaL.PrintWords Go.Proofs.YtjnfofgonddflaaL.PrintLast Go.Proofs.YtjnfofgonddflaaL.PrintMore
set_option linter.unusedVariables false
set_option linter.unusedSimpArgs false
/-- A loop that goes on to something else behind its end. -/
theorem loop_then {β : Type} (F : Nat → Int → Option β) (P : Nat → Bool) (G : Nat → Option β) (no : Option β) (n : Nat) (hn : n ≤ 9223372036854775807)
    (hstep : ∀ k i, i < n → F (k + 1) (i : Int) = if P i = true then F k (wrap64 ((i : Int) + 1)) else no) (hend : ∀ k, F (k + 1) (n : Int) = G k) :
    ∀ d k i, i + d = n → d < k → F k (i : Int) = if (List.range' i d).all P = true then G (k - 1 - d) else no := by
  intro d
  induction d with
  | zero =>
    intro k i h hk
    obtain ⟨k, rfl⟩ : ∃ m, k = m + 1 := ⟨k - 1, by omega⟩
    obtain rfl : i = n := by omega
    rw [hend k]
    simp
  | succ d ih =>
    intro k i h hk
    obtain ⟨k, rfl⟩ : ∃ m, k = m + 1 := ⟨k - 1, by omega⟩
    rw [hstep k i (by omega), wrap_succ (n := n) (by omega) hn, ih k (i + 1) (by omega) (by omega), List.range'_succ, List.all_cons]
    have e : k + 1 - 1 - (d + 1) = k - 1 - d := by omega
    rw [e]
    cases P i <;> simp only [Bool.true_and, Bool.false_and, if_true, Bool.false_eq_true, if_false]
theorem loop_then0 {β : Type} (F : Nat → Int → Option β) (P : Nat → Bool) (G : Nat → Option β) (no : Option β) (n k : Nat) (hn : n ≤ 9223372036854775807)
    (hstep : ∀ k i, i < n → F (k + 1) (i : Int) = if P i = true then F k (wrap64 ((i : Int) + 1)) else no) (hend : ∀ k, F (k + 1) (n : Int) = G k) (hk : n < k) :
    F k 0 = if (List.range n).all P = true then G (k - 1 - n) else no := by
  have := loop_then F P G no n hn hstep hend n k 0 (by omega) hk
  rw [List.range_eq_range']
  exact this
/-- A loop whose rounds take up to C steps. -/
theorem loop_wide (F : Nat → Int → Option Bool) (P : Nat → Bool) (T : Bool) (n B C : Nat) (hn : n ≤ 9223372036854775807)
    (hstep : ∀ k i, B + C ≤ k → i < n → (P i = true → ∃ k', k ≤ k' + C ∧ F k (i : Int) = F k' (wrap64 ((i : Int) + 1))) ∧ (P i = false → F k (i : Int) = some false)) (hend : ∀ k, B ≤ k → F k (n : Int) = some T) :
    ∀ d k i, i + d = n → B + d * C ≤ k → F k (i : Int) = some ((List.range' i d).all P && T) := by
  intro d
  induction d with
  | zero =>
    intro k i h hk
    obtain rfl : i = n := by omega
    rw [hend k (by omega)]
    simp
  | succ d ih =>
    intro k i h hk
    rw [Nat.succ_mul] at hk
    rw [List.range'_succ, List.all_cons]
    obtain ⟨h1, h2⟩ := hstep k i (by omega) (by omega)
    cases hq : P i with
    | true =>
      obtain ⟨k', hk', e⟩ := h1 hq
      rw [e, wrap_succ (n := n) (by omega) hn, ih k' (i + 1) (by omega) (by omega)]
      simp
    | false => rw [h2 hq]; simp
theorem loop_wide0 (F : Nat → Int → Option Bool) (P : Nat → Bool) (T : Bool) (n B C k : Nat) (hn : n ≤ 9223372036854775807)
    (hstep : ∀ k i, B + C ≤ k → i < n → (P i = true → ∃ k', k ≤ k' + C ∧ F k (i : Int) = F k' (wrap64 ((i : Int) + 1))) ∧ (P i = false → F k (i : Int) = some false)) (hend : ∀ k, B ≤ k → F k (n : Int) = some T)
    (hk : B + n * C ≤ k) : F k 0 = some ((List.range n).all P && T) := by
  have := loop_wide F P T n B C hn hstep hend n k 0 (by omega) hk
  rw [List.range_eq_range']
  exact this
end Go.Proofs.Ytjnfofgonddflaa.Pure
