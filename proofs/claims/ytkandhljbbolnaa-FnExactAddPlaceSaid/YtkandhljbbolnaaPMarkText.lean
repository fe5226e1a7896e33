import Derived.Test.YtkandhljbbolnaaLMore
import Derived.Test.YtkandhljbbolnaaPBase
import Derived.Test.YtkandhljbbolnaaQ62
namespace Go.Proofs.Ytkandhljbbolnaa.Pure
open Go.RowKit Go.Proofs.Ytkandhljbbolnaa.Q Go.Proofs.YtkandhljbbolnaaL.PrintWords Go.Proofs.YtkandhljbbolnaaL.PrintLast Go.Proofs.YtkandhljbbolnaaL.PrintMore
set_option linter.unusedVariables false
set_option linter.unusedSimpArgs false
theorem strOfNums_size (l : List Int) : (strOfNums l).size = l.length := by
  unfold strOfNums
  simp [ByteArray.size]
theorem markText_l0 : ∀ (d : Nat) (n : Int) (x : ByteArray), n < 10 ^ d → n ≤ 1000000000000 → x.size + d ≤ 1000 → ∃ s, ∀ k, d < k → laws_markText.l0 k n x = some s := by
  intro d
  induction d with
  | zero =>
    intro n x h hb hx
    refine ⟨(⟨#[109]⟩ : ByteArray) ++ x, fun k hk => ?_⟩
    obtain ⟨k, rfl⟩ : ∃ m, k = m + 1 := ⟨k - 1, by omega⟩
    simp only [laws_markText.l0]
    rw [if_neg (by omega), if_pos (by omega)]
  | succ d ih =>
    intro n x h hb hx
    by_cases h0 : n > 0
    · have hs : (strOfNums ([(wrap64 (48 + (Int.tmod n 10))) % 256] : List Int)).size = 1 := strOfNums_size _
      have hd : wrap64 (Int.tdiv n 10) = n / 10 := by
        rw [Int.tdiv_eq_ediv_of_nonneg (by omega), wrap_in (by omega) (by omega)]
      have hp : (10 : Int) ^ (d + 1) = 10 ^ d * 10 := Int.pow_succ _ _
      obtain ⟨s, hs'⟩ := ih (n / 10) (strOfNums ([(wrap64 (48 + (Int.tmod n 10))) % 256] : List Int) ++ x) (by omega) (by omega) (by rw [ByteArray.size_append, hs]; omega)
      refine ⟨s, fun k hk => ?_⟩
      obtain ⟨k, rfl⟩ : ∃ m, k = m + 1 := ⟨k - 1, by omega⟩
      simp only [laws_markText.l0]
      rw [if_pos h0, Option.bind_some, if_pos (by omega), hd]
      exact hs' k (by omega)
    · refine ⟨(⟨#[109]⟩ : ByteArray) ++ x, fun k hk => ?_⟩
      obtain ⟨k, rfl⟩ : ∃ m, k = m + 1 := ⟨k - 1, by omega⟩
      simp only [laws_markText.l0]
      rw [if_neg (by omega), if_pos (by omega)]
theorem markText_ex (n : Int) (hn : n ≤ 2000000000) : ∃ s, ∀ k, 30 ≤ k → laws_markText.f k n = some s := by
  by_cases h0 : n ≤ 0
  · refine ⟨(⟨#[109, 48]⟩ : ByteArray), fun k _ => ?_⟩
    unfold laws_markText.f
    rw [if_pos h0]
  · have h12 : n < (10 : Int) ^ 12 := by
      rw [show (10 : Int) ^ 12 = 1000000000000 by decide]
      omega
    obtain ⟨s, hs⟩ := markText_l0 12 n (⟨#[]⟩ : ByteArray) h12 (by omega) (by decide)
    refine ⟨s, fun k hk => ?_⟩
    unfold laws_markText.f
    rw [if_neg h0]
    exact hs k (by omega)
/-- The text of a mark. -/
def mtx (n : Int) : ByteArray := (laws_markText.f 30 n).getD ByteArray.empty
theorem p_markText (n : Int) (hn : n ≤ 2000000000) (k : Nat) (hk : 30 ≤ k) : laws_markText.f k n = some (mtx n) := by
  obtain ⟨s, hs⟩ := markText_ex n hn
  unfold mtx
  rw [hs k hk, hs 30 (by omega)]
  rfl
end Go.Proofs.Ytkandhljbbolnaa.Pure
