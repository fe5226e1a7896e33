import Derived.Test.YtjcaiekalobmfaaLMore
import Derived.Test.YtjcaiekalobmfaaPBase
import Derived.Test.YtjcaiekalobmfaaQ4
import Derived.Test.YtjcaiekalobmfaaQ5
import Derived.Test.YtjcaiekalobmfaaQ8
namespace Go.Proofs.Ytjcaiekalobmfaa.Pure
open Go.RowKit Go.Proofs.Ytjcaiekalobmfaa.Q Go.Proofs.YtjcaiekalobmfaaL.PrintWords Go.Proofs.YtjcaiekalobmfaaL.PrintLast Go.Proofs.YtjcaiekalobmfaaL.PrintMore
set_option linter.unusedVariables false
set_option linter.unusedSimpArgs false
/-- A problem's text. -/
def txt (j : Int) (s : ByteArray) : ByteArray :=
  if j = 0 then (if s.toList = [] then ⟨#[116, 111, 111, 32, 109, 97, 110, 121, 32, 112, 108, 97, 99, 101, 115]⟩ else ⟨#[]⟩)
  else if pxName s = true then (if j = 1 then ⟨#[110, 111, 32]⟩ ++ s else if j = 2 then ⟨#[116, 119, 105, 99, 101, 32]⟩ ++ s else if j = 3 then ⟨#[109, 105, 115, 115, 105, 110, 103, 32]⟩ ++ s else ⟨#[]⟩)
  else ⟨#[]⟩
theorem px_name_nil (s : ByteArray) (h : s.toList = []) : pxName s = false := by
  rw [ByteArray.toList_eq] at h
  have : s.size = 0 := by
    have e : s.size = s.data.toList.length := by simp
    rw [e, h]; rfl
  unfold pxName
  simp [this]
theorem p_specText (j : Int) (s : ByteArray) (hs : s.size ≤ 9223372036854775000) (k : Nat) (hk : s.size < k) : spec_ProblemText.f k j s = some (txt j s) := by
  unfold spec_ProblemText.f txt
  rw [p_inRange, Option.bind_some]
  by_cases h0 : j = 0
  · subst h0
    rw [if_pos (by decide), if_pos rfl, if_pos rfl]
    unfold spec_problemText.f
    split <;> simp
  · rw [if_neg h0]
    by_cases hr : (0 : Int) ≤ j ∧ j ≤ 3
    · rw [if_pos (by simp [hr]), if_neg h0, p_validName s (by omega) k hk, Option.bind_some]
      unfold spec_problemText.f
      split
      · have b1 : 3 + s.size ≤ 9223372036854775807 := by omega
        have b2 : 6 + s.size ≤ 9223372036854775807 := by omega
        have b3 : 8 + s.size ≤ 9223372036854775807 := by omega
        simp only [b1, b2, b3, if_true]
        by_cases h1 : j = 1
        · simp [h1]
        · by_cases h2 : j = 2
          · simp [h2]
          · have h3 : j = 3 := by omega
            simp [h3]
      · rfl
    · rw [if_neg (by simpa using hr)]
      have h1 : j ≠ 1 := by omega
      have h2 : j ≠ 2 := by omega
      have h3 : j ≠ 3 := by omega
      simp [h0, h1, h2, h3]
theorem p_implText (j : Int) (s : ByteArray) (hs : s.size ≤ 9223372036854775000) (k : Nat) (hk : s.size + 1 < k) : impl_ProblemText.f k j s = some (txt j s) := by
  obtain ⟨k, rfl⟩ : ∃ m, k = m + 1 := ⟨k - 1, by omega⟩
  unfold impl_ProblemText.f txt
  have b1 : 3 + s.size ≤ 9223372036854775807 := by omega
  have b2 : 6 + s.size ≤ 9223372036854775807 := by omega
  have b3 : 8 + s.size ≤ 9223372036854775807 := by omega
  simp only [impl_ProblemText.j0, b1, b2, b3, if_true, p_isName s (show s.size ≤ 9223372036854775807 by omega) k (by omega), Option.bind_some]
  by_cases h0 : j = 0
  · subst h0
    by_cases hn : s.toList = []
    · simp [hn]
    · rw [if_pos rfl, if_pos rfl, if_neg hn, if_neg (by simpa using hn)]
      split <;> rfl
  · rw [if_neg h0, if_neg h0, if_neg (by decide)]
    split
    · repeat' split
      all_goals first | rfl | omega
    · rfl
theorem txt_size (j : Int) (s : ByteArray) (h : s.size ≤ 10) : (txt j s).size ≤ 100 := by
  unfold txt
  repeat' split
  all_goals first | decide | (rw [ByteArray.size_append]; have : (⟨#[110, 111, 32]⟩ : ByteArray).size = 3 := rfl; have : (⟨#[116, 119, 105, 99, 101, 32]⟩ : ByteArray).size = 6 := rfl; have : (⟨#[109, 105, 115, 115, 105, 110, 103, 32]⟩ : ByteArray).size = 8 := rfl; omega)
end Go.Proofs.Ytjcaiekalobmfaa.Pure
