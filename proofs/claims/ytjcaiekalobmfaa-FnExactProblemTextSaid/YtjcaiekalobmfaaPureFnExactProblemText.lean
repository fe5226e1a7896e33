import Derived.Test.YtjcaiekalobmfaaLMore
import Derived.Test.YtjcaiekalobmfaaPBase
import Derived.Test.YtjcaiekalobmfaaQ5
import Derived.Test.YtjcaiekalobmfaaQ8
import Derived.Test.YtjcaiekalobmfaaQ9
import Derived.Test.YtjcaiekalobmfaaRFnExactProblemText
namespace Go.Proofs.Ytjcaiekalobmfaa.Pure
open Go.RowKit Go.Proofs.Ytjcaiekalobmfaa.Q Go.Proofs.YtjcaiekalobmfaaL.PrintWords Go.Proofs.YtjcaiekalobmfaaL.PrintLast Go.Proofs.YtjcaiekalobmfaaL.PrintMore
set_option linter.unusedVariables false
set_option linter.unusedSimpArgs false
theorem FnExactProblemText : laws_FnExactProblemText.Pure := by
  intro c s hc hs
  unfold maxLen at hs
  obtain ⟨K, hK⟩ : ∃ K : Nat, K = 60000000 := ⟨_, rfl⟩
  refine ⟨K, ?_⟩
  unfold laws_FnExactProblemText.f laws_szProblem.f
  rw [wrap_in (by omega) (by omega)]
  by_cases h0 : (1048576 : Int) - (s.size : Int) < 0
  · rw [if_pos h0, Option.bind_some, if_pos (by omega)]
  rw [if_neg h0, Option.bind_some, if_neg h0]
  unfold laws_toProblem.f
  simp only [Option.bind_some]
  obtain ⟨K, rfl⟩ : ∃ m, K = m + 1 := ⟨K - 1, by omega⟩
  have e1 : 3 + s.size ≤ 9223372036854775807 := by omega
  have e2 : 6 + s.size ≤ 9223372036854775807 := by omega
  have e3 : 8 + s.size ≤ 9223372036854775807 := by omega
  have key : spec_ProblemText.f (K + 1) c s = impl_ProblemText.f (K + 1) c s := by
    unfold spec_ProblemText.f impl_ProblemText.f spec_problemText.f
    simp only [impl_ProblemText.j0]
    rw [p_inRange, p_validName s (by omega) (K + 1) (by omega), p_isName s (by omega) K (by omega)]
    simp only [Option.bind_some, e1, e2, e3, if_true]
    by_cases c0 : c = 0
    · subst c0
      by_cases hsz : s.toList = []
      · simp [hsz]
      · have : pxName s = true ∨ pxName s = false := by cases pxName s <;> simp
        rcases this with h | h <;> simp [hsz, h]
    · by_cases c1 : c = 1
      · subst c1
        cases pxName s <;> simp
      · by_cases c2 : c = 2
        · subst c2
          cases pxName s <;> simp
        · by_cases c3 : c = 3
          · subst c3
            cases pxName s <;> simp
          · have : (decide (0 ≤ c) && decide (c ≤ 3)) = false := by
              rw [Bool.and_eq_false_iff]
              simp only [decide_eq_false_iff_not]
              omega
            cases pxName s <;> simp [c0, c1, c2, c3, this]
  have tot : ∃ r, impl_ProblemText.f (K + 1) c s = some r := by
    unfold impl_ProblemText.f
    simp only [impl_ProblemText.j0]
    rw [p_isName s (by omega) K (by omega)]
    simp only [Option.bind_some, e1, e2, e3, if_true]
    repeat' split
    all_goals exact ⟨_, rfl⟩
  obtain ⟨r, hr⟩ := tot
  rw [key, hr]
  simp
end Go.Proofs.Ytjcaiekalobmfaa.Pure
