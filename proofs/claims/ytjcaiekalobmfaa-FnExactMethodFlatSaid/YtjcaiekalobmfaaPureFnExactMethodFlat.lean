import Derived.Test.YtjcaiekalobmfaaLMore
import Derived.Test.YtjcaiekalobmfaaPBase
import Derived.Test.YtjcaiekalobmfaaPFlatOps
import Derived.Test.YtjcaiekalobmfaaPLoops
import Derived.Test.YtjcaiekalobmfaaPMFlat
import Derived.Test.YtjcaiekalobmfaaPMethodP
import Derived.Test.YtjcaiekalobmfaaPPairs
import Derived.Test.YtjcaiekalobmfaaPXFlat
import Derived.Test.YtjcaiekalobmfaaPXLoops
import Derived.Test.YtjcaiekalobmfaaQ41
import Derived.Test.YtjcaiekalobmfaaQ58
import Derived.Test.YtjcaiekalobmfaaQ66
import Derived.Test.YtjcaiekalobmfaaRFnExactMethodFlat
namespace Go.Proofs.Ytjcaiekalobmfaa.Pure
open Go.RowKit Go.Proofs.Ytjcaiekalobmfaa.Q Go.Proofs.YtjcaiekalobmfaaL.PrintWords Go.Proofs.YtjcaiekalobmfaaL.PrintLast Go.Proofs.YtjcaiekalobmfaaL.PrintMore
set_option linter.unusedVariables false
set_option linter.unusedSimpArgs false
theorem FnExactMethodFlat : laws_FnExactMethodFlat.Pure := by
  intro v ps0 l hv ⟨hp, _⟩ ⟨hl, hs⟩
  obtain ⟨K, hK⟩ : ∃ K : Nat, K = 60000000 := ⟨_, rfl⟩
  refine ⟨K, ?_⟩
  unfold laws_FnExactMethodFlat.f
  obtain ⟨r, hr, hc⟩ := p_szFlat ps0 l hp hl (fun x hx => (hs x hx).1) K (by omega)
  rw [hr, Option.bind_some]
  rcases hc with hc | ⟨c0, c1, c2, c3⟩
  · rw [if_pos hc]
  rw [if_neg (by omega), p_toFlat ps0 l (by omega) (by omega) K (by omega)]
  simp only [Option.bind_some]
  have h1 : (l.map cPair).length ≤ 1048576 := by rw [List.length_map]; exact c2
  have h2 := cPair_small c3
  generalize l.map cPair = ns at h1 h2
  rw [p_specMethodFlat v ps0 ns (by omega) (by omega) h2 K (by omega), p_implMethodFlat v ps0 ns (by omega) (by omega) h2 K (by omega)]
  simp only [Option.bind_some]
  have b1 : (methodFlat v ps0 ns).1.length ≤ 1048576 := by
    unfold methodFlat
    split
    · rename_i h
      have := (show vflat (v :: ps0) ns = true by simp only [Bool.and_eq_true] at h; exact h.2)
      unfold vflat at this
      simp only [Bool.and_eq_true, decide_eq_true_eq] at this
      show (v :: ps0).length ≤ _
      omega
    · simp
  have b2 : (methodFlat v ps0 ns).2.1.length ≤ 1048576 := by
    unfold methodFlat
    split <;> simp <;> omega
  generalize methodFlat v ps0 ns = out at b1 b2
  obtain ⟨o1, o2, o3⟩ := out
  dsimp only at b1 b2 ⊢
  rw [p_xeqFlat o1 o2 (by omega) (by omega) K (by omega), p_xeqFlat ps0 ns (by omega) (by omega) K (by omega), p_markFlat ps0 ns c1 h1 K (by omega), p_markFlat o1 o2 b1 b2 K (by omega)]
  simp only [Option.bind_some, bne_self_eq_false, Bool.false_eq_true, if_true, if_false]
  rw [p_heldFlat o1 o2 b1 b2 K (by omega)]
  have n1 : ¬ ((1 : Int) + (1 * ps0.length : Nat) + (2 * ns.length : Nat) < 0) := by omega
  have n2 : ¬ ((1 : Int) + (1 * o1.length : Nat) + (2 * o2.length : Nat) < 0) := by omega
  simp only [Option.bind_some, if_neg n1, if_neg n2, if_true]
end Go.Proofs.Ytjcaiekalobmfaa.Pure
