-- written by px.py and merge.py (programs of this claim's), over the kit's print. Not trusted: Lean checks it.
import Derived.Test.YtkandhljbbolnaaLMore
import Derived.Test.YtkandhljbbolnaaN0FnExactDropName
import Derived.Test.YtkandhljbbolnaaM4FnExactDropName
import Derived.Test.YtkandhljbbolnaaM2FnExactDropName
import Derived.Test.YtkandhljbbolnaaM3FnExactDropName
import Derived.Test.YtkandhljbbolnaaRFnExactDropName
namespace Go.Proofs.Ytkandhljbbolnaa.Pure
open Go.RowKit Go.Proofs.Ytkandhljbbolnaa.Q Go.Proofs.YtkandhljbbolnaaL.PrintWords Go.Proofs.YtkandhljbbolnaaL.PrintLast Go.Proofs.YtkandhljbbolnaaL.PrintMore
set_option linter.unusedVariables false
set_option linter.unusedSimpArgs false
theorem FnExactDropName : laws_FnExactDropName.Pure := by
  intro ps l a ⟨hp, _⟩ ⟨hl, hs⟩ ha
  obtain ⟨K, hK⟩ : ∃ K : Nat, K = 60000000 := ⟨_, rfl⟩
  refine ⟨K, ?_⟩
  unfold laws_FnExactDropName.f
  unfold maxLen at ha
  by_cases h0 : (a.size : Int) > 1048576
  · rw [if_pos h0]
  rw [if_neg h0]
  obtain ⟨r, hr, hc⟩ := p_szFlat ps l hp hl (fun x hx => (hs x hx).1) K (by omega)
  rw [hr, Option.bind_some]
  rcases hc with hc | ⟨c0, c1, c2, c3⟩
  · rw [if_pos hc]
  rw [if_neg (by omega), p_toFlat ps l (by omega) (by omega) K (by omega)]
  simp only [Option.bind_some]
  have h1 : (l.map cPair).length ≤ 1048576 := by rw [List.length_map]; exact c2
  have h2 := cPair_small c3
  generalize l.map cPair = ns at h1 h2
  rw [p_specDropName ps ns a (by omega) (by omega) h2 K (by omega), p_implDropName ps ns a (by omega) (by omega) h2 K (by omega)]
  simp only [Option.bind_some]
  have b1 : (dropN ps ns a).1.length ≤ 1048576 := Nat.le_trans (dropN_len ps ns a).1 c1
  have b2 : (dropN ps ns a).2.1.length ≤ 1048576 := Nat.le_trans (dropN_len ps ns a).2 h1
  generalize dropN ps ns a = out at b1 b2
  obtain ⟨o1, o2, o3⟩ := out
  dsimp only at b1 b2 ⊢
  rw [p_xeqFlat o1 o2 (by omega) (by omega) K (by omega), p_xeqFlat ps ns (by omega) (by omega) K (by omega), p_markFlat ps ns c1 h1 K (by omega), p_markFlat o1 o2 b1 b2 K (by omega)]
  simp only [Option.bind_some, bne_self_eq_false, Bool.false_eq_true, if_true, if_false]
  rw [p_heldFlat o1 o2 b1 b2 K (by omega)]
  have n1 : ¬ ((1 : Int) + (1 * ps.length : Nat) + (2 * ns.length : Nat) < 0) := by omega
  have n2 : ¬ ((1 : Int) + (1 * o1.length : Nat) + (2 * o2.length : Nat) < 0) := by omega
  simp only [Option.bind_some, if_neg n1, if_neg n2, if_true]
end Go.Proofs.Ytkandhljbbolnaa.Pure
