import Derived.Test.YtkandhljbbolnaaLMore
import Derived.Test.YtkandhljbbolnaaPAddP
import Derived.Test.YtkandhljbbolnaaPBase
import Derived.Test.YtkandhljbbolnaaPFlatOps
import Derived.Test.YtkandhljbbolnaaPLoops
import Derived.Test.YtkandhljbbolnaaPMFlat
import Derived.Test.YtkandhljbbolnaaPPairs
import Derived.Test.YtkandhljbbolnaaPXFlat
import Derived.Test.YtkandhljbbolnaaPXLoops
import Derived.Test.YtkandhljbbolnaaQ56
import Derived.Test.YtkandhljbbolnaaQ58
import Derived.Test.YtkandhljbbolnaaQ67
import Derived.Test.YtkandhljbbolnaaRFnExactAddPlace
namespace Go.Proofs.Ytkandhljbbolnaa.Pure
open Go.RowKit Go.Proofs.Ytkandhljbbolnaa.Q Go.Proofs.YtkandhljbbolnaaL.PrintWords Go.Proofs.YtkandhljbbolnaaL.PrintLast Go.Proofs.YtkandhljbbolnaaL.PrintMore
set_option linter.unusedVariables false
set_option linter.unusedSimpArgs false
theorem FnExactAddPlace : laws_FnExactAddPlace.Pure := by
  intro ps l v ⟨hp, _⟩ ⟨hl, hs⟩ hv
  obtain ⟨K, hK⟩ : ∃ K : Nat, K = 60000000 := ⟨_, rfl⟩
  refine ⟨K, ?_⟩
  unfold laws_FnExactAddPlace.f
  obtain ⟨r, hr, hc⟩ := p_szFlat ps l hp hl (fun x hx => (hs x hx).1) K (by omega)
  rw [hr, Option.bind_some]
  rcases hc with hc | ⟨c0, c1, c2, c3⟩
  · rw [if_pos hc]
  rw [if_neg (by omega), p_toFlat ps l (by omega) (by omega) K (by omega)]
  simp only [Option.bind_some]
  have h1 : (l.map cPair).length ≤ 1048576 := by rw [List.length_map]; exact c2
  have h2 := cPair_small c3
  generalize l.map cPair = ns at h1 h2
  rw [p_specAdd ps ns v (by omega) (by omega) h2 K (by omega), p_implAdd ps ns v (by omega) (by omega) h2 K (by omega)]
  simp only [Option.bind_some]
  have b1 : (addPlace ps ns v).1.length ≤ 1048576 := by
    unfold addPlace
    split
    · rename_i h
      have h := (Bool.and_eq_true _ _ ▸ h).2
      unfold vflat at h
      simp only [Bool.and_eq_true, decide_eq_true_eq] at h
      dsimp only
      omega
    · simp
  have b2 : (addPlace ps ns v).2.1.length ≤ 1048576 := by
    unfold addPlace
    split
    · rename_i h
      have h := (Bool.and_eq_true _ _ ▸ h).2
      unfold vflat at h
      simp only [Bool.and_eq_true, decide_eq_true_eq] at h
      dsimp only
      omega
    · simp
  generalize addPlace ps ns v = out at b1 b2
  obtain ⟨o1, o2, o3⟩ := out
  dsimp only at b1 b2 ⊢
  rw [p_xeqFlat o1 o2 (by omega) (by omega) K (by omega), p_xeqFlat ps ns (by omega) (by omega) K (by omega), p_markFlat ps ns c1 h1 K (by omega), p_markFlat o1 o2 b1 b2 K (by omega)]
  simp only [Option.bind_some, bne_self_eq_false, Bool.false_eq_true, if_true, if_false]
  rw [p_heldFlat o1 o2 b1 b2 K (by omega)]
  have n1 : ¬ ((1 : Int) + (1 * ps.length : Nat) + (2 * ns.length : Nat) < 0) := by omega
  have n2 : ¬ ((1 : Int) + (1 * o1.length : Nat) + (2 * o2.length : Nat) < 0) := by omega
  simp only [Option.bind_some, if_neg n1, if_neg n2, if_true]
end Go.Proofs.Ytkandhljbbolnaa.Pure
