-- written by px.py and merge.py (programs of this claim's), over the kit's print. Not trusted: Lean checks it.
import Derived.Test.YtlpmggokgcphiaaLMore
import Derived.Test.YtlpmggokgcphiaaN0FnExactClearDefault
import Derived.Test.YtlpmggokgcphiaaM3FnExactClearDefault
import Derived.Test.YtlpmggokgcphiaaM5FnExactClearDefault
import Derived.Test.YtlpmggokgcphiaaRFnExactClearDefault
namespace Go.Proofs.Ytlpmggokgcphiaa.Pure
open Go.RowKit Go.Proofs.Ytlpmggokgcphiaa.Q Go.Proofs.YtlpmggokgcphiaaL.PrintWords Go.Proofs.YtlpmggokgcphiaaL.PrintLast Go.Proofs.YtlpmggokgcphiaaL.PrintMore
set_option linter.unusedVariables false
set_option linter.unusedSimpArgs false
theorem FnExactClearDefault : laws_FnExactClearDefault.Pure := by
  intro l a ⟨hl, hs⟩ ha
  obtain ⟨K, hK⟩ : ∃ K : Nat, K = 60000000 := ⟨_, rfl⟩
  refine ⟨K, ?_⟩
  unfold laws_FnExactClearDefault.f
  unfold maxLen at ha
  by_cases h0 : (a.size : Int) > 1048576
  · rw [if_pos h0]
  rw [if_neg h0]
  obtain ⟨r, hr, hc⟩ := p_szSig l hl (fun x hx => (hs x hx).1) K (by omega) 1048576 (by omega) (by omega)
  rw [hr, Option.bind_some]
  rcases hc with hc | ⟨c0, _, c1, c2⟩
  · rw [if_pos hc]
  rw [if_neg (by omega), p_toSig l (by omega) K (by omega)]
  simp only [Option.bind_some]
  have h1 : (l.map cParam).length ≤ 1048576 := by rw [List.length_map]; exact c1
  have h2 := cParam_small c2
  generalize l.map cParam = ps at h1 h2
  have hT := chgP_len (fun x => ⟨x.f0, x.f1, false, 0⟩) (fun x => x.f2) ps a
  rw [p_specClearDefault ps a (by omega) h2 K (by omega), show impl_ClearDefault.f K ps a = some (chgP (fun x => ⟨x.f0, x.f1, false, 0⟩) (fun x => x.f2) ps a) from p_chg (fun x => ⟨x.f0, x.f1, false, 0⟩) (fun x => x.f2) ps a (by omega) h2 (fun x hx => h2 x hx) K (by omega)]
  simp only [Option.bind_some]
  replace hT : (chgP (fun x => ⟨x.f0, x.f1, false, 0⟩) (fun x => x.f2) ps a).1.length ≤ 1048576 := by omega
  generalize chgP (fun x => ⟨x.f0, x.f1, false, 0⟩) (fun x => x.f2) ps a = out at hT
  obtain ⟨rs, ok⟩ := out
  dsimp only at hT ⊢
  rw [p_xeqSig rs (by omega) K (by omega), p_xeqSig ps (by omega) K (by omega), p_markSig ps h1 K (by omega), p_markSig rs hT K (by omega)]
  simp only [Option.bind_some, bne_self_eq_false, Bool.false_eq_true, if_true, if_false]
  rw [p_heldSig rs.length hT K (by omega)]
  have n1 : ¬ ((1 : Int) + (4 * ps.length : Nat) < 0) := by omega
  have n2 : ¬ ((1 : Int) + (4 * rs.length : Nat) < 0) := by omega
  simp only [Option.bind_some, if_neg n1, if_neg n2, if_true]
end Go.Proofs.Ytlpmggokgcphiaa.Pure
