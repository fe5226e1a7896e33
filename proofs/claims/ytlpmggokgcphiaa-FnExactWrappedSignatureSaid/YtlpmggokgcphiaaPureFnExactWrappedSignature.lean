-- written by px.py and merge.py (programs of this claim's), over the kit's print. Not trusted: Lean checks it.
import Derived.Test.YtlpmggokgcphiaaLMore
import Derived.Test.YtlpmggokgcphiaaN0FnExactWrappedSignature
import Derived.Test.YtlpmggokgcphiaaM3FnExactWrappedSignature
import Derived.Test.YtlpmggokgcphiaaM5FnExactWrappedSignature
import Derived.Test.YtlpmggokgcphiaaM6FnExactWrappedSignature
import Derived.Test.YtlpmggokgcphiaaRFnExactWrappedSignature
namespace Go.Proofs.Ytlpmggokgcphiaa.Pure
open Go.RowKit Go.Proofs.Ytlpmggokgcphiaa.Q Go.Proofs.YtlpmggokgcphiaaL.PrintWords Go.Proofs.YtlpmggokgcphiaaL.PrintLast Go.Proofs.YtlpmggokgcphiaaL.PrintMore
set_option linter.unusedVariables false
set_option linter.unusedSimpArgs false
theorem FnExactWrappedSignature : laws_FnExactWrappedSignature.Pure := by
  intro la lb ⟨hla, hsa⟩ ⟨hlb, hsb⟩
  obtain ⟨K, hK⟩ : ∃ K : Nat, K = 60000000 := ⟨_, rfl⟩
  refine ⟨K, ?_⟩
  unfold laws_FnExactWrappedSignature.f
  obtain ⟨r, hr, hc⟩ := p_szSig la hla (fun x hx => (hsa x hx).1) K (by omega) 1048576 (by omega) (by omega)
  rw [hr, Option.bind_some]
  rcases hc with hc | ⟨c0, c3, c1, c2⟩
  · rw [if_pos hc]
  rw [if_neg (by omega)]
  obtain ⟨r', hr', hc'⟩ := p_szSig lb hlb (fun x hx => (hsb x hx).1) K (by omega) r (by omega) (by omega)
  rw [hr', Option.bind_some]
  rcases hc' with hc' | ⟨d0, d3, d1, d2⟩
  · rw [if_pos hc']
  rw [if_neg (by omega), p_toSig la (by omega) K (by omega), p_toSig lb (by omega) K (by omega)]
  simp only [Option.bind_some]
  have h1 : (la.map cParam).length ≤ 1048576 := by rw [List.length_map]; exact c1
  have h2 := cParam_small c2
  have h3 : (lb.map cParam).length ≤ 1048576 := by rw [List.length_map]; exact d1
  have h4 := cParam_small d2
  generalize la.map cParam = a at h1 h2
  generalize lb.map cParam = b at h3 h4
  have hT := wrapP_len a b
  rw [p_specWrap a b (by omega) (by omega) h2 h4 K (by omega), p_implWrap a b (by omega) (by omega) h2 h4 K (by omega)]
  simp only [Option.bind_some]
  replace hT : (wrapP a b).1.length ≤ 1048576 := by omega
  generalize wrapP a b = out at hT
  obtain ⟨rs, ok⟩ := out
  dsimp only at hT ⊢
  have hm : laws_markSignature.f K b ((1 : Int) + (4 * a.length : Nat)) = some ((1 : Int) + (4 * a.length : Nat) + (4 * b.length : Nat), marked gParam 4 b.length ((1 : Int) + (4 * a.length : Nat))) := by
    unfold laws_markSignature.f
    rw [p_markParamS b h3 K (by omega) _ (by omega) (by omega), Option.bind_some]
  rw [p_xeqSig rs (by omega) K (by omega), p_xeqSig a (by omega) K (by omega), p_xeqSig b (by omega) K (by omega), p_markSig a h1 K (by omega), p_markSig rs hT K (by omega)]
  simp only [Option.bind_some, bne_self_eq_false, Bool.false_eq_true, if_true, if_false]
  rw [hm]
  simp only [Option.bind_some]
  rw [p_heldSig rs.length hT K (by omega)]
  have n1 : ¬ ((1 : Int) + (4 * a.length : Nat) + (4 * b.length : Nat) < 0) := by omega
  have n2 : ¬ ((1 : Int) + (4 * rs.length : Nat) < 0) := by omega
  simp only [Option.bind_some, if_neg n1, if_neg n2, if_true]
end Go.Proofs.Ytlpmggokgcphiaa.Pure
