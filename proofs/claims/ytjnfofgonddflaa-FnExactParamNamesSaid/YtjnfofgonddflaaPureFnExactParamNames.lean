-- written by px.py and merge.py (programs of this claim's), over the kit's print. Not trusted: Lean checks it.
import Derived.Test.YtjnfofgonddflaaLMore
import Derived.Test.YtjnfofgonddflaaN0FnExactParamNames
import Derived.Test.YtjnfofgonddflaaM1FnExactParamNames
import Derived.Test.YtjnfofgonddflaaM4FnExactParamNames
import Derived.Test.YtjnfofgonddflaaRFnExactParamNames
namespace Go.Proofs.Ytjnfofgonddflaa.Pure
open Go.RowKit Go.Proofs.Ytjnfofgonddflaa.Q Go.Proofs.YtjnfofgonddflaaL.PrintWords Go.Proofs.YtjnfofgonddflaaL.PrintLast Go.Proofs.YtjnfofgonddflaaL.PrintMore
set_option linter.unusedVariables false
set_option linter.unusedSimpArgs false
theorem FnExactParamNames : laws_FnExactParamNames.Pure := by
  intro l a ⟨hl, hs⟩ ha
  obtain ⟨K, hK⟩ : ∃ K : Nat, K = 60000000 := ⟨_, rfl⟩
  refine ⟨K, ?_⟩
  unfold laws_FnExactParamNames.f
  obtain ⟨r, hr, hc⟩ := p_szSig l hl (fun x hx => (hs x hx).1) K (by omega) 1048576 (by omega) (by omega)
  rw [hr, Option.bind_some]
  rcases hc with hc | ⟨c0, _, c1, c2⟩
  · rw [if_pos hc]
  rw [if_neg (by omega), p_toSig l (by omega) K (by omega)]
  simp only [Option.bind_some]
  have h1 : (l.map cParam).length ≤ 1048576 := by rw [List.length_map]; exact c1
  have h2 := cParam_small c2
  generalize l.map cParam = ps at h1 h2
  have impl : impl_ParamNames.f K ps a = some (if vsig ps = true then namesAt ps a else []) := by
    unfold impl_ParamNames.f
    rw [p_implSig ps (by omega) h2 K (by omega), Option.bind_some, if_pos (show ps.length * 16 ≤ 140737488355328 by omega)]
    split <;> rfl
  have spec : spec_ParamNames.f K ps a = some (if vsig ps = true then namesAt ps a else []) := by
    unfold spec_ParamNames.f spec_validSignature.f
    rw [p_specSig ps (by omega) h2 K (by omega), Option.bind_some, Option.bind_some]
    split
    · have := p_specNames_l0 ps a (by omega) ps.length K 0 [] (by omega) (by simp) (by omega)
      simpa using this
    · rfl
  have hT : (if vsig ps = true then namesAt ps a else []).length ≤ 1048576 := by
    split
    · have := namesAt_len ps a
      omega
    · simp
  rw [impl, spec]
  simp only [Option.bind_some]
  generalize hrs : (if vsig ps = true then namesAt ps a else []) = rs at hT
  rw [p_eqStringS rs (by omega) K (by omega), p_xeqSig ps (by omega) K (by omega), p_markSig ps h1 K (by omega), p_markStringS rs hT K (by omega) 1 (by omega) (by omega)]
  simp only [Option.bind_some, if_true]
  rw [p_heldStringS rs.length hT K (by omega) 1 (by omega) (by omega)]
  have n1 : ¬ ((1 : Int) + (4 * ps.length : Nat) < 0) := by omega
  have n2 : ¬ ((1 : Int) + (1 * rs.length : Nat) < 0) := by omega
  simp only [Option.bind_some, if_neg n1, if_neg n2, if_true]
end Go.Proofs.Ytjnfofgonddflaa.Pure
