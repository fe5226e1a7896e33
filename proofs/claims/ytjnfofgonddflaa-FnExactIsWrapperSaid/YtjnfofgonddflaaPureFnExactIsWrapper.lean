import Derived.Test.YtjnfofgonddflaaLMore
import Derived.Test.YtjnfofgonddflaaPBase
import Derived.Test.YtjnfofgonddflaaPKindP
import Derived.Test.YtjnfofgonddflaaPLoops
import Derived.Test.YtjnfofgonddflaaPSigs
import Derived.Test.YtjnfofgonddflaaPWide
import Derived.Test.YtjnfofgonddflaaPXLoops
import Derived.Test.YtjnfofgonddflaaPXParam
import Derived.Test.YtjnfofgonddflaaPXSig
import Derived.Test.YtjnfofgonddflaaQ26
import Derived.Test.YtjnfofgonddflaaQ28
import Derived.Test.YtjnfofgonddflaaQ29
import Derived.Test.YtjnfofgonddflaaRFnExactIsWrapper
namespace Go.Proofs.Ytjnfofgonddflaa.Pure
open Go.RowKit Go.Proofs.Ytjnfofgonddflaa.Q Go.Proofs.YtjnfofgonddflaaL.PrintWords Go.Proofs.YtjnfofgonddflaaL.PrintLast Go.Proofs.YtjnfofgonddflaaL.PrintMore
set_option linter.unusedVariables false
set_option linter.unusedSimpArgs false
theorem FnExactIsWrapper : laws_FnExactIsWrapper.Pure := by
  intro l ⟨hl, hs⟩
  obtain ⟨K, hK⟩ : ∃ K : Nat, K = 60000000 := ⟨_, rfl⟩
  refine ⟨K, ?_⟩
  unfold laws_FnExactIsWrapper.f
  obtain ⟨r, hr, hc⟩ := p_szSig l hl (fun x hx => (hs x hx).1) K (by omega) 1048576 (by omega) (by omega)
  rw [hr, Option.bind_some]
  rcases hc with hc | ⟨c0, _, c1, c2⟩
  · rw [if_pos hc]
  rw [if_neg (by omega), p_toSig l (by omega) K (by omega)]
  simp only [Option.bind_some]
  have h1 : (l.map cParam).length ≤ 1048576 := by rw [List.length_map]; exact c1
  have h2 := cParam_small c2
  generalize l.map cParam = ps at h1 h2
  have key : spec_IsWrapper.f K ps = some (vsig ps && (decide (kAt ps 2 ≥ 0) && decide (kAt ps 4 ≥ 0))) := by
    unfold spec_IsWrapper.f spec_isWrapper.f spec_validSignature.f
    rw [p_specSig ps (by omega) h2 K (by omega), p_kindAt ps 2 (by omega) K (by omega), p_kindAt ps 4 (by omega) K (by omega)]
    simp only [Option.bind_some]
    cases vsig ps <;> by_cases h : kAt ps 2 ≥ 0 <;> simp [h]
  have key2 : impl_IsWrapper.f K ps = some (vsig ps && (decide (kAt ps 2 ≥ 0) && decide (kAt ps 4 ≥ 0))) := by
    unfold impl_IsWrapper.f
    rw [p_implSig ps (by omega) h2 K (by omega), p_has, p_has]
    simp only [Option.bind_some]
    cases vsig ps <;> by_cases h : kAt ps 2 ≥ 0 <;> simp [h]
  rw [key, key2]
  simp only [Option.bind_some]
  rw [p_xeqSig ps (by omega) K (by omega)]
  simp
end Go.Proofs.Ytjnfofgonddflaa.Pure
