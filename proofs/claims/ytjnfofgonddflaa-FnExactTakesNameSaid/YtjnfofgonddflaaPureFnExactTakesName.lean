import Derived.Test.YtjnfofgonddflaaLMore
import Derived.Test.YtjnfofgonddflaaPBase
import Derived.Test.YtjnfofgonddflaaPKindP
import Derived.Test.YtjnfofgonddflaaPLoops
import Derived.Test.YtjnfofgonddflaaPSigs
import Derived.Test.YtjnfofgonddflaaPTakesP
import Derived.Test.YtjnfofgonddflaaPWide
import Derived.Test.YtjnfofgonddflaaPXLoops
import Derived.Test.YtjnfofgonddflaaPXParam
import Derived.Test.YtjnfofgonddflaaPXSig
import Derived.Test.YtjnfofgonddflaaQ33
import Derived.Test.YtjnfofgonddflaaQ34
import Derived.Test.YtjnfofgonddflaaQ35
import Derived.Test.YtjnfofgonddflaaRFnExactTakesName
namespace Go.Proofs.Ytjnfofgonddflaa.Pure
open Go.RowKit Go.Proofs.Ytjnfofgonddflaa.Q Go.Proofs.YtjnfofgonddflaaL.PrintWords Go.Proofs.YtjnfofgonddflaaL.PrintLast Go.Proofs.YtjnfofgonddflaaL.PrintMore
set_option linter.unusedVariables false
set_option linter.unusedSimpArgs false
theorem FnExactTakesName : laws_FnExactTakesName.Pure := by
  intro l a ⟨hl, hs⟩ ha
  obtain ⟨K, hK⟩ : ∃ K : Nat, K = 60000000 := ⟨_, rfl⟩
  refine ⟨K, ?_⟩
  unfold laws_FnExactTakesName.f
  unfold maxLen at ha
  by_cases h0 : (a.size : Int) > 1048576
  · rw [if_pos h0]
  rw [if_neg h0]
  obtain ⟨r, hr, hc⟩ := p_szSig l hl (fun x hx => (hs x hx).1) K (by omega) 1048576 (by omega) (by omega)
  rw [hr, Option.bind_some]
  rcases hc with hc | ⟨c0, _, c1, c2⟩
  · rw [if_pos hc]
  rw [if_neg (by omega), p_toSig l (by omega) K (by omega)]
  simp only [Option.bind_some]
  have h1 : (l.map cParam).length ≤ 1048576 := by rw [List.length_map]; exact c1
  have h2 := cParam_small c2
  generalize l.map cParam = ps at h1 h2
  have key : spec_TakesName.f K ps a = some (if (vsig ps && pxName a) = true then takes ps a else -1) := by
    unfold spec_TakesName.f spec_validSignature.f
    rw [p_specSig ps (by omega) h2 K (by omega), p_validName a (by omega) K (by omega), p_specTakes ps a (by omega) K (by omega)]
    simp only [Option.bind_some]
    cases vsig ps <;> cases pxName a <;> simp
  have key2 : impl_TakesName.f K ps a = some (if (vsig ps && pxName a) = true then takes ps a else -1) := by
    unfold impl_TakesName.f
    rw [p_implSig ps (by omega) h2 K (by omega), p_isName a (by omega) K (by omega), p_implTakes ps a]
    simp only [Option.bind_some]
    cases vsig ps <;> cases pxName a <;> simp
  rw [key, key2]
  simp only [Option.bind_some]
  rw [p_xeqSig ps (by omega) K (by omega)]
  simp
end Go.Proofs.Ytjnfofgonddflaa.Pure
