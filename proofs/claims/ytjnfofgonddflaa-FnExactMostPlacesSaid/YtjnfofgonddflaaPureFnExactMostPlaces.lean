import Derived.Test.YtjnfofgonddflaaLMore
import Derived.Test.YtjnfofgonddflaaPBase
import Derived.Test.YtjnfofgonddflaaPCountP
import Derived.Test.YtjnfofgonddflaaPKindP
import Derived.Test.YtjnfofgonddflaaPLoops
import Derived.Test.YtjnfofgonddflaaPSigs
import Derived.Test.YtjnfofgonddflaaPWide
import Derived.Test.YtjnfofgonddflaaPXLoops
import Derived.Test.YtjnfofgonddflaaPXParam
import Derived.Test.YtjnfofgonddflaaPXSig
import Derived.Test.YtjnfofgonddflaaM3FnExactMostPlaces
import Derived.Test.YtjnfofgonddflaaM5FnExactMostPlaces
import Derived.Test.YtjnfofgonddflaaRFnExactMostPlaces
namespace Go.Proofs.Ytjnfofgonddflaa.Pure
open Go.RowKit Go.Proofs.Ytjnfofgonddflaa.Q Go.Proofs.YtjnfofgonddflaaL.PrintWords Go.Proofs.YtjnfofgonddflaaL.PrintLast Go.Proofs.YtjnfofgonddflaaL.PrintMore
set_option linter.unusedVariables false
set_option linter.unusedSimpArgs false
theorem FnExactMostPlaces : laws_FnExactMostPlaces.Pure := by
  intro l ⟨hl, hs⟩
  obtain ⟨K, hK⟩ : ∃ K : Nat, K = 60000000 := ⟨_, rfl⟩
  refine ⟨K, ?_⟩
  unfold laws_FnExactMostPlaces.f
  obtain ⟨r, hr, hc⟩ := p_szSig l hl (fun x hx => (hs x hx).1) K (by omega) 1048576 (by omega) (by omega)
  rw [hr, Option.bind_some]
  rcases hc with hc | ⟨c0, _, c1, c2⟩
  · rw [if_pos hc]
  rw [if_neg (by omega), p_toSig l (by omega) K (by omega)]
  simp only [Option.bind_some]
  have h1 : (l.map cParam).length ≤ 1048576 := by rw [List.length_map]; exact c1
  have h2 := cParam_small c2
  generalize l.map cParam = ps at h1 h2
  have key : spec_MostPlaces.f K ps = some (if vsig ps = true then (if kAt ps 2 ≥ 0 then -1 else (((ps.filter placed).length : Nat) : Int)) else -2) := by
    unfold spec_MostPlaces.f spec_validSignature.f
    rw [p_specSig ps (by omega) h2 K (by omega), p_kindAt ps 2 (by omega) K (by omega), p_placeCount ps (by omega) K (by omega)]
    simp only [Option.bind_some]
    split
    · split <;> rfl
    · rfl
  have key2 : impl_MostPlaces.f K ps = some (if vsig ps = true then (if kAt ps 2 ≥ 0 then -1 else (((ps.filter placed).length : Nat) : Int)) else -2) := by
    unfold impl_MostPlaces.f impl_Signature_places.f
    rw [p_implSig ps (by omega) h2 K (by omega), p_has, if_pos (by omega)]
    simp only [Option.bind_some]
    split
    · by_cases h : kAt ps 2 ≥ 0
      · simp [h]
      · simp [h]
        rfl
    · rfl
  rw [key, key2]
  simp only [Option.bind_some]
  rw [p_xeqSig ps (by omega) K (by omega)]
  simp
end Go.Proofs.Ytjnfofgonddflaa.Pure
