import Derived.Test.YtjnfofgonddflaaLMore
import Derived.Test.YtjnfofgonddflaaPBase
import Derived.Test.YtjnfofgonddflaaPDrawSig
import Derived.Test.YtjnfofgonddflaaPLoops
import Derived.Test.YtjnfofgonddflaaPNameIn
import Derived.Test.YtjnfofgonddflaaPNames
import Derived.Test.YtjnfofgonddflaaPNumbers
import Derived.Test.YtjnfofgonddflaaPSigs
import Derived.Test.YtjnfofgonddflaaPSigsP
import Derived.Test.YtjnfofgonddflaaPWide
import Derived.Test.YtjnfofgonddflaaQ16
import Derived.Test.YtjnfofgonddflaaQ19
import Derived.Test.YtjnfofgonddflaaQ21
import Derived.Test.YtjnfofgonddflaaQ31
import Derived.Test.YtjnfofgonddflaaQ32
namespace Go.Proofs.Ytjnfofgonddflaa.Pure
open Go.RowKit Go.Proofs.Ytjnfofgonddflaa.Q Go.Proofs.YtjnfofgonddflaaL.PrintWords Go.Proofs.YtjnfofgonddflaaL.PrintLast Go.Proofs.YtjnfofgonddflaaL.PrintMore
set_option linter.unusedVariables false
set_option linter.unusedSimpArgs false
theorem FnFindParam : laws_FnFindParam.Pure := by
  intro l hl hs hb
  obtain ⟨K, hK⟩ : ∃ K : Nat, K = 30000000 := ⟨_, rfl⟩
  refine ⟨K + 10, ?_⟩
  unfold laws_FnFindParam.f
  by_cases h : (l.length : Int) > 1048576
  · rw [if_pos h]
  rw [if_neg h]
  unfold spec_DrawFindParam.f
  obtain ⟨m, e, hm⟩ := p_newReader l hb
  rw [e, Option.bind_some]
  dsimp only
  obtain ⟨ps, s, p', e, h1, h2, h3, h4, h5⟩ := p_nameIn hm (K + 10) (by omega) (p := 0) (by omega) (by omega)
  rw [e, Option.bind_some, Option.bind_some]
  dsimp only
  have impl : ∀ k s, 20000000 ≤ k → impl_FindParam.f k ps s = some (if vsig ps = true then pxIdx (fun x : PA => x.f0.toList == s.toList) ps else -1) := by
    intro k s hk
    unfold impl_FindParam.f
    rw [p_implSig ps (by omega) h4.big k (by omega), Option.bind_some]
    split <;> rfl
  have spec : ∀ k s, 20000000 ≤ k → spec_FindParam.f k ps s = some (if vsig ps = true then pxIdx (fun x : PA => x.f0.toList == s.toList) ps else -1) := by
    intro k s hk
    unfold spec_FindParam.f spec_validSignature.f
    rw [p_specSig ps (by omega) h4.big k (by omega), Option.bind_some, Option.bind_some, p_specFind ps s (by omega) k (by omega)]
    split <;> rfl
  rw [impl (K + 10) s (by omega), Option.bind_some, spec (K + 10) s (by omega), Option.bind_some, if_pos rfl, p_implSig ps (by omega) h4.big (K + 10) (by omega), Option.bind_some]
  simp only [laws_FnFindParam.j0]
  cases hv : vsig ps with
  | false =>
    rw [if_pos (show (!false) = true from rfl), spec (K + 9) s (by omega), Option.bind_some, hv]
    simp
  | true =>
    have ok := (okS_iff ps).1 hv
    rw [if_neg (by decide), if_pos rfl]
    have w := loop_all0 (fun k i => laws_FnFindParam.l0 k s (pxIdx (fun x : PA => x.f0.toList == s.toList) ps) i ps) (fun _ => true) true ps.length 25000000 (K + 9) (by omega) (fun k i hk hi => ?_) (fun k hk => ?_) (by omega)
    · rw [w]; simp
    · simp only [laws_FnFindParam.l0]
      rw [if_pos (by omega), if_pos (by omega), rdpa, impl k _ (by omega), Option.bind_some, hv, if_pos rfl, getD_at ps paz i hi, idx_self ok.names i hi]
      simp
    · simp only [laws_FnFindParam.l0]
      rw [if_neg (by omega)]
      rcases pxIdx_range (fun x : PA => x.f0.toList == s.toList) ps with e | ⟨i, hi, e⟩
      · rw [e, if_pos (by omega)]
      · rw [e, if_neg (by omega), if_pos (by omega), if_pos (by omega), rdpa]
        have hp : (fun x : PA => x.f0.toList == s.toList) (ps.getD i paz) = true := by
          unfold pxIdx at e
          cases hf : ps.findIdx? (fun x : PA => x.f0.toList == s.toList) with
          | none => rw [hf] at e; simp at e <;> omega
          | some j =>
            rw [hf] at e
            have : j = i := by
              simp only at e
              omega
            subst this
            rw [List.findIdx?_eq_some_iff_getElem] at hf
            rw [getD_at ps paz j hi]
            exact hf.2.1
        dsimp only at hp
        rw [hp]
end Go.Proofs.Ytjnfofgonddflaa.Pure
