import Derived.Test.YtjnfofgonddflaaLMore
import Derived.Test.YtjnfofgonddflaaPBase
import Derived.Test.YtjnfofgonddflaaPDrawSig
import Derived.Test.YtjnfofgonddflaaPLoops
import Derived.Test.YtjnfofgonddflaaPNames
import Derived.Test.YtjnfofgonddflaaPNumbers
import Derived.Test.YtjnfofgonddflaaPSigs
import Derived.Test.YtjnfofgonddflaaPSigsP
import Derived.Test.YtjnfofgonddflaaPWide
import Derived.Test.YtjnfofgonddflaaQ11
import Derived.Test.YtjnfofgonddflaaQ16
import Derived.Test.YtjnfofgonddflaaQ17
namespace Go.Proofs.Ytjnfofgonddflaa.Pure
open Go.RowKit Go.Proofs.Ytjnfofgonddflaa.Q Go.Proofs.YtjnfofgonddflaaL.PrintWords Go.Proofs.YtjnfofgonddflaaL.PrintLast Go.Proofs.YtjnfofgonddflaaL.PrintMore
set_option linter.unusedVariables false
set_option linter.unusedSimpArgs false
theorem FnValidSignature : laws_FnValidSignature.Pure := by
  intro l hl hs hb
  obtain ⟨K, hK⟩ : ∃ K : Nat, K = 30000000 := ⟨_, rfl⟩
  refine ⟨K + 10, ?_⟩
  unfold laws_FnValidSignature.f
  by_cases h : (l.length : Int) > 1048576
  · rw [if_pos h]
  rw [if_neg h]
  unfold spec_DrawValidSignature.f
  obtain ⟨m, e, hm⟩ := p_newReader l hb
  rw [e, Option.bind_some]
  dsimp only
  obtain ⟨ps, p', e, h1, h2, h3, h4⟩ := p_someSig hm (K + 10) (by omega) (p := 0) (by omega) (by omega)
  have spec : ∀ k, 20000000 ≤ k → spec_ValidSignature.f k ps = some (vsig ps) := by
    intro k hk
    unfold spec_ValidSignature.f spec_validSignature.f
    rw [p_specSig ps (by omega) h4.big k (by omega), Option.bind_some, Option.bind_some]
  rw [e, Option.bind_some, Option.bind_some, p_implSig ps (by omega) h4.big (K + 10) (by omega), Option.bind_some, spec (K + 10) (by omega), Option.bind_some, if_neg (by simp)]
  simp only [laws_FnValidSignature.j0]
  cases hv : vsig ps with
  | false =>
    rw [if_pos (show (!false) = true from rfl), spec (K + 9) (by omega), hv]
    rfl
  | true =>
    have ok := (okS_iff ps).1 hv
    rw [if_neg (by decide)]
    by_cases h0 : (ps.length : Int) = 0
    · rw [if_pos h0]
    · rw [if_neg h0]
      have w : wrap64 ((ps.length : Int) - 1) = ((ps.length - 1 : Nat) : Int) := by rw [wrap_in (by omega) (by omega)]; omega
      have s1 : SmallP (ps.take (ps.length - 1)) := fun x hx => h4 x (List.mem_of_mem_take hx)
      have s2 : SmallP (ps.drop 1) := fun x hx => h4 x (List.mem_of_mem_drop hx)
      rw [w, if_pos (by omega), if_pos (by omega), Int.toNat_natCast, p_implSig _ (by rw [List.length_take]; omega) s1.big (K + 9) (by omega), Option.bind_some, (okS_iff _).2 (ok.take _), if_pos rfl, if_pos (by omega),
        p_implSig _ (by rw [List.length_drop]; omega) s2.big (K + 9) (by omega), Option.bind_some, (okS_iff _).2 (ok.drop _)]
end Go.Proofs.Ytjnfofgonddflaa.Pure
