import Derived.Test.YtjcaiekalobmfaaLMore
import Derived.Test.YtjcaiekalobmfaaPBase
import Derived.Test.YtjcaiekalobmfaaPLoops
import Derived.Test.YtjcaiekalobmfaaPSigs
import Derived.Test.YtjcaiekalobmfaaPWide
import Derived.Test.YtjcaiekalobmfaaPXLoops
import Derived.Test.YtjcaiekalobmfaaPXParam
import Derived.Test.YtjcaiekalobmfaaPXSig
import Derived.Test.YtjcaiekalobmfaaQ86
import Derived.Test.YtjcaiekalobmfaaQ91
import Derived.Test.YtjcaiekalobmfaaQ95
import Derived.Test.YtjcaiekalobmfaaRFnExactValidSignature
namespace Go.Proofs.Ytjcaiekalobmfaa.Pure
open Go.RowKit Go.Proofs.Ytjcaiekalobmfaa.Q Go.Proofs.YtjcaiekalobmfaaL.PrintWords Go.Proofs.YtjcaiekalobmfaaL.PrintLast Go.Proofs.YtjcaiekalobmfaaL.PrintMore
set_option linter.unusedVariables false
set_option linter.unusedSimpArgs false
theorem FnExactValidSignature : laws_FnExactValidSignature.Pure := by
  intro l ⟨hl, hs⟩
  obtain ⟨K, hK⟩ : ∃ K : Nat, K = 60000000 := ⟨_, rfl⟩
  refine ⟨K, ?_⟩
  unfold laws_FnExactValidSignature.f
  obtain ⟨r, hr, hc⟩ := p_szSig l hl (fun x hx => (hs x hx).1) K (by omega) 1048576 (by omega) (by omega)
  rw [hr, Option.bind_some]
  rcases hc with hc | ⟨c0, _, c1, c2⟩
  · rw [if_pos hc]
  rw [if_neg (by omega), p_toSig l (by omega) K (by omega)]
  simp only [Option.bind_some]
  have h1 : (l.map cParam).length ≤ 1048576 := by rw [List.length_map]; exact c1
  have h2 := cParam_small c2
  generalize l.map cParam = ps at h1 h2
  unfold spec_ValidSignature.f spec_validSignature.f
  rw [p_specSig ps (by omega) h2 K (by omega), p_implSig ps (by omega) h2 K (by omega)]
  simp only [Option.bind_some]
  rw [p_xeqSig ps (by omega) K (by omega)]
  simp
end Go.Proofs.Ytjcaiekalobmfaa.Pure
