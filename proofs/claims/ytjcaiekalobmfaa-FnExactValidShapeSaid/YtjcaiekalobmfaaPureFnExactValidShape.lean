import Derived.Test.YtjcaiekalobmfaaLMore
import Derived.Test.YtjcaiekalobmfaaPBase
import Derived.Test.YtjcaiekalobmfaaPLoops
import Derived.Test.YtjcaiekalobmfaaPShapeP
import Derived.Test.YtjcaiekalobmfaaPXEqString
import Derived.Test.YtjcaiekalobmfaaPXLoops
import Derived.Test.YtjcaiekalobmfaaPXShape
import Derived.Test.YtjcaiekalobmfaaPXString
import Derived.Test.YtjcaiekalobmfaaQ12
import Derived.Test.YtjcaiekalobmfaaQ14
import Derived.Test.YtjcaiekalobmfaaQ16
import Derived.Test.YtjcaiekalobmfaaRFnExactValidShape
namespace Go.Proofs.Ytjcaiekalobmfaa.Pure
open Go.RowKit Go.Proofs.Ytjcaiekalobmfaa.Q Go.Proofs.YtjcaiekalobmfaaL.PrintWords Go.Proofs.YtjcaiekalobmfaaL.PrintLast Go.Proofs.YtjcaiekalobmfaaL.PrintMore
set_option linter.unusedVariables false
set_option linter.unusedSimpArgs false
theorem FnExactValidShape : laws_FnExactValidShape.Pure := by
  intro c l hc ⟨hl, hs⟩
  obtain ⟨K, hK⟩ : ∃ K : Nat, K = 60000000 := ⟨_, rfl⟩
  refine ⟨K, ?_⟩
  unfold laws_FnExactValidShape.f
  obtain ⟨r, hr, hc⟩ := p_szShape c l hl hs K (by omega)
  rw [hr, Option.bind_some]
  rcases hc with hc | ⟨c0, c1, c2⟩
  · rw [if_pos hc]
  rw [if_neg (by omega), p_toShape c l (by omega) K (by omega)]
  simp only [Option.bind_some]
  unfold spec_ValidShape.f
  rw [p_specShape c l (by omega) (fun x hx => Nat.le_trans (c2 x hx) (by omega)) K (by omega), p_implShape c l (by omega) (fun x hx => Nat.le_trans (c2 x hx) (by omega)) K (by omega)]
  simp only [Option.bind_some]
  rw [p_xeqShape c l (by omega) K (by omega)]
  simp
end Go.Proofs.Ytjcaiekalobmfaa.Pure
