import Derived.Test.YtjcaiekalobmfaaLMore
import Derived.Test.YtjcaiekalobmfaaPBase
import Derived.Test.YtjcaiekalobmfaaPBaseR
import Derived.Test.YtjcaiekalobmfaaPDrawHoles
import Derived.Test.YtjcaiekalobmfaaPGoodFlat
import Derived.Test.YtjcaiekalobmfaaPHoles
import Derived.Test.YtjcaiekalobmfaaPLoops
import Derived.Test.YtjcaiekalobmfaaPNames
import Derived.Test.YtjcaiekalobmfaaPNumbers
import Derived.Test.YtjcaiekalobmfaaPPairs
import Derived.Test.YtjcaiekalobmfaaPPutPair
import Derived.Test.YtjcaiekalobmfaaQ102
import Derived.Test.YtjcaiekalobmfaaQ103
import Derived.Test.YtjcaiekalobmfaaQ98
namespace Go.Proofs.Ytjcaiekalobmfaa.Pure
open Go.RowKit Go.Proofs.Ytjcaiekalobmfaa.Q Go.Proofs.YtjcaiekalobmfaaL.PrintWords Go.Proofs.YtjcaiekalobmfaaL.PrintLast Go.Proofs.YtjcaiekalobmfaaL.PrintMore
set_option linter.unusedVariables false
set_option linter.unusedSimpArgs false
theorem FnValidHoles : laws_FnValidHoles.Pure := by
  intro l hl hs hb
  obtain ⟨K, hK⟩ : ∃ K : Nat, K = 20000000 := ⟨_, rfl⟩
  refine ⟨K + 10, ?_⟩
  unfold laws_FnValidHoles.f
  by_cases h : (l.length : Int) > 1048576
  · rw [if_pos h]
  rw [if_neg h]
  unfold spec_DrawValidHoles.f
  obtain ⟨m, e, hm⟩ := p_newReader l hb
  rw [e, Option.bind_some]
  dsimp only
  obtain ⟨ps, ns, p', e, h1, h2, h3, h4, h5⟩ := p_someHoles hm (K + 10) (by omega) (p := 0) (by omega) (by omega)
  have h5' : ∀ x ∈ ns, x.f0.size ≤ 2000000 := fun x hx => Nat.le_trans (h5 x hx) (by omega)
  rw [e, Option.bind_some, Option.bind_some]
  dsimp only
  have spec : ∀ k, 12000000 ≤ k → spec_ValidHoles.f k ps ns = some (vholes ps ns) := by
    intro k hk
    unfold spec_ValidHoles.f
    rw [p_specHoles ps ns (by omega) (by omega) h5' k hk]
    rfl
  rw [p_implHoles ps ns (by omega) h5' (K + 10) (by omega), Option.bind_some, spec (K + 10) (by omega), Option.bind_some, if_neg (by simp)]
  simp only [laws_FnValidHoles.j0]
  cases hv : vholes ps ns with
  | false =>
    rw [if_pos (show (!false) = true from rfl), spec (K + 9) (by omega), hv]
    rfl
  | true =>
    rw [if_neg (by decide)]
    by_cases h0 : (ps.length : Int) = 0
    · rw [if_pos h0]
    · rw [if_neg h0]
      have w : wrap64 ((ps.length : Int) - 1) = ((ps.length - 1 : Nat) : Int) := by rw [wrap_in (by omega) (by omega)]; omega
      rw [w, if_pos (by omega), if_pos (by omega), Int.toNat_natCast, p_implHoles _ ns (by omega) h5' (K + 9) (by omega), Option.bind_some, vholes_take ps ns _ hv]
end Go.Proofs.Ytjcaiekalobmfaa.Pure
