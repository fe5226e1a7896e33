import Derived.Test.YtjcaiekalobmfaaLMore
import Derived.Test.YtjcaiekalobmfaaPAnyNumber
import Derived.Test.YtjcaiekalobmfaaPBase
import Derived.Test.YtjcaiekalobmfaaPGoodFlat
import Derived.Test.YtjcaiekalobmfaaPLoops
import Derived.Test.YtjcaiekalobmfaaPNames
import Derived.Test.YtjcaiekalobmfaaPNumbers
import Derived.Test.YtjcaiekalobmfaaPPairs
import Derived.Test.YtjcaiekalobmfaaPPutPair
import Derived.Test.YtjcaiekalobmfaaPSomeFlat
import Derived.Test.YtjcaiekalobmfaaQ75
import Derived.Test.YtjcaiekalobmfaaQ76
import Derived.Test.YtjcaiekalobmfaaQ77
namespace Go.Proofs.Ytjcaiekalobmfaa.Pure
open Go.RowKit Go.Proofs.Ytjcaiekalobmfaa.Q Go.Proofs.YtjcaiekalobmfaaL.PrintWords Go.Proofs.YtjcaiekalobmfaaL.PrintLast Go.Proofs.YtjcaiekalobmfaaL.PrintMore
set_option linter.unusedVariables false
set_option linter.unusedSimpArgs false
theorem freshAt_none : (List.range ([] : List PR).length).all (freshAt []) = true := rfl
theorem FnValidFlat : laws_FnValidFlat.Pure := by
  intro l hl hs hb
  obtain ⟨K, hK⟩ : ∃ K : Nat, K = 10000000 := ⟨_, rfl⟩
  refine ⟨K + 10, ?_⟩
  unfold laws_FnValidFlat.f
  by_cases h : (l.length : Int) > 1048576
  · rw [if_pos h]
  rw [if_neg h]
  unfold spec_DrawValidFlat.f
  obtain ⟨m, e, hm⟩ := p_newReader l hb
  rw [e, Option.bind_some]
  dsimp only
  obtain ⟨ps, ns, p', e, h1, h2, h3, h4, h5⟩ := p_someFlat hm (K + 10) (by omega) (p := 0) (by omega) (by omega)
  have h5' : ∀ x ∈ ns, x.f0.size ≤ 2000000 := fun x hx => Nat.le_trans (h5 x hx) (by omega)
  rw [e, Option.bind_some, Option.bind_some]
  dsimp only
  unfold spec_ValidFlat.f
  rw [p_implFlat ps ns (by omega) h5' (K + 10) (by omega), Option.bind_some, p_specFlat ps ns (by omega) (by omega) h5' (K + 10) (by omega), Option.bind_some, Option.bind_some, if_neg (by simp)]
  simp only [laws_FnValidFlat.j0]
  cases hv : vflat ps ns with
  | false =>
    rw [if_pos (show (!false) = true from rfl)]
    unfold spec_ValidFlat.f
    rw [p_specFlat ps ns (by omega) (by omega) h5' (K + 9) (by omega), hv]
    rfl
  | true =>
    rw [if_neg (by decide), p_implFlat ps [] (by simp) (by simp) (K + 9) (by omega), Option.bind_some, p_implFlat [] ns (by omega) h5' (K + 9) (by omega)]
    unfold vflat at hv
    simp only [Bool.and_eq_true] at hv
    obtain ⟨hf, ⟨⟨ha, hb'⟩, hc⟩, hd⟩ := hv
    have e1 : vflat ps [] = true := by unfold vflat; simp [ha, freshAt_none] at hc ⊢; exact hc
    have e2 : vflat [] ns = true := by unfold vflat; rw [hf, hb']; simp at hd ⊢; exact hd
    rw [e1, e2]
    rfl
end Go.Proofs.Ytjcaiekalobmfaa.Pure
