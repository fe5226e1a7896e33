import Derived.Test.YtjcaiekalobmfaaLMore
import Derived.Test.YtjcaiekalobmfaaPBase
import Derived.Test.YtjcaiekalobmfaaPLoops
import Derived.Test.YtjcaiekalobmfaaPNames
import Derived.Test.YtjcaiekalobmfaaPTurnBackP
import Derived.Test.YtjcaiekalobmfaaPTurns
import Derived.Test.YtjcaiekalobmfaaPTurnsLaw
import Derived.Test.YtjcaiekalobmfaaQ67
import Derived.Test.YtjcaiekalobmfaaQ68
import Derived.Test.YtjcaiekalobmfaaQ69
import Derived.Test.YtjcaiekalobmfaaQ70
namespace Go.Proofs.Ytjcaiekalobmfaa.Pure
open Go.RowKit Go.Proofs.Ytjcaiekalobmfaa.Q Go.Proofs.YtjcaiekalobmfaaL.PrintWords Go.Proofs.YtjcaiekalobmfaaL.PrintLast Go.Proofs.YtjcaiekalobmfaaL.PrintMore
set_option linter.unusedVariables false
set_option linter.unusedSimpArgs false
theorem FnTurnBack : laws_FnTurnBack.Pure := by
  intro l hl hs hb
  obtain ⟨K, hK⟩ : ∃ K : Nat, K = 6000000000000 := ⟨_, rfl⟩
  refine ⟨K + 100, ?_⟩
  unfold laws_FnTurnBack.f
  by_cases h : (l.length : Int) > 1048576
  · rw [if_pos h]
  rw [if_neg h]
  unfold spec_DrawTurnBack.f
  obtain ⟨m, e, hm⟩ := p_newReader l hb
  rw [e, Option.bind_some]
  dsimp only
  obtain ⟨ts, p', e, h1, h2, h3, h4⟩ := p_someTurns hm (K + 100) (by omega) (p := 0) (by omega) (by omega)
  have h4' : ∀ x ∈ ts, x.f0.size ≤ 2000000 := fun x hx => Nat.le_trans (h4 x hx).1 (by omega)
  have h4'' : ∀ x ∈ ts.map sw, x.f0.size ≤ 2000000 := fun x hx => by
    obtain ⟨y, hy, rfl⟩ := List.mem_map.1 hx
    have := (h4 y hy).2
    show y.f1.size ≤ 2000000
    omega
  rw [e, Option.bind_some, Option.bind_some, p_implTurnBack ts (by omega) h4' (K + 100) (by omega), Option.bind_some, p_specTurnBack ts (by omega) h4' (K + 100) (by omega), Option.bind_some]
  have hT : (if pxTurns ts = true then ts.map sw else []).length ≤ 2000000 := by
    split
    · rw [List.length_map]; omega
    · simp
  rw [p_eqTurns_self _ hT (K + 100) (by omega), Option.bind_some, if_pos rfl, p_implTurns ts h4', Option.bind_some]
  simp only [laws_FnTurnBack.j0]
  cases hv : pxTurns ts with
  | false =>
    rw [if_pos (show (!false) = true from rfl), p_specTurnBack ts (by omega) h4' (K + 99) (by omega), Option.bind_some, hv, p_eqTurns_self _ (by simp) (K + 99) (by omega)]
    rfl
  | true =>
    have ok := (okT_iff ts).1 hv
    rw [if_neg (by decide), if_pos rfl, p_implTurnBack (ts.map sw) (by rw [List.length_map]; omega) h4'' (K + 99) (by omega), Option.bind_some, if_pos ((okT_iff _).2 (okT_sw ts ok)), sw_sw, p_eqTurns_self ts (by omega) (K + 99) (by omega), Option.bind_some, if_pos rfl, List.length_map]
    simp
end Go.Proofs.Ytjcaiekalobmfaa.Pure
