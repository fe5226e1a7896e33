import Derived.Test.YtjcaiekalobmfaaLMore
import Derived.Test.YtjcaiekalobmfaaPBase
import Derived.Test.YtjcaiekalobmfaaPLoops
import Derived.Test.YtjcaiekalobmfaaPNames
import Derived.Test.YtjcaiekalobmfaaPTurns
import Derived.Test.YtjcaiekalobmfaaPTurnsLaw
import Derived.Test.YtjcaiekalobmfaaQ25
import Derived.Test.YtjcaiekalobmfaaQ33
import Derived.Test.YtjcaiekalobmfaaQ35
namespace Go.Proofs.Ytjcaiekalobmfaa.Pure
open Go.RowKit Go.Proofs.Ytjcaiekalobmfaa.Q Go.Proofs.YtjcaiekalobmfaaL.PrintWords Go.Proofs.YtjcaiekalobmfaaL.PrintLast Go.Proofs.YtjcaiekalobmfaaL.PrintMore
set_option linter.unusedVariables false
set_option linter.unusedSimpArgs false
theorem has_loop (l : List TU) (i : Nat) (hi : i < l.length) (hl : l.length ≤ 2000000) : ∀ (d k j : Nat) (b : Bool), j + d = l.length → d < k →
    laws_FnValidTurns.l1 k l (i : Int) b (j : Int) = if (b || (l.drop j).any fun x => x.f1.toList == (l.getD i tuz).f0.toList) = true then laws_FnValidTurns.l0 (k - 1 - d) l (wrap64 ((i : Int) + 1)) else some false := by
  intro d
  induction d with
  | zero =>
    intro k j b h hk
    obtain ⟨k, rfl⟩ : ∃ m, k = m + 1 := ⟨k - 1, by omega⟩
    simp only [laws_FnValidTurns.l1]
    rw [if_neg (by omega), List.drop_of_length_le (by omega)]
    simp
  | succ d ih =>
    intro k j b h hk
    obtain ⟨k, rfl⟩ : ∃ m, k = m + 1 := ⟨k - 1, by omega⟩
    have e : k + 1 - 1 - (d + 1) = k - 1 - d := by omega
    simp only [laws_FnValidTurns.l1]
    rw [if_pos (by omega), wrap_succ (n := l.length) (by omega) (by omega), e, drop_getD l tuz j (by omega), List.any_cons, rdtu, rdtu]
    cases b with
    | true =>
      rw [if_pos rfl, ih k (j + 1) true (by omega) (by omega)]
      simp
    | false =>
      rw [if_neg (by decide), if_pos (by omega), if_pos (by omega), if_pos (by omega), ih k (j + 1) _ (by omega) (by omega)]
      simp only [Bool.false_or]
theorem FnValidTurns : laws_FnValidTurns.Pure := by
  intro l hl hs hb
  obtain ⟨K, hK⟩ : ∃ K : Nat, K = 5000000000000 := ⟨_, rfl⟩
  refine ⟨K + 100, ?_⟩
  unfold laws_FnValidTurns.f
  by_cases h : (l.length : Int) > 1048576
  · rw [if_pos h]
  rw [if_neg h]
  unfold spec_DrawValidTurns.f
  obtain ⟨m, e, hm⟩ := p_newReader l hb
  rw [e, Option.bind_some]
  dsimp only
  obtain ⟨ts, p', e, h1, h2, h3, h4⟩ := p_someTurns hm (K + 100) (by omega) (p := 0) (by omega) (by omega)
  have h4' : ∀ x ∈ ts, x.f0.size ≤ 2000000 := fun x hx => Nat.le_trans (h4 x hx).1 (by omega)
  rw [e, Option.bind_some, Option.bind_some, p_implTurns ts h4', Option.bind_some]
  unfold spec_ValidTurns.f
  rw [p_specTurns ts (by omega) h4' (K + 100) (by omega), Option.bind_some, Option.bind_some, if_neg (by simp)]
  simp only [laws_FnValidTurns.j0]
  cases hv : pxTurns ts with
  | false =>
    rw [if_pos (show (!false) = true from rfl)]
    unfold spec_ValidTurns.f
    rw [p_specTurns ts (by omega) h4' (K + 99) (by omega), hv]
    rfl
  | true =>
    rw [if_neg (by decide)]
    have ok := (okT_iff ts).1 hv
    have hall : ∀ i, i < ts.length → (ts.any fun x => x.f1.toList == (ts.getD i tuz).f0.toList) = true := by
      intro i hi
      rw [getD_get ts tuz i hi, List.any_eq_true]
      obtain ⟨y, hy, e⟩ := List.mem_map.1 (okT_all ts ok _ (List.mem_map.2 ⟨_, List.getElem_mem hi, rfl⟩))
      exact ⟨y, hy, by simp only [beq_iff_eq]; rw [e]⟩
    have w := loop_wide0 (fun k i => laws_FnValidTurns.l0 k ts i) (fun _ => true) true ts.length 3000010 8 (K + 99) (by omega) (fun k i hk hi => ⟨fun _ => ?_, fun h => by simp at h⟩) (fun k hk => ?_) (by omega)
    · rw [w]; simp
    · obtain ⟨k, rfl⟩ : ∃ m, k = m + 1 := ⟨k - 1, by omega⟩
      simp only [laws_FnValidTurns.l0]
      have e := has_loop ts i hi (by omega) ts.length k 0 false (by omega) (by omega)
      rw [if_pos (by omega)]
      refine ⟨k - 1 - ts.length, by omega, ?_⟩
      rw [show ((0 : Nat) : Int) = 0 from rfl] at e
      rw [e, List.drop_zero, hall i hi]
      simp
    · obtain ⟨k, rfl⟩ : ∃ m, k = m + 1 := ⟨k - 1, by omega⟩
      simp only [laws_FnValidTurns.l0]
      rw [if_neg (by omega), p_implTurnBack ts (by omega) h4' k (by omega), Option.bind_some, hv, if_pos rfl, p_implTurns (ts.map sw) (fun x hx => by
        obtain ⟨y, hy, rfl⟩ := List.mem_map.1 hx
        have := (h4 y hy).2
        show y.f1.size ≤ 2000000
        omega), Option.bind_some, (okT_iff _).2 (okT_sw ts ok)]
end Go.Proofs.Ytjcaiekalobmfaa.Pure
