import Derived.Test.YtjcaiekalobmfaaLMore
import Derived.Test.YtjcaiekalobmfaaPBase
import Derived.Test.YtjcaiekalobmfaaPBaseR
import Derived.Test.YtjcaiekalobmfaaPGoodFlat
import Derived.Test.YtjcaiekalobmfaaPHoles
import Derived.Test.YtjcaiekalobmfaaPLoops
import Derived.Test.YtjcaiekalobmfaaPNames
import Derived.Test.YtjcaiekalobmfaaPNumbers
import Derived.Test.YtjcaiekalobmfaaPPairs
import Derived.Test.YtjcaiekalobmfaaPPutPair
import Derived.Test.YtjcaiekalobmfaaQ96
import Derived.Test.YtjcaiekalobmfaaQ97
namespace Go.Proofs.Ytjcaiekalobmfaa.Pure
open Go.RowKit Go.Proofs.Ytjcaiekalobmfaa.Q Go.Proofs.YtjcaiekalobmfaaL.PrintWords Go.Proofs.YtjcaiekalobmfaaL.PrintLast Go.Proofs.YtjcaiekalobmfaaL.PrintMore
set_option linter.unusedVariables false
set_option linter.unusedSimpArgs false
theorem goodHoles_l0 {r : List Int} (h : Rdr r) (ns : List PR) : ∀ (n k : Nat) (p : Int) (l : List PL), 4000000 + n < k → 0 ≤ p → p + 2 * n ≤ 800000 → l.length + n ≤ 1000 →
    ∃ l' p', spec_goodHoles.l0 k (n : Int) r p l ns = some (l', ns, p') ∧ p ≤ p' ∧ p' ≤ p + 2 * n ∧ l'.length ≤ l.length + n := by
  intro n
  induction n with
  | zero =>
    intro k p l hk hp hp' hl
    obtain ⟨k, rfl⟩ : ∃ m, k = m + 1 := ⟨k - 1, by omega⟩
    simp only [spec_goodHoles.l0]
    rw [if_neg (by omega)]
    exact ⟨l, p, rfl, by omega, by omega, by omega⟩
  | succ n ih =>
    intro k p l hk hp hp' hl
    obtain ⟨k, rfl⟩ : ∃ m, k = m + 1 := ⟨k - 1, by omega⟩
    simp only [spec_goodHoles.l0]
    have w : wrap64 (((n + 1 : Nat) : Int) - 1) = (n : Int) := by rw [wrap_in (by omega) (by omega)]; omega
    rw [if_pos (by omega), w]
    obtain ⟨v, e, _, _⟩ := p_pick h k (by omega) (p := p) hp (by omega) (n := 2) (by omega)
    rw [e, Option.bind_some]
    dsimp only
    split
    · rw [if_pos (by omega)]
      obtain ⟨l', p', e, h1, h2, h3⟩ := ih k (p + 1) (l ++ [(⟨true, 0⟩ : PL)]) (by omega) (by omega) (by omega) (by simp; omega)
      exact ⟨l', p', e, by omega, by omega, by simp at h3; omega⟩
    · obtain ⟨v, e, _⟩ := p_aNumber h k (by omega) (p := p + 1) (by omega) (by omega)
      rw [e, Option.bind_some]
      dsimp only
      rw [if_pos (by omega)]
      obtain ⟨l', p', e, h1, h2, h3⟩ := ih k (p + 1 + 1) (l ++ [(⟨false, v⟩ : PL)]) (by omega) (by omega) (by omega) (by simp; omega)
      exact ⟨l', p', e, by omega, by omega, by simp at h3; omega⟩
theorem p_goodHoles {r : List Int} (h : Rdr r) (k : Nat) (hk : 6000000 ≤ k) {p : Int} (hp : 0 ≤ p) (hp' : p ≤ 600000) : ∃ l ns p', spec_goodHoles.f k r p = some (l, ns, p') ∧ p ≤ p' ∧ p' ≤ p + 60 ∧ l.length ≤ 8 ∧ ns.length ≤ 3 ∧ ∀ x ∈ ns, x.f0.size ≤ 7 := by
  unfold spec_goodHoles.f
  obtain ⟨ps, ns, p1, e, h1, h2, h3, h4, h5⟩ := p_goodFlat h k (by omega) hp (by omega)
  rw [e, Option.bind_some]
  dsimp only
  obtain ⟨v, e, hv⟩ := p_one h k (by omega) (p := p1) (by omega) (by omega) ([3, 2, 4, 1, 0, 8]) (by decide)
  rw [e, Option.bind_some]
  dsimp only
  obtain ⟨n, rfl, hn⟩ : ∃ n : Nat, v = (n : Int) ∧ n ≤ 8 := by
    simp only [List.mem_cons, List.not_mem_nil, or_false] at hv
    exact ⟨v.toNat, by omega, by omega⟩
  obtain ⟨l, p', e, g1, g2, g3⟩ := goodHoles_l0 h ns n k (p1 + 1) [] (by omega) (by omega) (by omega) (by simp; omega)
  exact ⟨l, ns, p', e, by omega, by omega, by simp at g3; omega, h4, h5⟩
theorem p_someHoles {r : List Int} (h : Rdr r) (k : Nat) (hk : 6000000 ≤ k) {p : Int} (hp : 0 ≤ p) (hp' : p ≤ 500000) : ∃ l ns p', spec_someHoles.f k r p = some (l, ns, p') ∧ p ≤ p' ∧ p' ≤ p + 70 ∧ l.length ≤ 8 ∧ ns.length ≤ 4 ∧ ∀ x ∈ ns, x.f0.size ≤ 7 := by
  unfold spec_someHoles.f
  obtain ⟨l, ns, q, e, h1, h2, h3, h4, h5⟩ := p_goodHoles h k hk hp (by omega)
  rw [e, Option.bind_some]
  dsimp only
  split
  · obtain ⟨i, e, hi, hi'⟩ := p_pick h k (by omega) (p := q) (by omega) (by omega) (n := (l.length : Int)) (by omega)
    rw [e, Option.bind_some]
    dsimp only
    obtain ⟨v, e, _, _⟩ := p_pick h k (by omega) (p := q + 1) (by omega) (by omega) (n := 20) (by omega)
    rw [e, Option.bind_some]
    dsimp only
    rw [if_pos hi, if_pos hi']
    split
    · exact ⟨_, _, _, rfl, by omega, by omega, by rw [List.length_set]; exact h3, by omega, h5⟩
    · split
      · exact ⟨_, _, _, rfl, by omega, by omega, by rw [List.length_set]; exact h3, by omega, h5⟩
      · split
        · obtain ⟨s, e, hs⟩ := p_anyName h k (by omega) (p := q + 1 + 1) (by omega) (by omega)
          rw [e, Option.bind_some]
          dsimp only
          rw [if_pos (by omega)]
          refine ⟨_, _, _, rfl, by omega, by omega, h3, by simp; omega, fun x hx => ?_⟩
          simp only [List.mem_append, List.mem_singleton] at hx
          rcases hx with hx | rfl
          · exact h5 x hx
          · exact hs
        · exact ⟨_, _, _, rfl, by omega, by omega, h3, by omega, h5⟩
  · exact ⟨_, _, _, rfl, by omega, by omega, h3, by omega, h5⟩
end Go.Proofs.Ytjcaiekalobmfaa.Pure
