import Derived.Test.YtjcaiekalobmfaaLMore
import Derived.Test.YtjcaiekalobmfaaPBase
import Derived.Test.YtjcaiekalobmfaaPBaseR
import Derived.Test.YtjcaiekalobmfaaPLoops
import Derived.Test.YtjcaiekalobmfaaPNames
import Derived.Test.YtjcaiekalobmfaaPNumbers
import Derived.Test.YtjcaiekalobmfaaPPairs
import Derived.Test.YtjcaiekalobmfaaPPutPair
import Derived.Test.YtjcaiekalobmfaaQ72
namespace Go.Proofs.Ytjcaiekalobmfaa.Pure
open Go.RowKit Go.Proofs.Ytjcaiekalobmfaa.Q Go.Proofs.YtjcaiekalobmfaaL.PrintWords Go.Proofs.YtjcaiekalobmfaaL.PrintLast Go.Proofs.YtjcaiekalobmfaaL.PrintMore
set_option linter.unusedVariables false
set_option linter.unusedSimpArgs false
theorem goodFlat_l1 {r : List Int} (h : Rdr r) (ps : List Int) : ∀ (n k : Nat) (p : Int) (l : List PR), 3000000 + n < k → 0 ≤ p → p + 2 * n ≤ 900000 → l.length + n ≤ 1000 → (∀ x ∈ l, x.f0.size ≤ 7) →
    ∃ l' p', spec_goodFlat.l1 k (n : Int) r p ps l = some (ps, l', p') ∧ p ≤ p' ∧ p' ≤ p + 2 * n ∧ l'.length ≤ l.length + n ∧ ∀ x ∈ l', x.f0.size ≤ 7 := by
  intro n
  induction n with
  | zero =>
    intro k p l hk hp hp' hl hs
    obtain ⟨k, rfl⟩ : ∃ m, k = m + 1 := ⟨k - 1, by omega⟩
    simp only [spec_goodFlat.l1]
    rw [if_neg (by omega)]
    exact ⟨l, p, rfl, by omega, by omega, by omega, hs⟩
  | succ n ih =>
    intro k p l hk hp hp' hl hs
    obtain ⟨k, rfl⟩ : ∃ m, k = m + 1 := ⟨k - 1, by omega⟩
    simp only [spec_goodFlat.l1]
    rw [if_pos (by omega)]
    obtain ⟨s, e, h1, _⟩ := p_aName h k (by omega) hp (by omega)
    rw [e, Option.bind_some]
    dsimp only
    obtain ⟨v, e, h2⟩ := p_aNumber h k (by omega) (p := p + 1) (by omega) (by omega)
    rw [e, Option.bind_some]
    dsimp only
    rw [p_putPair l s v (by omega) k (by omega), Option.bind_some]
    have w : wrap64 (((n + 1 : Nat) : Int) - 1) = (n : Int) := by rw [wrap_in (by omega) (by omega)]; omega
    rw [w]
    have hlen := putP_len l ⟨s, v⟩
    obtain ⟨l', p', e, h3, h4, h5, h6⟩ := ih k (p + 1 + 1) (putP l ⟨s, v⟩) (by omega) (by omega) (by omega) (by omega) (fun x hx => by
      rcases putP_mem l _ x hx with rfl | hx
      · show s.size ≤ 7
        omega
      · exact hs x hx)
    exact ⟨l', p', e, by omega, by omega, by omega, h6⟩
theorem goodFlat_l0 {r : List Int} (h : Rdr r) : ∀ (n k : Nat) (p : Int) (ps : List Int) (l : List PR), 4000000 + n < k → 0 ≤ p → p + n ≤ 800000 → ps.length + n ≤ 1000 → l.length ≤ 500 → (∀ x ∈ l, x.f0.size ≤ 7) →
    ∃ ps' l' p', spec_goodFlat.l0 k (n : Int) r p ps l = some (ps', l', p') ∧ p ≤ p' ∧ p' ≤ p + n + 10 ∧ ps'.length ≤ ps.length + n ∧ l'.length ≤ l.length + 3 ∧ ∀ x ∈ l', x.f0.size ≤ 7 := by
  intro n
  induction n with
  | zero =>
    intro k p ps l hk hp hp' hps hl hs
    obtain ⟨k, rfl⟩ : ∃ m, k = m + 1 := ⟨k - 1, by omega⟩
    simp only [spec_goodFlat.l0]
    rw [if_neg (by omega)]
    obtain ⟨v, e, hv⟩ := p_one h k (by omega) hp (by omega) ([1, 2, 0, 3, 0]) (by decide)
    rw [e, Option.bind_some]
    dsimp only
    obtain ⟨n, rfl, hn⟩ : ∃ n : Nat, v = (n : Int) ∧ n ≤ 3 := by
      simp only [List.mem_cons, List.not_mem_nil, or_false] at hv
      exact ⟨v.toNat, by omega, by omega⟩
    obtain ⟨l', p', e, h3, h4, h5, h6⟩ := goodFlat_l1 h ps n k (p + 1) l (by omega) (by omega) (by omega) (by omega) hs
    exact ⟨ps, l', p', e, by omega, by omega, by omega, by omega, h6⟩
  | succ n ih =>
    intro k p ps l hk hp hp' hps hl hs
    obtain ⟨k, rfl⟩ : ∃ m, k = m + 1 := ⟨k - 1, by omega⟩
    simp only [spec_goodFlat.l0]
    rw [if_pos (by omega)]
    obtain ⟨v, e, h2⟩ := p_aNumber h k (by omega) hp (by omega)
    rw [e, Option.bind_some]
    dsimp only
    rw [if_pos (by omega)]
    have w : wrap64 (((n + 1 : Nat) : Int) - 1) = (n : Int) := by rw [wrap_in (by omega) (by omega)]; omega
    rw [w]
    obtain ⟨ps', l', p', e, h3, h4, h5, h6⟩ := ih k (p + 1) (ps ++ [v]) l (by omega) (by omega) (by omega) (by simp; omega) hl hs
    simp at h5
    exact ⟨ps', l', p', e, by omega, by omega, by omega, h6⟩
theorem p_goodFlat {r : List Int} (h : Rdr r) (k : Nat) (hk : 5000000 ≤ k) {p : Int} (hp : 0 ≤ p) (hp' : p ≤ 700000) : ∃ ps l p', spec_goodFlat.f k r p = some (ps, l, p') ∧ p ≤ p' ∧ p' ≤ p + 30 ∧ ps.length ≤ 8 ∧ l.length ≤ 3 ∧ ∀ x ∈ l, x.f0.size ≤ 7 := by
  unfold spec_goodFlat.f
  obtain ⟨v, e, hv⟩ := p_one h k (by omega) hp (by omega) ([2, 1, 3, 0, 4, 8]) (by decide)
  rw [e, Option.bind_some]
  dsimp only
  obtain ⟨n, rfl, hn⟩ : ∃ n : Nat, v = (n : Int) ∧ n ≤ 8 := by
    simp only [List.mem_cons, List.not_mem_nil, or_false] at hv
    exact ⟨v.toNat, by omega, by omega⟩
  obtain ⟨ps, l, p', e, h3, h4, h5, h6, h7⟩ := goodFlat_l0 h n k (p + 1) [] [] (by omega) (by omega) (by omega) (by simp; omega) (by simp) (by simp)
  exact ⟨ps, l, p', e, by omega, by omega, by simpa using (show ps.length ≤ 8 by simp at h5; omega), by simpa using h6, h7⟩
end Go.Proofs.Ytjcaiekalobmfaa.Pure
