import Derived.Test.YtjnfofgonddflaaLMore
import Derived.Test.YtjnfofgonddflaaPBase
import Derived.Test.YtjnfofgonddflaaPLoops
import Derived.Test.YtjnfofgonddflaaPNames
import Derived.Test.YtjnfofgonddflaaPNumbers
import Derived.Test.YtjnfofgonddflaaPSigs
import Derived.Test.YtjnfofgonddflaaPWide
import Derived.Test.YtjnfofgonddflaaQ10
import Derived.Test.YtjnfofgonddflaaQ3
import Derived.Test.YtjnfofgonddflaaQ8
namespace Go.Proofs.Ytjnfofgonddflaa.Pure
open Go.RowKit Go.Proofs.Ytjnfofgonddflaa.Q Go.Proofs.YtjnfofgonddflaaL.PrintWords Go.Proofs.YtjnfofgonddflaaL.PrintLast Go.Proofs.YtjnfofgonddflaaL.PrintMore
set_option linter.unusedVariables false
set_option linter.unusedSimpArgs false
def SmallP (l : List PA) : Prop := ∀ x ∈ l, x.f0.size ≤ 7
theorem SmallP.big {l : List PA} (h : SmallP l) : ∀ x ∈ l, x.f0.size ≤ 2000000 := fun x hx => Nat.le_trans (h x hx) (by omega)
theorem p_copyParams (l : List PA) (hl : l.length ≤ 2000000) : spec_copyParams.f l = some l := by
  unfold spec_copyParams.f
  simp only [Option.bind_some, List.nil_append, List.length_nil]
  rw [if_pos (by omega)]
theorem goodSig_l0 {r : List Int} (h : Rdr r) : ∀ (n k : Nat) (x3 : List PA) (x4 p : Int), 10000000 + 6 * n ≤ k → 0 ≤ x4 → x4 ≤ 4 → 0 ≤ p → p + 8 * n ≤ 800000 → x3.length + n ≤ 1000 → SmallP x3 →
    ∃ l p', spec_goodSignature.l0 k x3 x4 (n : Int) r p = some (l, p') ∧ p ≤ p' ∧ p' ≤ p + 8 * n ∧ l.length ≤ x3.length + n ∧ SmallP l := by
  intro n
  induction n with
  | zero =>
    intro k x3 x4 p hk h4 h4' hp hp' hl hs
    obtain ⟨k, rfl⟩ : ∃ m, k = m + 1 := ⟨k - 1, by omega⟩
    simp only [spec_goodSignature.l0]
    rw [if_neg (by omega)]
    exact ⟨x3, p, rfl, by omega, by omega, by omega, hs⟩
  | succ n ih =>
    intro k x3 x4 p hk h4 h4' hp hp' hl hs
    obtain ⟨k, rfl⟩ : ∃ m, k = m + 6 := ⟨k - 6, by omega⟩
    have w : wrap64 (((n + 1 : Nat) : Int) - 1) = (n : Int) := by rw [wrap_in (by omega) (by omega)]; omega
    have H6 : ∀ (y4 q : Int) (a : ByteArray) (b : Int) (c : Bool) (d : Int), 0 ≤ y4 → y4 ≤ 4 → p ≤ q → q ≤ p + 8 → a.size ≤ 7 →
        ∃ l p', spec_goodSignature.j6 (k + 1) x3 y4 ((n + 1 : Nat) : Int) r q a b c d = some (l, p') ∧ p ≤ p' ∧ p' ≤ p + 8 * (n + 1 : Nat) ∧ l.length ≤ x3.length + (n + 1) ∧ SmallP l := by
      intro y4 q a b c d g1 g2 g3 g4 g5
      have small : SmallP (x3 ++ [(⟨a, b, c, d⟩ : PA)]) := by
        intro x hx
        simp only [List.mem_append, List.mem_singleton] at hx
        rcases hx with hx | rfl
        · exact hs x hx
        · exact g5
      simp only [spec_goodSignature.j6]
      rw [p_copyParams x3 (by omega), Option.bind_some, Option.bind_some, if_pos (by simp; omega), Option.bind_some, p_specSig _ (by simp; omega) small.big k (by omega), Option.bind_some, w]
      split
      · obtain ⟨l, p', e, e1, e2, e3, e4⟩ := ih k (x3 ++ [(⟨a, b, c, d⟩ : PA)]) y4 q (by omega) g1 g2 (by omega) (by omega) (by simp; omega) small
        exact ⟨l, p', e, by omega, by omega, by simp at e3; omega, e4⟩
      · obtain ⟨l, p', e, e1, e2, e3, e4⟩ := ih k x3 y4 q (by omega) g1 g2 (by omega) (by omega) (by omega) hs
        exact ⟨l, p', e, by omega, by omega, by omega, e4⟩
    have H5 : ∀ (y4 q : Int) (a : ByteArray) (b : Int) (c : Bool) (d : Int), 0 ≤ y4 → y4 ≤ 4 → p ≤ q → q ≤ p + 8 → a.size ≤ 7 →
        ∃ l p', spec_goodSignature.j5 (k + 2) x3 y4 ((n + 1 : Nat) : Int) r q a b c d = some (l, p') ∧ p ≤ p' ∧ p' ≤ p + 8 * (n + 1 : Nat) ∧ l.length ≤ x3.length + (n + 1) ∧ SmallP l := by
      intro y4 q a b c d g1 g2 g3 g4 g5
      simp only [spec_goodSignature.j5]
      rw [p_isSingle, Option.bind_some]
      split
      · exact H6 y4 q a b c d g1 g2 g3 g4 g5
      · refine H6 _ q a b c d ?_ ?_ g3 g4 g5 <;> rw [wrap_in (n := y4 + 1) (by omega) (by omega)] <;> unfold mn <;> split <;> omega
    have H4 : ∀ (y4 q : Int) (z : Bool) (a : ByteArray) (b : Int) (c : Bool) (d : Int), 0 ≤ y4 → y4 ≤ 4 → p ≤ q → q ≤ p + 7 → a.size ≤ 7 →
        ∃ l p', spec_goodSignature.j4 (k + 3) x3 y4 ((n + 1 : Nat) : Int) z r q a b c d = some (l, p') ∧ p ≤ p' ∧ p' ≤ p + 8 * (n + 1 : Nat) ∧ l.length ≤ x3.length + (n + 1) ∧ SmallP l := by
      intro y4 q z a b c d g1 g2 g3 g4 g5
      simp only [spec_goodSignature.j4]
      split
      · obtain ⟨v, e, _⟩ := p_aNumber h (k + 2) (by omega) (p := q) (by omega) (by omega)
        rw [e, Option.bind_some]
        exact H5 y4 (q + 1) a b true v g1 g2 (by omega) (by omega) g5
      · exact H5 y4 q a b c d g1 g2 g3 (by omega) g5
    have H3 : ∀ (y4 q : Int), 0 ≤ y4 → y4 ≤ 4 → p ≤ q → q ≤ p + 5 →
        ∃ l p', spec_goodSignature.j3 (k + 4) x3 y4 ((n + 1 : Nat) : Int) r q = some (l, p') ∧ p ≤ p' ∧ p' ≤ p + 8 * (n + 1 : Nat) ∧ l.length ≤ x3.length + (n + 1) ∧ SmallP l := by
      intro y4 q g1 g2 g3 g4
      simp only [spec_goodSignature.j3]
      obtain ⟨s, e, hv⟩ := p_of h (k + 3) (by omega) (p := q) (by omega) (by omega) ([(⟨#[97]⟩ : ByteArray), (⟨#[98]⟩ : ByteArray), (⟨#[99]⟩ : ByteArray), (⟨#[100]⟩ : ByteArray), (⟨#[120]⟩ : ByteArray), (⟨#[121]⟩ : ByteArray), (⟨#[112]⟩ : ByteArray), (⟨#[113]⟩ : ByteArray), (⟨#[97, 114, 103, 115]⟩ : ByteArray), (⟨#[107, 119]⟩ : ByteArray)]) (by decide)
      rw [e, Option.bind_some]
      dsimp only
      have hs7 : s.size ≤ 7 := by
        simp only [List.mem_cons, List.not_mem_nil, or_false] at hv
        rcases hv with rfl | rfl | rfl | rfl | rfl | rfl | rfl | rfl | rfl | rfl <;> decide
      obtain ⟨v, e, _, _⟩ := p_pick h (k + 3) (by omega) (p := q + 1) (by omega) (by omega) (n := 3) (by omega)
      rw [e, Option.bind_some]
      dsimp only
      split
      · rw [p_isSingle, Option.bind_some]
        exact H4 y4 _ _ s y4 false 0 g1 g2 (by omega) (by omega) hs7
      · exact H4 y4 _ _ s y4 false 0 g1 g2 (by omega) (by omega) hs7
    have H2 : ∀ (z : Bool) (q : Int), (z = true → x4 < 4) → p ≤ q → q ≤ p + 3 →
        ∃ l p', spec_goodSignature.j2 (k + 5) x3 x4 ((n + 1 : Nat) : Int) z r q = some (l, p') ∧ p ≤ p' ∧ p' ≤ p + 8 * (n + 1 : Nat) ∧ l.length ≤ x3.length + (n + 1) ∧ SmallP l := by
      intro z q hz g3 g4
      simp only [spec_goodSignature.j2]
      split
      · rename_i hzt
        have := hz hzt
        rw [wrap_in (n := 4 - x4) (by omega) (by omega)]
        obtain ⟨v, e, hv, hv'⟩ := p_pick h (k + 4) (by omega) (p := q) (by omega) (by omega) (n := 4 - x4) (by omega)
        rw [e, Option.bind_some]
        dsimp only
        rw [wrap_in (n := x4 + 1) (by omega) (by omega), wrap_in (n := x4 + 1 + v) (by omega) (by omega)]
        exact H3 _ _ (by omega) (by omega) (by omega) (by omega)
      · exact H3 _ _ h4 h4' g3 (by omega)
    simp only [spec_goodSignature.l0]
    rw [if_pos (by omega)]
    obtain ⟨v, e, _, _⟩ := p_pick h (k + 5) (by omega) (p := p) (by omega) (by omega) (n := 3) (by omega)
    rw [e, Option.bind_some]
    dsimp only
    split
    · exact H2 _ _ (by simp) (by omega) (by omega)
    · exact H2 _ _ (by simp) (by omega) (by omega)
theorem p_goodSig {r : List Int} (h : Rdr r) (k : Nat) (hk : 20000000 ≤ k) {p : Int} (hp : 0 ≤ p) (hp' : p ≤ 700000) : ∃ l p', spec_goodSignature.f k r p = some (l, p') ∧ p ≤ p' ∧ p' ≤ p + 80 ∧ l.length ≤ 8 ∧ SmallP l := by
  unfold spec_goodSignature.f
  obtain ⟨k, rfl⟩ : ∃ m, k = m + 1 := ⟨k - 1, by omega⟩
  rw [Option.bind_some]
  obtain ⟨v, e, _, _⟩ := p_pick h (k + 1) (by omega) (p := p) (by omega) (by omega) (n := 2) (by omega)
  rw [e, Option.bind_some]
  dsimp only
  have H0 : ∀ x4 : Int, 0 ≤ x4 → x4 ≤ 4 → ∃ l p', spec_goodSignature.j0 (k + 1) [] x4 r (p + 1) = some (l, p') ∧ p ≤ p' ∧ p' ≤ p + 80 ∧ l.length ≤ 8 ∧ SmallP l := by
    intro x4 g1 g2
    simp only [spec_goodSignature.j0]
    obtain ⟨v, e, hv⟩ := p_one h k (by omega) (p := p + 1) (by omega) (by omega) ([3, 4, 2, 5, 1, 0, 6, 8]) (by decide)
    rw [e, Option.bind_some]
    dsimp only
    obtain ⟨n, rfl, hn⟩ : ∃ n : Nat, v = (n : Int) ∧ n ≤ 8 := by
      simp only [List.mem_cons, List.not_mem_nil, or_false] at hv
      exact ⟨v.toNat, by omega, by omega⟩
    obtain ⟨l, p', e, e1, e2, e3, e4⟩ := goodSig_l0 h n k [] x4 (p + 1 + 1) (by omega) g1 g2 (by omega) (by omega) (by simp; omega) (by intro x hx; simp at hx)
    exact ⟨l, p', e, by omega, by omega, by simp at e3; omega, e4⟩
  split
  · exact H0 1 (by omega) (by omega)
  · exact H0 0 (by omega) (by omega)
theorem SmallP.set {l : List PA} (h : SmallP l) (i : Nat) {x : PA} (hx : x.f0.size ≤ 7) : SmallP (l.set i x) := by
  intro y hy
  rcases List.mem_or_eq_of_mem_set hy with hy | rfl
  · exact h y hy
  · exact hx
theorem p_someSig {r : List Int} (h : Rdr r) (k : Nat) (hk : 20000000 ≤ k) {p : Int} (hp : 0 ≤ p) (hp' : p ≤ 600000) : ∃ l p', spec_someSignature.f k r p = some (l, p') ∧ p ≤ p' ∧ p' ≤ p + 100 ∧ l.length ≤ 8 ∧ SmallP l := by
  unfold spec_someSignature.f
  obtain ⟨l, q, e, h1, h2, h3, h4⟩ := p_goodSig h k hk hp (by omega)
  rw [e, Option.bind_some]
  dsimp only
  split
  · obtain ⟨i, e, hi, hi'⟩ := p_pick h k (by omega) (p := q) (by omega) (by omega) (n := (l.length : Int)) (by omega)
    rw [e, Option.bind_some]
    dsimp only
    obtain ⟨v, e, _, _⟩ := p_pick h k (by omega) (p := q + 1) (by omega) (by omega) (n := 24) (by omega)
    rw [e, Option.bind_some]
    dsimp only
    obtain ⟨n, rfl⟩ := Int.eq_ofNat_of_zero_le hi
    have hn : n < l.length := by omega
    have hm := h4 _ (getD_mem l paz n hn)
    rw [rdpa, if_pos hi, if_pos hi', Int.toNat_natCast]
    split
    · obtain ⟨s, e, hs⟩ := p_anyName h k (by omega) (p := q + 1 + 1) (by omega) (by omega)
      rw [e, Option.bind_some]
      exact ⟨_, _, rfl, by omega, by omega, by rw [List.length_set]; exact h3, h4.set n hs⟩
    · split
      · obtain ⟨s, e, hs⟩ := p_one h k (by omega) (p := q + 1 + 1) (by omega) (by omega) ([(-1), 5, 0, 2, 4]) (by decide)
        rw [e, Option.bind_some]
        exact ⟨_, _, rfl, by omega, by omega, by rw [List.length_set]; exact h3, h4.set n hm⟩
      · split
        · exact ⟨_, _, rfl, by omega, by omega, by rw [List.length_set]; exact h3, h4.set n hm⟩
        · split
          · obtain ⟨s, e, hs⟩ := p_one h k (by omega) (p := q + 1 + 1) (by omega) (by omega) ([100, 5]) (by decide)
            rw [e, Option.bind_some]
            exact ⟨_, _, rfl, by omega, by omega, by rw [List.length_set]; exact h3, h4.set n hm⟩
          · exact ⟨_, _, rfl, by omega, by omega, h3, h4⟩
  · exact ⟨_, _, rfl, by omega, by omega, h3, h4⟩
end Go.Proofs.Ytjnfofgonddflaa.Pure
