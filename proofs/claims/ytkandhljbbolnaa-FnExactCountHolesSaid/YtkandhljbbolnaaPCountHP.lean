import Derived.Test.YtkandhljbbolnaaLMore
import Derived.Test.YtkandhljbbolnaaPBase
import Derived.Test.YtkandhljbbolnaaPHoles
import Derived.Test.YtkandhljbbolnaaPLoops
import Derived.Test.YtkandhljbbolnaaPPairs
import Derived.Test.YtkandhljbbolnaaQ78
import Derived.Test.YtkandhljbbolnaaQ79
namespace Go.Proofs.Ytkandhljbbolnaa.Pure
open Go.RowKit Go.Proofs.Ytkandhljbbolnaa.Q Go.Proofs.YtkandhljbbolnaaL.PrintWords Go.Proofs.YtkandhljbbolnaaL.PrintLast Go.Proofs.YtkandhljbbolnaaL.PrintMore
set_option linter.unusedVariables false
set_option linter.unusedSimpArgs false
def countH (l : List PL) (ns : List PR) : Int := if vholes l ns = true then (((l.filter (·.f0)).length : Nat) : Int) else -1
theorem p_specCountH (l : List PL) (ns : List PR) (hp : l.length ≤ 2000000) (hl : ns.length ≤ 2000000) (hs : ∀ x ∈ ns, x.f0.size ≤ 2000000) (k : Nat) (hk : 12000000 ≤ k) : spec_CountHoles.f k l ns = some (countH l ns) := by
  unfold spec_CountHoles.f countH
  rw [p_specHoles l ns hp hl hs k hk, Option.bind_some]
  split
  · have key : ∀ (d k i c : Nat), i + d = l.length → d < k → c ≤ i → spec_countHoles.l0 k (c : Int) (i : Int) l ns = some (((c + ((l.drop i).filter (·.f0)).length : Nat)) : Int) := by
      intro d
      induction d with
      | zero =>
        intro k i c h hk hc
        obtain ⟨k, rfl⟩ : ∃ m, k = m + 1 := ⟨k - 1, by omega⟩
        simp only [spec_countHoles.l0]
        rw [if_neg (by omega), List.drop_of_length_le (by omega)]
        simp
      | succ d ih =>
        intro k i c h hk hc
        obtain ⟨k, rfl⟩ : ∃ m, k = m + 1 := ⟨k - 1, by omega⟩
        simp only [spec_countHoles.l0]
        rw [if_pos (by omega), if_pos (by omega), rdpl, wrap_succ (i := i) (n := l.length) (by omega) (by omega), wrap_succ (i := c) (n := 2000001) (by omega) (by omega), drop_getD l plz i (by omega), List.filter_cons]
        split
        · rw [ih k (i + 1) (c + 1) (by omega) (by omega) (by omega), List.length_cons]
          congr 1
          omega
        · exact ih k (i + 1) c (by omega) (by omega) (by omega)
    have := key l.length k 0 0 (by omega) (by omega) (by omega)
    unfold spec_countHoles.f
    rw [show ((0 : Nat) : Int) = 0 from rfl] at this
    rw [this]
    simp
  · rfl
theorem p_implCountH (l : List PL) (ns : List PR) (hp : l.length ≤ 2000000) (hl : ns.length ≤ 2000000) (hs : ∀ x ∈ ns, x.f0.size ≤ 2000000) (k : Nat) (hk : 12000000 ≤ k) : impl_CountHoles.f k l ns = some (countH l ns) := by
  unfold impl_CountHoles.f countH
  rw [p_implHoles l ns hl hs k (by omega), Option.bind_some]
  split
  · have key : ∀ (d k i c : Nat), i + d = l.length → d < k → c ≤ i → impl_Holes_holes.l0 k (c : Int) l (l.length : Int) (i : Int) = some (((c + ((l.drop i).filter (·.f0)).length : Nat)) : Int) := by
      intro d
      induction d with
      | zero =>
        intro k i c h hk hc
        obtain ⟨k, rfl⟩ : ∃ m, k = m + 1 := ⟨k - 1, by omega⟩
        simp only [impl_Holes_holes.l0]
        rw [if_neg (by omega), List.drop_of_length_le (by omega)]
        simp
      | succ d ih =>
        intro k i c h hk hc
        obtain ⟨k, rfl⟩ : ∃ m, k = m + 1 := ⟨k - 1, by omega⟩
        simp only [impl_Holes_holes.l0]
        rw [if_pos (by omega), if_pos (by omega), if_pos (by omega), rdpl, wrap_succ (i := i) (n := l.length) (by omega) (by omega), wrap_succ (i := c) (n := 2000001) (by omega) (by omega), drop_getD l plz i (by omega), List.filter_cons]
        split
        · rw [ih k (i + 1) (c + 1) (by omega) (by omega) (by omega), List.length_cons]
          congr 1
          omega
        · exact ih k (i + 1) c (by omega) (by omega) (by omega)
    have := key l.length k 0 0 (by omega) (by omega) (by omega)
    unfold impl_Holes_holes.f
    rw [show ((0 : Nat) : Int) = 0 from rfl] at this
    rw [this]
    simp
  · rfl
end Go.Proofs.Ytkandhljbbolnaa.Pure
