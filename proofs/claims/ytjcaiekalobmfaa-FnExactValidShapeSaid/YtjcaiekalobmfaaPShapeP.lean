import Derived.Test.YtjcaiekalobmfaaLMore
import Derived.Test.YtjcaiekalobmfaaPBase
import Derived.Test.YtjcaiekalobmfaaPLoops
import Derived.Test.YtjcaiekalobmfaaQ11
import Derived.Test.YtjcaiekalobmfaaQ14
namespace Go.Proofs.Ytjcaiekalobmfaa.Pure
open Go.RowKit Go.Proofs.Ytjcaiekalobmfaa.Q Go.Proofs.YtjcaiekalobmfaaL.PrintWords Go.Proofs.YtjcaiekalobmfaaL.PrintLast Go.Proofs.YtjcaiekalobmfaaL.PrintMore
set_option linter.unusedVariables false
set_option linter.unusedSimpArgs false
def bless (a b : ByteArray) : Bool := Op.bytesLess a.toList b.toList
def shapeAt (l : List ByteArray) (i : Nat) : Bool := pxName (l.getD i ByteArray.empty) && (i == 0 || bless (l.getD (i - 1) ByteArray.empty) (l.getD i ByteArray.empty))
def vshape (c : Int) (l : List ByteArray) : Bool := (List.range l.length).all (shapeAt l) && ((decide (0 ≤ c) && decide (c ≤ 8)) && decide ((l.length : Int) ≤ 8))
theorem shape_prev {i n : Nat} (h : 0 < i) (hn : i ≤ n) (hm : n ≤ 2000000) : wrap64 ((i : Int) - 1) = ((i - 1 : Nat) : Int) := by
  rw [wrap_in (by omega) (by omega)]; omega
theorem p_specShape (c : Int) (l : List ByteArray) (hl : l.length ≤ 2000000) (hs : ∀ x ∈ l, x.size ≤ 2000000) (k : Nat) (hk : 9000000 ≤ k) : spec_validShape.f k c l = some (vshape c l) := by
  unfold spec_validShape.f vshape
  refine loop_all0 (fun k i => spec_validShape.l0 k i c l) _ _ l.length 4000000 k (by omega) (fun k i hk hi => ?_) (fun k hk => ?_) (by omega)
  · have hsz := hs _ (getD_mem l ByteArray.empty i hi)
    simp only [spec_validShape.l0]
    rw [if_pos (by omega), if_pos (by omega), rdOf_nat, p_validName _ (by omega) k (by omega), Option.bind_some]
    unfold shapeAt bless
    cases pxName (l.getD i ByteArray.empty) with
    | false => simp
    | true =>
      by_cases h0 : i = 0
      · subst h0
        simp
      · have hb : (i == 0) = false := by simpa using h0
        rw [if_pos rfl, if_pos (by omega), shape_prev (n := l.length) (by omega) (by omega) hl, if_pos (by omega), if_pos (by omega), rdOf_nat, hb]
        simp
  · simp only [spec_validShape.l0]
    rw [if_neg (by omega), p_inRange, Option.bind_some]
    cases (decide (0 ≤ c) && decide (c ≤ 8)) <;> simp
theorem p_implShape (c : Int) (l : List ByteArray) (hl : l.length ≤ 2000000) (hs : ∀ x ∈ l, x.size ≤ 2000000) (k : Nat) (hk : 9000000 ≤ k) : impl_ValidShape.f k c l = some (vshape c l) := by
  unfold impl_ValidShape.f vshape
  refine loop_all0 (fun k i => impl_ValidShape.l0 k l (l.length : Int) i c l) _ _ l.length 4000000 k (by omega) (fun k i hk hi => ?_) (fun k hk => ?_) (by omega)
  · have hsz := hs _ (getD_mem l ByteArray.empty i hi)
    simp only [impl_ValidShape.l0]
    rw [if_pos (by omega), if_pos (by omega), if_pos (by omega), rdOf_nat, p_isName _ (by omega) k (by omega), Option.bind_some]
    unfold shapeAt bless
    cases pxName (l.getD i ByteArray.empty) with
    | false => simp
    | true =>
      by_cases h0 : i = 0
      · subst h0
        simp
      · have hb : (i == 0) = false := by simpa using h0
        rw [if_pos rfl, if_pos (by omega), shape_prev (n := l.length) (by omega) (by omega) hl, if_pos (by omega), if_pos (by omega), rdOf_nat, hb]
        simp
  · simp only [impl_ValidShape.l0]
    rw [if_neg (by omega), p_in, Option.bind_some]
    cases (decide (0 ≤ c) && decide (c ≤ 8)) <;> simp
end Go.Proofs.Ytjcaiekalobmfaa.Pure
