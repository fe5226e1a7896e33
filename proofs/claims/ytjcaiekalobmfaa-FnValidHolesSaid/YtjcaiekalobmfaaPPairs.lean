import Derived.Test.YtjcaiekalobmfaaLMore
import Derived.Test.YtjcaiekalobmfaaPBase
import Derived.Test.YtjcaiekalobmfaaPLoops
import Derived.Test.YtjcaiekalobmfaaQ37
import Derived.Test.YtjcaiekalobmfaaQ38
import Derived.Test.YtjcaiekalobmfaaQ39
import Derived.Test.YtjcaiekalobmfaaQ44
import Derived.Test.YtjcaiekalobmfaaQ46
import Derived.Test.YtjcaiekalobmfaaQ48
import Derived.Test.YtjcaiekalobmfaaQ49
namespace Go.Proofs.Ytjcaiekalobmfaa.Pure
open Go.RowKit Go.Proofs.Ytjcaiekalobmfaa.Q Go.Proofs.YtjcaiekalobmfaaL.PrintWords Go.Proofs.YtjcaiekalobmfaaL.PrintLast Go.Proofs.YtjcaiekalobmfaaL.PrintMore
set_option linter.unusedVariables false
set_option linter.unusedSimpArgs false
abbrev PR := S116
abbrev pz : PR := z116
theorem rdp (l : List PR) (i : Nat) : rd_T116 l (i : Int) = l.getD i pz := by
  unfold rd_T116
  rw [Int.toNat_natCast]
theorem p_validNumbers (l : List Int) (hl : l.length ≤ 2000000) (k : Nat) (hk : 3000000 ≤ k) : spec_validNumbers.f k l = some (l.all val) := by
  unfold spec_validNumbers.f
  rw [← range_all l 0 val, ← Bool.and_true (List.all _ _)]
  refine loop_all0 (fun k i => spec_validNumbers.l0 k l i) _ _ l.length 0 k (by omega) (fun k i _ hi => ?_) (fun k _ => ?_) (by omega)
  · simp only [spec_validNumbers.l0]
    rw [if_pos (by omega), if_pos (by omega), p_validNumber, Option.bind_some, rd_nat]
  · simp only [spec_validNumbers.l0]
    rw [if_neg (by omega)]
theorem p_areValues (l : List Int) : impl_areValues.f l = some (l.all val) := by
  unfold impl_areValues.f
  rw [Option.some.injEq, List.not_any_eq_all_not]
  simp only [Bool.not_not]
  rfl
theorem p_specPairAt (l : List PR) (s : ByteArray) (hl : l.length ≤ 2000000) (k : Nat) (hk : 3000000 ≤ k) : spec_pairAt.f k l s = some (pxIdx (fun x : PR => x.f0.toList == s.toList) l) := by
  unfold spec_pairAt.f
  refine loop_find0 (fun k i => spec_pairAt.l0 k l s i) l pz _ 0 k (by omega) (fun k i _ hi => ?_) (fun k _ => ?_) (by omega)
  · simp only [spec_pairAt.l0]
    rw [if_pos (by omega), if_pos (by omega), rdp]
    simp only [beq_iff_eq]
  · simp only [spec_pairAt.l0]
    rw [if_neg (by omega)]
/-- What a pair must be. -/
def pairOk (x : PR) : Bool := pxName x.f0 && val x.f1
def freshAt (l : List PR) (i : Nat) : Bool := !((l.take i).any fun x => x.f0.toList == (l.getD i pz).f0.toList)
def vflat (ps : List Int) (l : List PR) : Bool := (List.range l.length).all (freshAt l) && (ps.all val && l.all pairOk && decide (ps.length ≤ 8) && decide (l.length ≤ 8))
theorem p_validPairs (l : List PR) (hl : l.length ≤ 2000000) (hs : ∀ x ∈ l, x.f0.size ≤ 2000000) (k : Nat) (hk : 6000000 ≤ k) : spec_validPairs.f k l = some (l.all pairOk) := by
  unfold spec_validPairs.f
  rw [← range_all l pz pairOk, ← Bool.and_true (List.all _ _)]
  refine loop_all0 (fun k i => spec_validPairs.l0 k l i) _ _ l.length 3000000 k (by omega) (fun k i hk hi => ?_) (fun k _ => ?_) (by omega)
  · simp only [spec_validPairs.l0]
    have hsz := hs _ (getD_mem l pz i hi)
    rw [if_pos (by omega), if_pos (by omega), rdp, p_validName _ (by omega) k (by omega), Option.bind_some, p_validNumber, Option.bind_some]
    unfold pairOk
    cases pxName (l.getD i pz).f0 <;> cases val (l.getD i pz).f1 <;> simp
  · simp only [spec_validPairs.l0]
    rw [if_neg (by omega)]
theorem freshAt_idx (l : List PR) (i : Nat) : freshAt l i = !decide (pxIdx (fun x : PR => x.f0.toList == (l.getD i pz).f0.toList) (l.take i) ≥ 0) := by
  rw [pxIdx_any]; rfl
theorem int_le8 (n : Nat) : decide ((n : Int) ≤ 8) = decide (n ≤ 8) := by
  rw [decide_eq_decide]; omega
theorem p_specFlat (ps : List Int) (l : List PR) (hp : ps.length ≤ 2000000) (hl : l.length ≤ 2000000) (hs : ∀ x ∈ l, x.f0.size ≤ 2000000) (k : Nat) (hk : 9000000 ≤ k) : spec_validFlat.f k ps l = some (vflat ps l) := by
  unfold spec_validFlat.f vflat
  refine loop_all0 (fun k i => spec_validFlat.l0 k i ps l) _ _ l.length 6000000 k (by omega) (fun k i hk hi => ?_) (fun k hk => ?_) (by omega)
  · simp only [spec_validFlat.l0]
    rw [if_pos (by omega), if_pos (by omega), if_pos (by omega), Int.toNat_natCast, rdp, p_specPairAt _ _ (by rw [List.length_take]; omega) k (by omega), Option.bind_some, freshAt_idx]
    generalize pxIdx (fun x : PR => x.f0.toList == (l.getD i pz).f0.toList) (l.take i) = q
    by_cases h : q ≥ 0
    · rw [if_pos h, if_neg (by simp [h])]
    · rw [if_neg h, if_pos (by simp [h])]
  · simp only [spec_validFlat.l0]
    rw [if_neg (by omega), p_validNumbers ps hp k (by omega), Option.bind_some, p_validPairs l hl hs k hk, Option.bind_some, int_le8]
    cases ps.all val <;> cases l.all pairOk <;> by_cases h : ps.length ≤ 8 <;> simp [h] <;> omega
theorem p_pairValid (s : ByteArray) (v : Int) (hs : s.size ≤ 2000000) (k : Nat) (hk : 3000000 ≤ k) : impl_Pair_valid.f k s v = some (pxName s && val v) := by
  unfold impl_Pair_valid.f
  rw [p_isName s (by omega) k (by omega), Option.bind_some, p_isValue, Option.bind_some]
  cases pxName s <;> simp
theorem and_range (n : Nat) (p q : Nat → Bool) : ((List.range n).all fun i => p i && q i) = ((List.range n).all p && (List.range n).all q) := by
  induction n with
  | zero => rfl
  | succ n ih =>
    simp only [List.range_succ, List.all_append, List.all_cons, List.all_nil, ih]
    cases (List.range n).all p <;> cases (List.range n).all q <;> cases p n <;> cases q n <;> rfl
theorem p_implFlat (ps : List Int) (l : List PR) (hl : l.length ≤ 2000000) (hs : ∀ x ∈ l, x.f0.size ≤ 2000000) (k : Nat) (hk : 9000000 ≤ k) : impl_ValidFlat.f k ps l = some (vflat ps l) := by
  unfold impl_ValidFlat.f
  have e : vflat ps l = (((List.range l.length).all fun i => pairOk (l.getD i pz) && freshAt l i) && (decide (ps.length ≤ 8) && decide (l.length ≤ 8) && ps.all val)) := by
    rw [and_range, range_all l pz pairOk]
    unfold vflat
    cases (List.range l.length).all (freshAt l) <;> cases ps.all val <;> cases l.all pairOk <;> cases decide (ps.length ≤ 8) <;> cases decide (l.length ≤ 8) <;> rfl
  rw [e]
  refine loop_all0 (fun k i => impl_ValidFlat.l0 k l (l.length : Int) i ps l) _ _ l.length 6000000 k (by omega) (fun k i hk hi => ?_) (fun k hk => ?_) (by omega)
  · simp only [impl_ValidFlat.l0]
    have hsz := hs _ (getD_mem l pz i hi)
    rw [if_pos (by omega), if_pos (by omega), if_pos (by omega), rdp, p_pairValid _ _ hsz k (by omega), Option.bind_some, if_pos (show (i : Int) ≤ (l.length : Int) by omega), Int.toNat_natCast]
    unfold impl_pairAt.f
    rw [Option.bind_some, freshAt_idx]
    unfold pairOk
    cases pxName (l.getD i pz).f0 && val (l.getD i pz).f1 with
    | false => simp
    | true =>
      generalize pxIdx (fun x : PR => x.f0.toList == (l.getD i pz).f0.toList) (l.take i) = q
      by_cases h : q ≥ 0
      · simp [h]
      · simp [h]
  · simp only [impl_ValidFlat.l0]
    rw [if_neg (by omega), p_areValues, Option.bind_some]
    by_cases h1 : ps.length ≤ 8
    · rw [if_pos (by omega)]
      by_cases h2 : l.length ≤ 8
      · rw [if_pos (by omega)]
        simp [h1, h2]
      · rw [if_neg (by omega)]
        simp [h2]
    · rw [if_neg (by omega)]
      simp [h1]
end Go.Proofs.Ytjcaiekalobmfaa.Pure
