import Derived.Test.YtjcaiekalobmfaaLMore
import Derived.Test.YtjcaiekalobmfaaPBase
import Derived.Test.YtjcaiekalobmfaaPLoops
import Derived.Test.YtjcaiekalobmfaaPWide
import Derived.Test.YtjcaiekalobmfaaQ23
import Derived.Test.YtjcaiekalobmfaaQ24
import Derived.Test.YtjcaiekalobmfaaQ28
namespace Go.Proofs.Ytjcaiekalobmfaa.Pure
open Go.RowKit Go.Proofs.Ytjcaiekalobmfaa.Q Go.Proofs.YtjcaiekalobmfaaL.PrintWords Go.Proofs.YtjcaiekalobmfaaL.PrintLast Go.Proofs.YtjcaiekalobmfaaL.PrintMore
set_option linter.unusedVariables false
set_option linter.unusedSimpArgs false
abbrev TU := S51
abbrev tuz : TU := z51
theorem rdtu (l : List TU) (i : Nat) : rd_T51 l (i : Int) = l.getD i tuz := by
  unfold rd_T51
  rw [Int.toNat_natCast]
theorem p_turnAt (l : List TU) (s : ByteArray) (hl : l.length ≤ 2000000) (k : Nat) (hk : 3000000 ≤ k) : spec_turnAt.f k l s = some (pxIdx (fun x : TU => x.f0.toList == s.toList) l) := by
  unfold spec_turnAt.f
  refine loop_find0 (fun k i => spec_turnAt.l0 k l s i) l tuz _ 0 k (by omega) (fun k i _ hi => ?_) (fun k _ => ?_) (by omega)
  · simp only [spec_turnAt.l0]
    rw [if_pos (by omega), if_pos (by omega), rdtu]
    simp only [beq_iff_eq]
  · simp only [spec_turnAt.l0]
    rw [if_neg (by omega)]
theorem p_implTurns (l : List TU) (hs : ∀ x ∈ l, x.f0.size ≤ 2000000) : impl_ValidTurns.f l = some (pxTurns l) := by
  unfold impl_ValidTurns.f
  rw [if_pos]
  rw [List.all_eq_true]
  intro x hx
  have := hs x hx
  simp only [decide_eq_true_eq]
  omega
theorem range_take {α : Type} (l : List α) (d : α) (i : Nat) (hi : i ≤ l.length) (p : α → Bool) : ((List.range i).all fun j => p (l.getD j d)) = (l.take i).all p := by
  have e := range_all (l.take i) d p
  rw [List.length_take, Nat.min_eq_left hi] at e
  rw [← e, Bool.eq_iff_iff, List.all_eq_true, List.all_eq_true]
  have : ∀ j, j < i → l.getD j d = (l.take i).getD j d := by
    intro j hj
    rw [List.getD_eq_getElem?_getD, List.getD_eq_getElem?_getD, List.getElem?_take_of_lt hj]
  constructor
  · intro h j hj
    rw [← this j (List.mem_range.1 hj)]
    exact h j hj
  · intro h j hj
    rw [this j (List.mem_range.1 hj)]
    exact h j hj
theorem p_specTurns (l : List TU) (hl : l.length ≤ 2000000) (hs : ∀ x ∈ l, x.f0.size ≤ 2000000) (k : Nat) (hk : 5000000000000 ≤ k) : spec_validTurns.f k l = some (pxTurns l) := by
  unfold spec_validTurns.f pxTurns
  refine loop_wide0 (fun k i => spec_validTurns.l0 k l i) _ _ l.length 4000000 2000003 k (by omega) (fun k i hk hi => ?_) (fun k hk => ?_) ?_
  · obtain ⟨k, rfl⟩ : ∃ m, k = m + 1 := ⟨k - 1, by omega⟩
    have hsz := hs _ (getD_mem l tuz i hi)
    simp only [spec_validTurns.l0]
    rw [if_pos (by omega), if_pos (by omega), rdtu, p_validName _ (by omega) k (by omega), Option.bind_some, p_turnAt l _ hl k (by omega), Option.bind_some, if_pos (show (i : Int) ≤ (l.length : Int) by omega), Int.toNat_natCast, p_turnAt _ _ (by rw [List.length_take]; omega) k (by omega), Option.bind_some]
    have inner := loop_then0 (fun k j => spec_validTurns.l1 k l i j) (fun j => !((l.getD j tuz).f1.toList == (l.getD i tuz).f1.toList)) (fun k => spec_validTurns.l0 k l (wrap64 ((i : Int) + 1))) (some false) i k (by omega)
      (fun k j hj => by
        simp only [spec_validTurns.l1]
        rw [if_pos (by omega), if_pos (by omega), if_pos (by omega), if_pos (by omega), if_pos (by omega), rdtu, rdtu]
        cases hq : ((l.getD j tuz).f1.toList == (l.getD i tuz).f1.toList) with
        | true => rw [if_pos (by simpa using hq)]; simp
        | false => rw [if_neg (by simpa using hq)]; simp) (fun k => by
        simp only [spec_validTurns.l1]
        rw [if_neg (by omega)]) (by omega)
    rw [range_take l tuz i (by omega) (fun x => !(x.f1.toList == (l.getD i tuz).f1.toList))] at inner
    rw [inner]
    have e1 := pxIdx_any (fun x : TU => x.f0.toList == (l.getD i tuz).f1.toList) l
    have e2 := pxIdx_any (fun x : TU => x.f0.toList == (l.getD i tuz).f0.toList) (l.take i)
    have e3 : ((l.take i).any fun x => x.f0.toList == (l.getD i tuz).f0.toList || x.f1.toList == (l.getD i tuz).f1.toList) = ((l.take i).any (fun x => x.f0.toList == (l.getD i tuz).f0.toList) || !(l.take i).all fun x => !(x.f1.toList == (l.getD i tuz).f1.toList)) := by
      rw [List.not_all_eq_any_not]
      simp only [Bool.not_not]
      generalize l.take i = m
      induction m with
      | nil => rfl
      | cons a m ih =>
        simp only [List.any_cons, ih]
        cases a.f0.toList == (l.getD i tuz).f0.toList <;> cases a.f1.toList == (l.getD i tuz).f1.toList <;> simp
    unfold pxTurnOk
    rw [e3, ← e1, ← e2]
    generalize pxIdx (fun x : TU => x.f0.toList == (l.getD i tuz).f1.toList) l = q1
    generalize pxIdx (fun x : TU => x.f0.toList == (l.getD i tuz).f0.toList) (l.take i) = q2
    generalize (l.take i).all (fun x => !(x.f1.toList == (l.getD i tuz).f1.toList)) = q3
    generalize pxName (l.getD i tuz).f0 = q4
    have hlt : k - 1 - i + 2000003 ≥ k + 1 := by omega
    cases q4 with
    | false => simp
    | true =>
      by_cases h1 : q1 < 0
      · have : ¬ 0 ≤ q1 := by omega
        simp [h1, this]
      · have h1' : 0 ≤ q1 := by omega
        by_cases h2 : 0 ≤ q2
        · simp [h1, h2]
        · cases q3 with
          | false => simp [h1, h2]
          | true =>
            simp [h1, h2, h1']
            exact ⟨k - 1 - i, by omega, rfl⟩
  · obtain ⟨k, rfl⟩ : ∃ m, k = m + 1 := ⟨k - 1, by omega⟩
    simp only [spec_validTurns.l0]
    rw [if_neg (by omega)]
    congr 1
    rw [decide_eq_decide]
    omega
  · have : l.length * 2000003 ≤ 2000000 * 2000003 := Nat.mul_le_mul_right _ hl
    omega
end Go.Proofs.Ytjcaiekalobmfaa.Pure
