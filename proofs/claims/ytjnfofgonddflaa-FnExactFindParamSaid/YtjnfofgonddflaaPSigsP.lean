import Derived.Test.YtjnfofgonddflaaLMore
import Derived.Test.YtjnfofgonddflaaPBase
import Derived.Test.YtjnfofgonddflaaPLoops
import Derived.Test.YtjnfofgonddflaaPSigs
import Derived.Test.YtjnfofgonddflaaPWide
import Derived.Test.YtjnfofgonddflaaQ6
namespace Go.Proofs.Ytjnfofgonddflaa.Pure
open Go.RowKit Go.Proofs.Ytjnfofgonddflaa.Q Go.Proofs.YtjnfofgonddflaaL.PrintWords Go.Proofs.YtjnfofgonddflaaL.PrintLast Go.Proofs.YtjnfofgonddflaaL.PrintMore
set_option linter.unusedVariables false
set_option linter.unusedSimpArgs false
/-- What a signature must be, as a Prop. -/
structure OkS (l : List PA) : Prop where
  ok : ∀ x ∈ l, paramOk x = true
  names : (l.map (·.f0)).Nodup
  ord : ∀ i (h : i + 1 < l.length), ordOk l[i] l[i + 1] = true
  len : l.length ≤ 8
theorem getD_at {α : Type} (l : List α) (d : α) (i : Nat) (h : i < l.length) : l.getD i d = l[i] := by
  rw [List.getD_eq_getElem?_getD, List.getElem?_eq_getElem h]; rfl
theorem okS_iff (l : List PA) : vsig l = true ↔ OkS l := by
  unfold vsig
  rw [Bool.and_eq_true, List.all_eq_true, decide_eq_true_eq]
  constructor
  · rintro ⟨h, hl⟩
    have h' : ∀ i (hi : i < l.length), paramOk l[i] = true ∧ (∀ x ∈ l.take i, x.f0 ≠ l[i].f0) ∧ (i = 0 ∨ ordOk (l.getD (i - 1) paz) l[i] = true) := by
      intro i hi
      have := h i (List.mem_range.2 hi)
      unfold sigAt freshPa at this
      rw [getD_at l paz i hi] at this
      simp only [Bool.and_eq_true, Bool.not_eq_true', List.any_eq_false, Bool.or_eq_true, beq_iff_eq, bt_eqv] at this
      exact ⟨this.1, this.2.1, this.2.2⟩
    refine ⟨fun x hx => ?_, ?_, fun i hi => ?_, hl⟩
    · obtain ⟨i, hi, rfl⟩ := List.mem_iff_getElem.1 hx
      exact (h' i hi).1
    · rw [List.Nodup, List.pairwise_map, List.pairwise_iff_getElem]
      intro i j hi hj hij
      exact (h' j hj).2.1 l[i] (List.mem_take_iff_getElem.2 ⟨i, by omega, rfl⟩)
    · have := (h' (i + 1) hi).2.2
      rw [Nat.add_sub_cancel, getD_at l paz i (by omega)] at this
      rcases this with h | h
      · omega
      · exact h
  · intro h
    refine ⟨fun i hi => ?_, h.len⟩
    have hi := List.mem_range.1 hi
    unfold sigAt freshPa
    rw [getD_at l paz i hi]
    simp only [Bool.and_eq_true, Bool.not_eq_true', List.any_eq_false, Bool.or_eq_true, beq_iff_eq, bt_eqv]
    refine ⟨h.ok _ (List.getElem_mem hi), fun x hx => ?_, ?_⟩
    · obtain ⟨j, hj, rfl⟩ := List.mem_take_iff_getElem.1 hx
      have hf := h.names
      rw [List.Nodup, List.pairwise_map, List.pairwise_iff_getElem] at hf
      exact hf j i (by omega) hi (by omega)
    · cases i with
      | zero => exact .inl rfl
      | succ i =>
        right
        rw [Nat.add_sub_cancel, getD_at l paz i (by omega)]
        exact h.ord i hi
theorem OkS.take {l : List PA} (h : OkS l) (n : Nat) : OkS (l.take n) := by
  refine ⟨fun x hx => h.ok x (List.mem_of_mem_take hx), ?_, fun i hi => ?_, ?_⟩
  · rw [List.map_take]
    exact List.Sublist.nodup (List.take_sublist _ _) h.names
  · rw [List.length_take] at hi
    rw [List.getElem_take, List.getElem_take]
    exact h.ord i (by omega)
  · rw [List.length_take]
    have := h.len
    omega
theorem OkS.drop {l : List PA} (h : OkS l) (n : Nat) : OkS (l.drop n) := by
  refine ⟨fun x hx => h.ok x (List.mem_of_mem_drop hx), ?_, fun i hi => ?_, ?_⟩
  · rw [List.map_drop]
    exact List.Sublist.nodup (List.drop_sublist _ _) h.names
  · rw [List.length_drop] at hi
    rw [List.getElem_drop, List.getElem_drop]
    exact h.ord (n + i) (by omega)
  · rw [List.length_drop]
    have := h.len
    omega
theorem OkS.range {l : List PA} (h : OkS l) {x : PA} (hx : x ∈ l) : 0 ≤ x.f1 ∧ x.f1 ≤ 4 := by
  have := h.ok x hx
  unfold paramOk at this
  simp only [Bool.and_eq_true, decide_eq_true_eq] at this
  exact this.2.1
theorem OkS.sorted {l : List PA} (h : OkS l) : l.Pairwise fun x y => x.f1 ≤ y.f1 := by
  rw [List.pairwise_iff_getElem]
  have step : ∀ i (hi : i + 1 < l.length), l[i].f1 ≤ l[i + 1].f1 := by
    intro i hi
    have := h.ord i hi
    unfold ordOk at this
    simp only [Bool.and_eq_true, Bool.not_eq_true', decide_eq_false_iff_not] at this
    omega
  have : ∀ d i (hi : i + d < l.length), l[i].f1 ≤ l[i + d].f1 := by
    intro d
    induction d with
    | zero => intro i hi; exact Int.le_refl _
    | succ d ih =>
      intro i hi
      have h1 := ih i (by omega)
      have h2 := step (i + d) (by omega)
      have e : i + d + 1 = i + (d + 1) := by omega
      simp only [e] at h2
      omega
  intro i j hi hj hij
  have h1 := this (j - i) i (by omega)
  have e : i + (j - i) = j := by omega
  simp only [e] at h1
  exact h1
/-- A name's place is told. -/
theorem idx_self {l : List PA} (hn : (l.map (·.f0)).Nodup) (i : Nat) (hi : i < l.length) : pxIdx (fun x : PA => x.f0.toList == l[i].f0.toList) l = i := by
  refine pxIdx_hit _ l paz i hi (by rw [getD_at l paz i hi]; simp) (fun j hj => ?_)
  rw [getD_at l paz j (by omega)]
  rw [List.Nodup, List.pairwise_map, List.pairwise_iff_getElem] at hn
  have := hn j i (by omega) hi hj
  rw [beq_eq_false_iff_ne]
  rw [Ne, bt_eqv]
  exact this
end Go.Proofs.Ytjnfofgonddflaa.Pure
