import Derived.Test.YtjcaiekalobmfaaLMore
import Derived.Test.YtjcaiekalobmfaaPBase
import Derived.Test.YtjcaiekalobmfaaPLoops
import Derived.Test.YtjcaiekalobmfaaPNames
import Derived.Test.YtjcaiekalobmfaaPTurns
import Derived.Test.YtjcaiekalobmfaaPWide
import Derived.Test.YtjcaiekalobmfaaQ28
import Derived.Test.YtjcaiekalobmfaaQ32
import Derived.Test.YtjcaiekalobmfaaQ33
import Derived.Test.YtjcaiekalobmfaaQ34
namespace Go.Proofs.Ytjcaiekalobmfaa.Pure
open Go.RowKit Go.Proofs.Ytjcaiekalobmfaa.Q Go.Proofs.YtjcaiekalobmfaaL.PrintWords Go.Proofs.YtjcaiekalobmfaaL.PrintLast Go.Proofs.YtjcaiekalobmfaaL.PrintMore
set_option linter.unusedVariables false
set_option linter.unusedSimpArgs false
/-- What turns must be, as a Prop. -/
structure OkT (l : List TU) : Prop where
  name : ∀ x ∈ l, pxName x.f0 = true
  back : ∀ x ∈ l, x.f1 ∈ l.map (·.f0)
  froms : (l.map (·.f0)).Nodup
  tos : (l.map (·.f1)).Nodup
  len : l.length ≤ 8
theorem getD_get {α : Type} (l : List α) (d : α) (i : Nat) (h : i < l.length) : l.getD i d = l[i] := by
  rw [List.getD_eq_getElem?_getD, List.getElem?_eq_getElem h]; rfl
theorem okT_iff (l : List TU) : pxTurns l = true ↔ OkT l := by
  unfold pxTurns
  rw [Bool.and_eq_true, List.all_eq_true, decide_eq_true_eq]
  constructor
  · rintro ⟨h, hl⟩
    have h' : ∀ i (hi : i < l.length), pxName l[i].f0 = true ∧ (∃ x ∈ l, x.f0 = l[i].f1) ∧ ∀ x ∈ l.take i, x.f0 ≠ l[i].f0 ∧ x.f1 ≠ l[i].f1 := by
      intro i hi
      have := h i (List.mem_range.2 hi)
      unfold pxTurnOk at this
      rw [getD_get l tuz i hi] at this
      simp only [Bool.and_eq_true, List.any_eq_true, Bool.not_eq_true', List.any_eq_false, Bool.or_eq_true, beq_iff_eq, bt_eqv, not_or] at this
      exact ⟨this.1.1, this.1.2, this.2⟩
    refine ⟨fun x hx => ?_, fun x hx => ?_, ?_, ?_, hl⟩
    · obtain ⟨i, hi, rfl⟩ := List.mem_iff_getElem.1 hx
      exact (h' i hi).1
    · obtain ⟨i, hi, rfl⟩ := List.mem_iff_getElem.1 hx
      obtain ⟨y, hy, e⟩ := (h' i hi).2.1
      exact List.mem_map.2 ⟨y, hy, e⟩
    · rw [List.Nodup, List.pairwise_map, List.pairwise_iff_getElem]
      intro i j hi hj hij
      exact ((h' j hj).2.2 l[i] (List.mem_take_iff_getElem.2 ⟨i, by omega, rfl⟩)).1
    · rw [List.Nodup, List.pairwise_map, List.pairwise_iff_getElem]
      intro i j hi hj hij
      exact ((h' j hj).2.2 l[i] (List.mem_take_iff_getElem.2 ⟨i, by omega, rfl⟩)).2
  · intro h
    refine ⟨fun i hi => ?_, h.len⟩
    have hi := List.mem_range.1 hi
    unfold pxTurnOk
    rw [getD_get l tuz i hi]
    simp only [Bool.and_eq_true, List.any_eq_true, Bool.not_eq_true', List.any_eq_false, Bool.or_eq_true, beq_iff_eq, bt_eqv, not_or]
    refine ⟨⟨h.name _ (List.getElem_mem hi), ?_⟩, fun x hx => ?_⟩
    · obtain ⟨y, hy, e⟩ := List.mem_map.1 (h.back _ (List.getElem_mem hi))
      exact ⟨y, hy, e⟩
    · obtain ⟨j, hj, rfl⟩ := List.mem_take_iff_getElem.1 hx
      have hf := h.froms
      have ht := h.tos
      rw [List.Nodup, List.pairwise_map, List.pairwise_iff_getElem] at hf ht
      exact ⟨hf j i (by omega) hi (by omega), ht j i (by omega) hi (by omega)⟩
/-- As many different ones, all among others of that number: the others are among them. -/
theorem pigeon {α : Type} [DecidableEq α] : ∀ (a b : List α), a.Nodup → (∀ x ∈ a, x ∈ b) → b.length ≤ a.length → ∀ x ∈ b, x ∈ a
  | [], b, _, _, h, x, hx => by
    have : b = [] := List.eq_nil_of_length_eq_zero (by simpa using h)
    rw [this] at hx; exact hx
  | t :: a, b, hn, hs, h, x, hx => by
    have ht : t ∈ b := hs t (by simp)
    rw [List.nodup_cons] at hn
    by_cases e : x = t
    · simp [e]
    · have := pigeon a (b.erase t) hn.2 (fun y hy => (List.mem_erase_of_ne (fun e' => hn.1 (by rw [← e']; exact hy))).2 (hs y (by simp [hy]))) (by rw [List.length_erase_of_mem ht]; simp at h; omega) x ((List.mem_erase_of_ne e).2 hx)
      simp [this]
def sw (x : TU) : TU := ⟨x.f1, x.f0⟩
theorem sw_sw (l : List TU) : (l.map sw).map sw = l := by
  rw [List.map_map]
  have : sw ∘ sw = id := by funext x; rfl
  rw [this, List.map_id]
theorem okT_all (l : List TU) (h : OkT l) : ∀ x ∈ l.map (·.f0), x ∈ l.map (·.f1) :=
  pigeon _ _ h.tos (fun x hx => by
    obtain ⟨y, hy, rfl⟩ := List.mem_map.1 hx
    exact h.back y hy) (by simp)
theorem okT_sw (l : List TU) (h : OkT l) : OkT (l.map sw) := by
  have e0 : (l.map sw).map (·.f0) = l.map (·.f1) := by rw [List.map_map]; rfl
  have e1 : (l.map sw).map (·.f1) = l.map (·.f0) := by rw [List.map_map]; rfl
  refine ⟨fun x hx => ?_, fun x hx => ?_, by rw [e0]; exact h.tos, by rw [e1]; exact h.froms, by rw [List.length_map]; exact h.len⟩
  · obtain ⟨y, hy, rfl⟩ := List.mem_map.1 hx
    obtain ⟨z, hz, e⟩ := List.mem_map.1 (h.back y hy)
    show pxName y.f1 = true
    rw [← e]
    exact h.name z hz
  · rw [e0]
    obtain ⟨y, hy, rfl⟩ := List.mem_map.1 hx
    exact okT_all l h _ (List.mem_map.2 ⟨y, hy, rfl⟩)
theorem turnBack_l0 (l : List TU) (hl : l.length ≤ 2000000) : ∀ (d k i : Nat) (acc : List TU), i + d = l.length → acc.length = l.length → d < k → impl_TurnBack.l0 k acc l (l.length : Int) (i : Int) = some (acc.take i ++ (l.map sw).drop i) := by
  intro d
  induction d with
  | zero =>
    intro k i acc h ha hk
    obtain ⟨k, rfl⟩ : ∃ m, k = m + 1 := ⟨k - 1, by omega⟩
    simp only [impl_TurnBack.l0]
    rw [if_neg (by omega), List.drop_of_length_le (by simp; omega), List.take_of_length_le (by omega), List.append_nil]
  | succ d ih =>
    intro k i acc h ha hk
    obtain ⟨k, rfl⟩ : ∃ m, k = m + 1 := ⟨k - 1, by omega⟩
    simp only [impl_TurnBack.l0]
    rw [if_pos (by omega), if_pos (by omega), if_pos (by omega), if_pos (by omega), wrap_succ (n := l.length) (by omega) (by omega), ih k (i + 1) _ (by omega) (by rw [List.length_set]; exact ha) (by omega), Int.toNat_natCast, rdtu, getD_get l tuz i (by omega)]
    rw [List.drop_eq_getElem_cons (i := i) (l := l.map sw) (by simp; omega), List.getElem_map, List.take_succ_eq_append_getElem (by rw [List.length_set]; omega), List.getElem_set_self, List.take_set_of_le (Nat.le_refl i)]
    simp [sw]
theorem p_implTurnBack (l : List TU) (hl : l.length ≤ 2000000) (hs : ∀ x ∈ l, x.f0.size ≤ 2000000) (k : Nat) (hk : 3000000 ≤ k) : impl_TurnBack.f k l = some (if pxTurns l = true then l.map sw else []) := by
  unfold impl_TurnBack.f
  rw [p_implTurns l hs, Option.bind_some]
  split
  · rw [if_pos (by omega), Int.toNat_natCast, if_pos (by omega)]
    have := turnBack_l0 l hl l.length k 0 (List.replicate l.length tuz) (by omega) (by simp) (by omega)
    simpa using this
  · rfl

/-! ### what is drawn -/
theorem rdOf5 (i : Int) (h0 : 0 ≤ i) (h1 : i < 5) : (rdOf ByteArray.empty (([(⟨#[97]⟩ : ByteArray), (⟨#[98]⟩ : ByteArray), (⟨#[99]⟩ : ByteArray), (⟨#[120]⟩ : ByteArray), (⟨#[100]⟩ : ByteArray)] : List ByteArray)) i).size = 1 := by
  have : i = 0 ∨ i = 1 ∨ i = 2 ∨ i = 3 ∨ i = 4 := by omega
  rcases this with rfl | rfl | rfl | rfl | rfl <;> rfl
theorem goodTurns_l0 (r : List Int) (p : Int) (n s : Int) (hn : 1 ≤ n) (hn' : n ≤ 4) (hs : 0 ≤ s) (hs' : s < 5) : ∀ (d k : Nat) (i : Int) (acc : List TU), i + d = n → 0 ≤ i → d < k → acc.length + d ≤ 100 → (∀ x ∈ acc, x.f0.size ≤ 7 ∧ x.f1.size ≤ 7) →
    ∃ l, spec_goodTurns.l0 k (([(⟨#[97]⟩ : ByteArray), (⟨#[98]⟩ : ByteArray), (⟨#[99]⟩ : ByteArray), (⟨#[120]⟩ : ByteArray), (⟨#[100]⟩ : ByteArray)] : List ByteArray)) n s acc i r p = some (l, p) ∧ l.length ≤ acc.length + d ∧ ∀ x ∈ l, x.f0.size ≤ 7 ∧ x.f1.size ≤ 7 := by
  intro d
  induction d with
  | zero =>
    intro k i acc h hi hk hl hx
    obtain ⟨k, rfl⟩ : ∃ m, k = m + 1 := ⟨k - 1, by omega⟩
    simp only [spec_goodTurns.l0]
    rw [if_neg (by omega)]
    exact ⟨acc, rfl, by omega, hx⟩
  | succ d ih =>
    intro k i acc h hi hk hl hx
    obtain ⟨k, rfl⟩ : ∃ m, k = m + 1 := ⟨k - 1, by omega⟩
    simp only [spec_goodTurns.l0]
    rw [wrap_in (n := s + i) (by omega) (by omega), wrap_in (n := i + 1) (by omega) (by omega)]
    have t0 := tmod_in (show 0 ≤ i + 1 by omega) (show 0 < n by omega)
    rw [wrap_in (n := s + Int.tmod (i + 1) n) (by omega) (by omega)]
    have t1 := tmod_in (show 0 ≤ s + i by omega) (show (0 : Int) < 5 by omega)
    have t2 := tmod_in (show 0 ≤ s + Int.tmod (i + 1) n by omega) (show (0 : Int) < 5 by omega)
    rw [if_pos (by omega), if_pos t1.1, if_pos (by simpa using t1.2), if_neg (by omega), if_pos t2.1, if_pos (by simpa using t2.2), if_pos (by omega)]
    have z1 := rdOf5 _ t1.1 t1.2
    have z2 := rdOf5 _ t2.1 t2.2
    generalize rdOf ByteArray.empty _ (Int.tmod (s + i) 5) = a at z1 ⊢
    generalize rdOf ByteArray.empty _ (Int.tmod (s + Int.tmod (i + 1) n) 5) = b at z2 ⊢
    obtain ⟨l, e, h1, h2⟩ := ih k (i + 1) (acc ++ [(⟨a, b⟩ : TU)]) (by omega) (by omega) (by omega) (by simp; omega) (fun x hx' => by
      simp only [List.mem_append, List.mem_singleton] at hx'
      rcases hx' with hx' | rfl
      · exact hx x hx'
      · exact ⟨by show a.size ≤ 7; omega, by show b.size ≤ 7; omega⟩)
    exact ⟨l, e, by simp at h1; omega, h2⟩
theorem p_goodTurns {r : List Int} (h : Rdr r) (k : Nat) (hk : 1000 ≤ k) {p : Int} (hp : 0 ≤ p) (hp' : p ≤ 700000) : ∃ l p', spec_goodTurns.f k r p = some (l, p') ∧ p ≤ p' ∧ p' ≤ p + 2 ∧ l.length ≤ 4 ∧ ∀ x ∈ l, x.f0.size ≤ 7 ∧ x.f1.size ≤ 7 := by
  unfold spec_goodTurns.f
  obtain ⟨v, e, hv⟩ := p_one h k (by omega) hp (by omega) ([3, 2, 4, 1, 0]) (by decide)
  rw [e, Option.bind_some]
  dsimp only
  obtain ⟨s, e, hs, hs'⟩ := p_pick h k (by omega) (p := p + 1) (by omega) (by omega) (n := 5) (by omega)
  rw [e, Option.bind_some]
  dsimp only
  by_cases h0 : v = 0
  · subst h0
    obtain ⟨k, rfl⟩ : ∃ m, k = m + 1 := ⟨k - 1, by omega⟩
    simp only [spec_goodTurns.l0]
    rw [if_neg (by omega)]
    exact ⟨[], _, rfl, by omega, by omega, by simp, by simp⟩
  · have hv' : 1 ≤ v ∧ v ≤ 4 := by
      simp only [List.mem_cons, List.not_mem_nil, or_false] at hv
      omega
    obtain ⟨l, e, h1, h2⟩ := goodTurns_l0 r (p + 1 + 1) v s hv'.1 hv'.2 hs hs' v.toNat k 0 [] (by omega) (by omega) (by omega) (by simp; omega) (by simp)
    exact ⟨l, _, e, by omega, by omega, by simp at h1; omega, h2⟩
theorem set_mem {α : Type} (l : List α) (i : Nat) (x y : α) (h : y ∈ l.set i x) : y = x ∨ y ∈ l := by
  rcases List.mem_or_eq_of_mem_set h with h | h
  · exact .inr h
  · exact .inl h
theorem p_someTurns {r : List Int} (h : Rdr r) (k : Nat) (hk : 2000 ≤ k) {p : Int} (hp : 0 ≤ p) (hp' : p ≤ 600000) : ∃ l p', spec_someTurns.f k r p = some (l, p') ∧ p ≤ p' ∧ p' ≤ p + 10 ∧ l.length ≤ 4 ∧ ∀ x ∈ l, x.f0.size ≤ 7 ∧ x.f1.size ≤ 7 := by
  unfold spec_someTurns.f
  obtain ⟨k, rfl⟩ : ∃ m, k = m + 1 := ⟨k - 1, by omega⟩
  obtain ⟨l, p1, e, h1, h2, h3, h4⟩ := p_goodTurns h (k + 1) (by omega) hp (by omega)
  rw [e, Option.bind_some]
  dsimp only
  have done : ∀ q, p ≤ q → q ≤ p + 10 → ∃ l' p', spec_someTurns.j0 (k + 1) l false r q = some (l', p') ∧ p ≤ p' ∧ p' ≤ p + 10 ∧ l'.length ≤ 4 ∧ ∀ x ∈ l', x.f0.size ≤ 7 ∧ x.f1.size ≤ 7 := by
    intro q hq1 hq2
    simp only [spec_someTurns.j0]
    rw [if_neg (by decide)]
    exact ⟨l, q, rfl, hq1, hq2, h3, h4⟩
  split
  · rename_i hpos
    obtain ⟨v, e, _, _⟩ := p_pick h (k + 1) (by omega) (p := p1) (by omega) (by omega) (n := 12) (by omega)
    rw [e, Option.bind_some]
    dsimp only
    by_cases hv : v = 0
    · subst hv
      rw [show ((0 : Int) == 0) = true from rfl]
      simp only [spec_someTurns.j0, if_true]
      obtain ⟨i, e, hi, hi'⟩ := p_pick h k (by omega) (p := p1 + 1) (by omega) (by omega) (n := (l.length : Int)) (by omega)
      rw [e, Option.bind_some]
      dsimp only
      obtain ⟨v, e, _, _⟩ := p_pick h k (by omega) (p := p1 + 1 + 1) (by omega) (by omega) (n := 2) (by omega)
      rw [e, Option.bind_some]
      dsimp only
      obtain ⟨n, rfl⟩ := Int.eq_ofNat_of_zero_le hi
      have hn : n < l.length := by omega
      have hm := h4 _ (getD_mem l tuz n hn)
      split
      · obtain ⟨s, e, hs⟩ := p_anyName h k (by omega) (p := p1 + 1 + 1 + 1) (by omega) (by omega)
        rw [e, Option.bind_some]
        dsimp only
        first | rw [if_pos hi, if_pos hi', rdtu] | rw [if_pos hi', rdtu] | rw [rdtu]
        refine ⟨_, _, rfl, by omega, by omega, by rw [List.length_set]; exact h3, fun x hx => ?_⟩
        rcases set_mem _ _ _ _ hx with rfl | hx
        · exact ⟨hm.1, hs⟩
        · exact h4 x hx
      · obtain ⟨s, e, hs⟩ := p_anyName h k (by omega) (p := p1 + 1 + 1 + 1) (by omega) (by omega)
        rw [e, Option.bind_some]
        dsimp only
        first | rw [if_pos hi, if_pos hi', rdtu] | rw [if_pos hi', rdtu] | rw [rdtu]
        refine ⟨_, _, rfl, by omega, by omega, by rw [List.length_set]; exact h3, fun x hx => ?_⟩
        rcases set_mem _ _ _ _ hx with rfl | hx
        · exact ⟨hs, hm.2⟩
        · exact h4 x hx
    · have : (v == 0) = false := by simpa using hv
      rw [this]
      exact done _ (by omega) (by omega)
  · exact done _ (by omega) (by omega)
end Go.Proofs.Ytjcaiekalobmfaa.Pure
