/- What an argument of a law is, read out of its datum: by the kinds of PrintWords; of no program. -/

import Derived.Lib.SmallJoins
import Derived.WalkSpells
import Derived.Test.YtlpmggokgcphiaaLMore
namespace Go.Proofs.YtlpmggokgcphiaaL.PrintMore
open Go.RowKit Go.Proofs.YtlpmggokgcphiaaL.PrintWords Go.ChangeShapes Go.WideShapes Go.Deep
set_option linter.unusedVariables false
/-- What lies at type t is of kind d, and Q holds of it. -/
def Opens {H : Type} (enc : TypeId × Value → H) (P : Program) (W : World) (t : TypeId) {α : Type} (d : Kd α) (Q : α → Prop) : Prop :=
  ∀ (fuel : Nat) (cs : List Value) (x : DataW H × List MemPlace), DataW.trod enc P W 0 (fun _ => true) true fuel t cs = some x → ∃ y, d.K W y cs ∧ Q y
section
variable {H : Type} {enc : TypeId × Value → H} {P : Program} {W : World} {t : TypeId}
theorem opens_int {k : IntKind} (ht : P.underlying t = some (.int k)) : Opens enc P W t (Kd.int k) (fun y => (Lit.int k y).wf = true) := by
  intro fuel cs x h
  obtain ⟨n, rfl, rfl, hw⟩ := DataW.trod_int ht h
  exact ⟨n, rfl, hw⟩
theorem opens_bool (ht : P.underlying t = some .bool) : Opens enc P W t Kd.bool (fun _ => True) := by
  intro fuel cs x h
  obtain ⟨n, rfl, rfl⟩ := DataW.trod_bool ht h
  exact ⟨n, rfl, trivial⟩
theorem opens_string (ht : P.underlying t = some .string) : Opens enc P W t Kd.string (fun y => y.size ≤ maxLen) := by
  intro fuel cs x h
  obtain ⟨n, rfl, rfl, hw⟩ := DataW.trod_string ht h
  exact ⟨n, rfl, hw⟩
theorem list_of {α : Type} (p : Nat → α → Prop) : ∀ n, (∀ i, i < n → ∃ y, p i y) → ∃ ys : List α, ys.length = n ∧ ∀ i y, ys[i]? = some y → p i y
  | 0, _ => ⟨[], rfl, fun i y h => by simp at h⟩
  | n + 1, h => by
    obtain ⟨ys, hl, hp⟩ := list_of p n (fun i hi => h i (by omega))
    obtain ⟨y, hy⟩ := h n (by omega)
    refine ⟨ys ++ [y], by simp [hl], fun i z hz => ?_⟩
    by_cases hi : i < n
    · rw [List.getElem?_append_left (by omega)] at hz
      exact hp i z hz
    · rw [List.getElem?_append_right (by omega)] at hz
      have : i - ys.length = 0 := by
        rcases Nat.eq_zero_or_pos (i - ys.length) with e | e
        · exact e
        · rw [List.getElem?_eq_none (by simp; omega)] at hz
          cases hz
      rw [this] at hz
      have hin : i = n := by omega
      subst hin
      simp at hz
      subst hz
      exact hy
theorem mapM_get {α β : Type} {f : α → Option β} : ∀ {l : List α} {r : List β}, l.mapM f = some r → r.length = l.length ∧ ∀ (i : Nat) (u : β), r[i]? = some u → ∃ a, l[i]? = some a ∧ f a = some u := by
  intro l
  induction l with
  | nil =>
    intro r h
    simp at h
    subst h
    exact ⟨rfl, fun i u hu => by simp at hu⟩
  | cons a l ih =>
    intro r h
    simp only [List.mapM_cons, bind, Option.bind_eq_some_iff, pure, Option.some.injEq] at h
    obtain ⟨b, hb, r', hr, rfl⟩ := h
    obtain ⟨h1, h2⟩ := ih hr
    refine ⟨by simp [h1], fun i u hu => ?_⟩
    cases i with
    | zero =>
      simp at hu
      subst hu
      exact ⟨a, rfl, hb⟩
    | succ i =>
      simp at hu
      obtain ⟨a', e1, e2⟩ := h2 i u hu
      exact ⟨a', by simpa using e1, e2⟩
theorem cells_get {w : World} {base : Nat} {a : Addr} {n : Nat} {cs : List Value} (h : w.cells? base a n = some cs) : cs.length = n ∧ ∀ i u, cs[i]? = some u → w.cell? (a.add i) = some u := by
  unfold World.cells? at h
  split at h
  · obtain ⟨h1, h2⟩ := mapM_get h
    refine ⟨by simpa using h1, fun i u hu => ?_⟩
    obtain ⟨j, e1, e2⟩ := h2 i u hu
    have : j = i := by
      rw [List.getElem?_range (by
        rcases Nat.lt_or_ge i n with hi | hi
        · exact hi
        · rw [List.getElem?_eq_none (by simpa using hi)] at e1; cases e1)] at e1
      exact (Option.some.inj e1).symm
    rw [this] at e2
    exact e2
  · cases h
theorem opens_slice {e : TypeId} {α : Type} {d : Kd α} {Q : α → Prop} (ht : P.underlying t = some (.slice e)) (he : P.cellsOf e = d.sz) (h : Opens enc P W e d Q) : Opens enc P W t (Kd.slice e d) (fun l => l.length ≤ maxLen ∧ ∀ x ∈ l, Q x) := by
  intro fuel cs x hx
  rcases DataW.trod_slice ht hx with ⟨rfl, _⟩ | ⟨a, len, cap, elems, rest, n, _, rfl, _, _, hlc, hcm, hlen, hel, _⟩
  · exact ⟨[], ⟨none, 0, rfl, Nat.le_refl _, Kd.C_nil _ _⟩, Nat.zero_le _, fun x hx => by simp at hx⟩
  · have : ∀ i, i < len → ∃ y, (∃ c, W.cells? 0 (a.add (i * d.sz)) d.sz = some c ∧ d.K W y c) ∧ Q y := by
      intro i hi
      have h1 := hel i hi
      rw [he, List.getElem?_eq_getElem (by omega), Option.bind_eq_some_iff] at h1
      obtain ⟨c, hc, h2⟩ := h1
      obtain ⟨y, hk, hq⟩ := h _ _ _ h2
      exact ⟨y, ⟨c, hc, hk⟩, hq⟩
    obtain ⟨ys, hl, hp⟩ := list_of _ len this
    refine ⟨ys, ⟨some a, cap, by rw [hl], by omega, ?_⟩, by omega, fun y hy => ?_⟩
    · refine ⟨rfl, ?_, fun _ => ⟨a, rfl, fun j p hj => ?_⟩⟩
      · have : maxLen = 9223372036854775807 := rfl
        omega
      · obtain ⟨⟨c, hc, hk⟩, _⟩ := hp j p hj
        obtain ⟨h1, h2⟩ := cells_get hc
        refine ⟨c, h1, hk, fun i u hu => ?_⟩
        have := h2 i u hu
        rw [Go.Deep.add_add] at this
        exact this
    · obtain ⟨i, hi⟩ := List.mem_iff_getElem?.1 hy
      exact (hp i y hi).2
theorem opens_iso {α β : Type} {d : Kd β} {Q : β → Prop} {f : α → β} (g : β → α) (hfg : ∀ y, f (g y) = y) (h : Opens enc P W t d Q) : Opens enc P W t (Kd.iso d f) (fun x => Q (f x)) := by
  intro fuel cs x hx
  obtain ⟨y, hk, hq⟩ := h _ _ _ hx
  refine ⟨g y, ?_, ?_⟩
  · show d.K W (f (g y)) cs
    rw [hfg]
    exact hk
  · show Q (f (g y))
    rw [hfg]
    exact hq
theorem opens_struct1 {f0 : Field} {α0 : Type} {d0 : Kd α0} {Q0 : α0 → Prop} (hs : P.underlying t = some (.struct #[f0])) (hone : oneCellFields P #[f0] = true) (hC : P.cellsOf t = 1) (h0 : Opens enc P W f0.type d0 Q0) : Opens enc P W t d0 Q0 := by
  intro fuel cs x hx
  obtain ⟨xs, n, _, _, hl, hlen, hf⟩ := DataW.trod_struct hs hx
  have k0 := hf 0 f0 rfl
  obtain ⟨o0, c0⟩ := hone_of hone 0 f0 rfl
  rw [o0, c0, List.getElem?_eq_getElem (by simp at hlen; omega)] at k0
  rw [hC] at hl
  match cs, hl with
  | [v0], _ => exact h0 _ _ _ k0
theorem opens_struct2 {f0 f1 : Field} {α0 α1 : Type} {d0 : Kd α0} {d1 : Kd α1} {Q0 : α0 → Prop} {Q1 : α1 → Prop} (hs : P.underlying t = some (.struct #[f0, f1])) (hone : oneCellFields P #[f0, f1] = true) (hC : P.cellsOf t = 2)
    (h0 : Opens enc P W f0.type d0 Q0) (h1 : Opens enc P W f1.type d1 Q1) : Opens enc P W t (Kd.pair d0 d1) (fun y => Q0 y.1 ∧ Q1 y.2) := by
  intro fuel cs x hx
  obtain ⟨xs, n, _, _, hl, hlen, hf⟩ := DataW.trod_struct hs hx
  have k0 := hf 0 f0 rfl
  have k1 := hf 1 f1 rfl
  obtain ⟨o0, c0⟩ := hone_of hone 0 f0 rfl
  obtain ⟨o1, c1⟩ := hone_of hone 1 f1 rfl
  simp at hlen
  rw [o0, c0, List.getElem?_eq_getElem (by omega)] at k0
  rw [o1, c1, List.getElem?_eq_getElem (by omega)] at k1
  rw [hC] at hl
  match cs, hl with
  | [v0, v1], _ =>
    obtain ⟨y0, K0, q0⟩ := h0 _ _ _ k0
    obtain ⟨y1, K1, q1⟩ := h1 _ _ _ k1
    exact ⟨(y0, y1), ⟨[v0], [v1], rfl, K0, K1⟩, q0, q1⟩
theorem opens_struct3 {f0 f1 f2 : Field} {α0 α1 α2 : Type} {d0 : Kd α0} {d1 : Kd α1} {d2 : Kd α2} {Q0 : α0 → Prop} {Q1 : α1 → Prop} {Q2 : α2 → Prop} (hs : P.underlying t = some (.struct #[f0, f1, f2])) (hone : oneCellFields P #[f0, f1, f2] = true) (hC : P.cellsOf t = 3)
    (h0 : Opens enc P W f0.type d0 Q0) (h1 : Opens enc P W f1.type d1 Q1) (h2 : Opens enc P W f2.type d2 Q2) : Opens enc P W t (Kd.pair d0 (Kd.pair d1 d2)) (fun y => Q0 y.1 ∧ Q1 y.2.1 ∧ Q2 y.2.2) := by
  intro fuel cs x hx
  obtain ⟨xs, n, _, _, hl, hlen, hf⟩ := DataW.trod_struct hs hx
  have k0 := hf 0 f0 rfl
  have k1 := hf 1 f1 rfl
  have k2 := hf 2 f2 rfl
  obtain ⟨o0, c0⟩ := hone_of hone 0 f0 rfl
  obtain ⟨o1, c1⟩ := hone_of hone 1 f1 rfl
  obtain ⟨o2, c2⟩ := hone_of hone 2 f2 rfl
  simp at hlen
  rw [o0, c0, List.getElem?_eq_getElem (by omega)] at k0
  rw [o1, c1, List.getElem?_eq_getElem (by omega)] at k1
  rw [o2, c2, List.getElem?_eq_getElem (by omega)] at k2
  rw [hC] at hl
  match cs, hl with
  | [v0, v1, v2], _ =>
    obtain ⟨y0, K0, q0⟩ := h0 _ _ _ k0
    obtain ⟨y1, K1, q1⟩ := h1 _ _ _ k1
    obtain ⟨y2, K2, q2⟩ := h2 _ _ _ k2
    exact ⟨(y0, y1, y2), ⟨[v0], [v1, v2], rfl, K0, ⟨[v1], [v2], rfl, K1, K2⟩⟩, q0, q1, q2⟩
theorem opens_struct4 {f0 f1 f2 f3 : Field} {α0 α1 α2 α3 : Type} {d0 : Kd α0} {d1 : Kd α1} {d2 : Kd α2} {d3 : Kd α3} {Q0 : α0 → Prop} {Q1 : α1 → Prop} {Q2 : α2 → Prop} {Q3 : α3 → Prop} (hs : P.underlying t = some (.struct #[f0, f1, f2, f3]))
    (hone : oneCellFields P #[f0, f1, f2, f3] = true) (hC : P.cellsOf t = 4) (h0 : Opens enc P W f0.type d0 Q0) (h1 : Opens enc P W f1.type d1 Q1) (h2 : Opens enc P W f2.type d2 Q2) (h3 : Opens enc P W f3.type d3 Q3) :
    Opens enc P W t (Kd.pair d0 (Kd.pair d1 (Kd.pair d2 d3))) (fun y => Q0 y.1 ∧ Q1 y.2.1 ∧ Q2 y.2.2.1 ∧ Q3 y.2.2.2) := by
  intro fuel cs x hx
  obtain ⟨xs, n, _, _, hl, hlen, hf⟩ := DataW.trod_struct hs hx
  have k0 := hf 0 f0 rfl
  have k1 := hf 1 f1 rfl
  have k2 := hf 2 f2 rfl
  have k3 := hf 3 f3 rfl
  obtain ⟨o0, c0⟩ := hone_of hone 0 f0 rfl
  obtain ⟨o1, c1⟩ := hone_of hone 1 f1 rfl
  obtain ⟨o2, c2⟩ := hone_of hone 2 f2 rfl
  obtain ⟨o3, c3⟩ := hone_of hone 3 f3 rfl
  simp at hlen
  rw [o0, c0, List.getElem?_eq_getElem (by omega)] at k0
  rw [o1, c1, List.getElem?_eq_getElem (by omega)] at k1
  rw [o2, c2, List.getElem?_eq_getElem (by omega)] at k2
  rw [o3, c3, List.getElem?_eq_getElem (by omega)] at k3
  rw [hC] at hl
  match cs, hl with
  | [v0, v1, v2, v3], _ =>
    obtain ⟨y0, K0, q0⟩ := h0 _ _ _ k0
    obtain ⟨y1, K1, q1⟩ := h1 _ _ _ k1
    obtain ⟨y2, K2, q2⟩ := h2 _ _ _ k2
    obtain ⟨y3, K3, q3⟩ := h3 _ _ _ k3
    exact ⟨(y0, y1, y2, y3), ⟨[v0], [v1, v2, v3], rfl, K0, ⟨[v1], [v2, v3], rfl, K1, ⟨[v2], [v3], rfl, K2, K3⟩⟩⟩, q0, q1, q2, q3⟩
/-- A struct by value: its cells are its fields'. -/
theorem opens_agg {r : Reach} {b0 : Nat} {fs : Array Field} {v : Value} {α : Type} {d : Kd α} {Q : α → Prop} {p : List MemPlace} {dd : DataW H} (hs : P.underlying t = some (.struct fs)) (hv : Value.okWide P W r b0 t v)
    (h : Opens enc P W t d Q) (ht : DataW.Trod enc P W 0 (fun _ => true) true t v dd p) : ∃ y cs, v = .agg cs ∧ d.K W y cs.toList ∧ Q y := by
  obtain ⟨cs, rfl, hsz⟩ := okWide_struct hs hv
  obtain ⟨fuel, hf⟩ := ht
  obtain ⟨y, hk, hq⟩ := h _ _ _ hf
  exact ⟨y, cs, rfl, by simpa [Value.cells] using hk, hq⟩
/-- A slice by value. -/
theorem opens_sl {r : Reach} {b0 : Nat} {e : TypeId} {v : Value} {α : Type} {d : Kd α} {Q : List α → Prop} {p : List MemPlace} {dd : DataW H} (ht : P.underlying t = some (.slice e)) (hv : Value.okWide P W r b0 t v)
    (h : Opens enc P W t (Kd.slice e d) Q) (hT : DataW.Trod enc P W 0 (fun _ => true) true t v dd p) : ∃ A c l, v = .slice A l.length c ∧ l.length ≤ c ∧ d.C W A l.length l ∧ Q l := by
  obtain ⟨A, len, cap, rfl⟩ := okWide_slice ht hv
  obtain ⟨fuel, hf⟩ := hT
  obtain ⟨l, ⟨A', c', e', hl, hc⟩, hq⟩ := h _ _ _ hf
  simp [Value.cells] at e'
  obtain ⟨rfl, rfl, rfl⟩ := e'
  exact ⟨A, cap, l, rfl, hl, hc, hq⟩
end
end Go.Proofs.YtlpmggokgcphiaaL.PrintMore
