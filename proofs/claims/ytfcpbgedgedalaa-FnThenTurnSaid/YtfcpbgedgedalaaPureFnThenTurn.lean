-- written by px.py and merge.py (programs of this claim's), over the kit's print. Not trusted: Lean checks it.
import Derived.Test.YtfcpbgedgedalaaLMore
import Derived.Test.YtfcpbgedgedalaaN0FnThenTurn
import Derived.Test.YtfcpbgedgedalaaM0FnThenTurn
import Derived.Test.YtfcpbgedgedalaaM1FnThenTurn
import Derived.Test.YtfcpbgedgedalaaM3FnThenTurn
import Derived.Test.YtfcpbgedgedalaaM4FnThenTurn
namespace Go.Proofs.Ytfcpbgedgedalaa.Pure
open Go.RowKit Go.Proofs.Ytfcpbgedgedalaa.Q Go.Proofs.YtfcpbgedgedalaaL.PrintWords Go.Proofs.YtfcpbgedgedalaaL.PrintLast Go.Proofs.YtfcpbgedgedalaaL.PrintMore
set_option linter.unusedVariables false
set_option linter.unusedSimpArgs false
theorem tn_then (a b : List TU) (s : ByteArray) : tn (thenR a b) s = tn b (tn a s) := by
  have el : ∀ x ∈ thenR a b, x.f1 = tn b (tn a x.f0) := by
    intro x hx
    unfold thenR at hx
    obtain ⟨q, _, hx⟩ := List.mem_flatMap.1 hx
    unfold thenN at hx
    split at hx
    · simp at hx
    · simp at hx; rw [hx]
  rcases tn_cases (thenR a b) s with ⟨x, hx, h0, h1⟩ | ⟨hno, h1⟩
  · rw [h1, el x hx, h0]
  · rw [h1]
    by_cases hin : s ∈ (a.map (·.f0)) ++ ((b.filter (newIn a)).map (·.f0))
    · by_cases hc : tn b (tn a s) = s
      · exact hc.symm
      · exfalso
        refine hno ⟨s, tn b (tn a s)⟩ ?_ rfl
        unfold thenR
        refine List.mem_flatMap.2 ⟨s, hin, ?_⟩
        unfold thenN
        rw [if_neg (by simp only [beq_iff_eq]; exact fun e => hc ((bt_eqv _ _).1 e))]
        simp
    · have na : ∀ x ∈ a, x.f0 ≠ s := fun x hx e => hin (List.mem_append.2 (.inl (List.mem_map.2 ⟨x, hx, e⟩)))
      have nb : ∀ x ∈ b, x.f0 ≠ s := by
        intro x hx e
        refine hin (List.mem_append.2 (.inr (List.mem_map.2 ⟨x, List.mem_filter.2 ⟨hx, ?_⟩, e⟩)))
        unfold newIn
        have : a.any (fun u : TU => u.f0.toList == x.f0.toList) = false := by
          rw [List.any_eq_false]
          intro u hu
          simp only [beq_iff_eq]
          exact fun e2 => na u hu (((bt_eqv _ _).1 e2).trans e)
        rw [this]; rfl
      have ea : tn a s = s := by
        rcases tn_cases a s with ⟨x, hx, h0, _⟩ | ⟨_, h⟩
        · exact absurd h0 (na x hx)
        · exact h
      have eb : tn b s = s := by
        rcases tn_cases b s with ⟨x, hx, h0, _⟩ | ⟨_, h⟩
        · exact absurd h0 (nb x hx)
        · exact h
      rw [ea, eb]
theorem then_back (a : List TU) (h : OkT a) : thenT a (a.map sw) = ([], true) := by
  have hr : thenR a (a.map sw) = [] := by
    unfold thenR
    rw [List.flatMap_eq_nil_iff]
    intro s _
    unfold thenN
    rw [tn_back a h s, if_pos (by simp)]
  unfold thenT
  rw [(okT_iff a).2 h, (okT_iff _).2 (okT_sw a h), hr]
  rfl
theorem FnThenTurn : laws_FnThenTurn.Pure := by
  intro l hl hs hb
  obtain ⟨K, hK⟩ : ∃ K : Nat, K = 7000000000000 := ⟨_, rfl⟩
  refine ⟨K + 10, ?_⟩
  unfold laws_FnThenTurn.f
  by_cases h : (l.length : Int) > 1048576
  · rw [if_pos h]
  rw [if_neg h]
  have draw : ∃ a b : List TU, spec_DrawThenTurn.f (K + 10) l = some (a, b) ∧ a.length ≤ 4 ∧ b.length ≤ 4 ∧ (∀ x ∈ a, x.f0.size ≤ 7 ∧ x.f1.size ≤ 7) ∧ (∀ x ∈ b, x.f0.size ≤ 7 ∧ x.f1.size ≤ 7) := by
    unfold spec_DrawThenTurn.f
    obtain ⟨m, e, hm⟩ := p_newReader l hb
    rw [e, Option.bind_some]
    dsimp only
    obtain ⟨a, p1, e, h1, h2, h3, h4⟩ := p_someTurns hm (K + 10) (by omega) (p := 0) (by omega) (by omega)
    have h4' : ∀ x ∈ a, x.f0.size ≤ 2000000 := fun x hx => Nat.le_trans (h4 x hx).1 (by omega)
    rw [e, Option.bind_some]
    dsimp only
    obtain ⟨v, e, _, _⟩ := p_pick hm (K + 10) (by omega) (p := p1) (by omega) (by omega) (n := 4) (by omega)
    rw [e, Option.bind_some]
    dsimp only
    have rest : ∀ q : Bool, (q = true → pxTurns a = true) → ∃ b : List TU, spec_DrawThenTurn.j0 (K + 10) a q m (p1 + 1) = some (a, b) ∧ b.length ≤ 4 ∧ (∀ x ∈ b, x.f0.size ≤ 7 ∧ x.f1.size ≤ 7) := by
      intro q hq
      simp only [spec_DrawThenTurn.j0]
      cases q with
      | true =>
        rw [if_pos rfl, p_specTurnBack a (by omega) h4' (K + 9) (by omega), Option.bind_some, if_pos (hq rfl)]
        refine ⟨_, rfl, by rw [List.length_map]; exact h3, fun x hx => ?_⟩
        obtain ⟨y, hy, rfl⟩ := List.mem_map.1 hx
        exact ⟨(h4 y hy).2, (h4 y hy).1⟩
      | false =>
        rw [if_neg (by decide)]
        obtain ⟨b, p2, e, _, _, g3, g4⟩ := p_someTurns hm (K + 9) (by omega) (p := p1 + 1) (by omega) (by omega)
        rw [e, Option.bind_some]
        exact ⟨b, rfl, g3, g4⟩
    split
    · rw [p_specTurns a (by omega) h4' (K + 10) (by omega), Option.bind_some]
      obtain ⟨b, e, g3, g4⟩ := rest (pxTurns a) (fun h => h)
      exact ⟨a, b, e, h3, g3, h4, g4⟩
    · obtain ⟨b, e, g3, g4⟩ := rest false (fun h => by cases h)
      exact ⟨a, b, e, h3, g3, h4, g4⟩
  obtain ⟨a, b, ed, la, lb, sa, sb⟩ := draw
  have sa' : ∀ x ∈ a, x.f0.size ≤ 2000000 := fun x hx => Nat.le_trans (sa x hx).1 (by omega)
  have sb' : ∀ x ∈ b, x.f0.size ≤ 2000000 := fun x hx => Nat.le_trans (sb x hx).1 (by omega)
  rw [ed, Option.bind_some]
  dsimp only
  have hT := thenT_len a b
  rw [p_implThen a b (by omega) (by omega) sa' sb' (K + 10) (by omega), Option.bind_some, p_specThen a b (by omega) (by omega) sa' sb' (K + 10) (by omega), Option.bind_some, p_eqTurns_self _ (by omega) (K + 10) (by omega), Option.bind_some, if_pos rfl, if_neg (by simp)]
  simp only [laws_FnThenTurn.j0]
  have hbad : thenT a b = ([], false) ∨ (OkT a ∧ OkT b ∧ pxTurns (thenR a b) = true ∧ thenT a b = (thenR a b, true)) := by
    unfold thenT
    cases ha : pxTurns a with
    | false => exact .inl rfl
    | true =>
      cases hb : pxTurns b with
      | false => exact .inl rfl
      | true =>
        cases hr : pxTurns (thenR a b) with
        | false => exact .inl (by simp)
        | true => exact .inr ⟨(okT_iff a).1 ha, (okT_iff b).1 hb, rfl, by simp⟩
  rcases hbad with e | ⟨oa, ob, vr, e⟩
  · rw [e]
    dsimp only
    rw [if_pos (show (!false) = true from rfl), p_eqTurns_self _ (by simp) (K + 9) (by omega)]
    rfl
  · rw [e] at hT ⊢
    dsimp only at hT ⊢
    have va := (okT_iff a).2 oa
    have vb := (okT_iff b).2 ob
    have hrs : ∀ x ∈ thenR a b, x.f0.size ≤ 2000000 := by
      intro x hx
      unfold thenR at hx
      obtain ⟨q, hq, hx⟩ := List.mem_flatMap.1 hx
      have ex : x.f0 = q := by
        unfold thenN at hx
        split at hx
        · simp at hx
        · simp at hx; rw [hx]
      rw [ex]
      rcases List.mem_append.1 hq with hq | hq
      · obtain ⟨y, hy, rfl⟩ := List.mem_map.1 hq; exact sa' y hy
      · obtain ⟨y, hy, rfl⟩ := List.mem_map.1 hq; exact sb' y (List.mem_filter.1 hy).1
    have ssw : ∀ x ∈ a.map sw, x.f0.size ≤ 2000000 := by
      intro x hx
      obtain ⟨y, hy, rfl⟩ := List.mem_map.1 hx
      have := (sa y hy).2
      show y.f1.size ≤ 2000000
      omega
    rw [if_neg (by decide), Option.bind_some, p_implTurnBack a (by omega) sa' (K + 9) (by omega), if_pos va, Option.bind_some, p_implThen a (a.map sw) (by omega) (by rw [List.length_map]; omega) sa' ssw (K + 9) (by omega), then_back a oa, Option.bind_some]
    generalize hfl : ([(⟨(⟨#[97]⟩ : ByteArray), 1⟩ : PR), (⟨(⟨#[98]⟩ : ByteArray), 2⟩ : PR), (⟨(⟨#[99]⟩ : ByteArray), 3⟩ : PR), (⟨(⟨#[120]⟩ : ByteArray), 4⟩ : PR), (⟨(⟨#[100]⟩ : ByteArray), 5⟩ : PR), (⟨(⟨#[113]⟩ : ByteArray), 6⟩ : PR)] : List PR) = fl
    have vf : vflat [] fl = true := by
      rw [← hfl]
      unfold vflat freshAt
      simp only [bt_eq]
      first | decide | rfl | kernel_rfl | (simp [pairOk, pxName, val, List.range, List.range.loop]; done)
    have fs : ∀ x ∈ fl, x.f0.size ≤ 7 := by
      intro x hx
      rw [← hfl] at hx
      simp only [List.mem_cons, List.not_mem_nil, or_false] at hx
      rcases hx with rfl | rfl | rfl | rfl | rfl | rfl <;> decide
    have flen : fl.length = 6 := by rw [← hfl]; rfl
    have fS : SmallF fl := fun x hx => Nat.le_trans (fs x hx) (by omega)
    have gs : ∀ x ∈ fl.map (tnP a), x.f0.size ≤ 7 := by
      intro x hx
      obtain ⟨y, hy, rfl⟩ := List.mem_map.1 hx
      exact tn_size a (fun x hx => (sa x hx).2) (fs y hy)
    have gS : SmallF (fl.map (tnP a)) := fun x hx => Nat.le_trans (gs x hx) (by omega)
    have vg : vflat [] (fl.map (tnP a)) = true := (okF_iff _ _).2 (okF_turn a oa [] fl ((okF_iff _ _).1 vf))
    have t1 : turnFlat (thenR a b) [] fl = ([], fl.map (tnP (thenR a b))) := by unfold turnFlat; rw [vr, vf]; rfl
    have t2 : turnFlat a [] fl = ([], fl.map (tnP a)) := by unfold turnFlat; rw [va, vf]; rfl
    have t3 : turnFlat b [] (fl.map (tnP a)) = ([], (fl.map (tnP a)).map (tnP b)) := by unfold turnFlat; rw [vb, vg]; rfl
    have same : (fl.map (tnP a)).map (tnP b) = fl.map (tnP (thenR a b)) := by
      rw [List.map_map]
      congr 1
      funext x
      show (⟨tn b (tn a x.f0), x.f1⟩ : PR) = ⟨tn (thenR a b) x.f0, x.f1⟩
      rw [tn_then]
    rw [p_implTurnFlat (thenR a b) [] fl (by omega) hrs (by simp) (by omega) fS (K + 9) (by omega), Option.bind_some, p_implTurnFlat a [] fl (by omega) sa' (by simp) (by omega) fS (K + 9) (by omega), Option.bind_some, t1, t2]
    dsimp only
    rw [p_implTurnFlat b [] (fl.map (tnP a)) (by omega) sb' (by simp) (by rw [List.length_map]; omega) gS (K + 9) (by omega), Option.bind_some, t3, same]
    dsimp only
    rw [p_eqFlat_self _ _ (by simp) (by rw [List.length_map]; omega) (K + 9) (by omega), Option.bind_some, if_pos rfl, if_pos rfl]
    rfl
end Go.Proofs.Ytfcpbgedgedalaa.Pure
