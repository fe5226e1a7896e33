import Derived.Test.YtjcaiekalobmfaaLMore
import Derived.Test.YtjcaiekalobmfaaPBase
import Derived.Test.YtjcaiekalobmfaaPNames
import Derived.Test.YtjcaiekalobmfaaPText
import Derived.Test.YtjcaiekalobmfaaQ20
import Derived.Test.YtjcaiekalobmfaaQ21
import Derived.Test.YtjcaiekalobmfaaQ4
import Derived.Test.YtjcaiekalobmfaaQ5
import Derived.Test.YtjcaiekalobmfaaQ8
namespace Go.Proofs.Ytjcaiekalobmfaa.Pure
open Go.RowKit Go.Proofs.Ytjcaiekalobmfaa.Q Go.Proofs.YtjcaiekalobmfaaL.PrintWords Go.Proofs.YtjcaiekalobmfaaL.PrintLast Go.Proofs.YtjcaiekalobmfaaL.PrintMore
set_option linter.unusedVariables false
set_option linter.unusedSimpArgs false
theorem draw_problem (l : List Int) (hb : ∀ x ∈ l, (Lit.int .u8 x).wf = true) (k : Nat) (hk : 1 ≤ k) : ∃ kind s, spec_DrawProblemText.f k l = some (kind, s) ∧ kind ∈ ([0, 1, 2, 3, 1, 2, 3, 4, (-1)] : List Int) ∧ s.size ≤ 7 := by
  unfold spec_DrawProblemText.f
  obtain ⟨m, e, hm⟩ := p_newReader l hb
  rw [e, Option.bind_some]
  dsimp only
  obtain ⟨v, e, hv⟩ := p_one hm k hk (p := 0) (by omega) (by omega) ([0, 1, 2, 3, 1, 2, 3, 4, (-1)]) (by decide)
  rw [e, Option.bind_some]
  dsimp only
  split
  · obtain ⟨u, e, _, _⟩ := p_pick hm k hk (p := 0 + 1) (by omega) (by omega) (n := 4) (by omega)
    rw [e, Option.bind_some]
    dsimp only
    split
    · obtain ⟨s, e, hs⟩ := p_anyName hm k hk (p := 0 + 1 + 1) (by omega) (by omega)
      rw [e, Option.bind_some]
      exact ⟨_, _, rfl, hv, hs⟩
    · exact ⟨_, _, rfl, hv, by decide⟩
  · obtain ⟨s, e, hs⟩ := p_anyName hm k hk (p := 0 + 1) (by omega) (by omega)
    rw [e, Option.bind_some]
    exact ⟨_, _, rfl, hv, hs⟩
theorem text_other (i j : Int) (s : ByteArray) (hij : i ≠ j) (hj : (txt j s).toList ≠ []) (hi : (txt i s).toList = (txt j s).toList) : False := by
  rw [← hi] at hj
  revert hj hi
  unfold txt
  repeat' split
  all_goals (intro h1 h2; first | omega | (simp [ByteArray.toList_eq] at h1 h2; done) | (revert h1; simp [ByteArray.toList_eq]; done) | (revert h2; simp [ByteArray.toList_eq]; done))
theorem text_form (j : Int) (s : ByteArray) (h : (txt j s).toList ≠ []) : ∃ p, txt j s = p ++ s := by
  unfold txt at h ⊢
  split at h
  · rename_i h0
    rw [if_pos h0]
    split at h
    · rename_i hs
      rw [if_pos hs]
      have : s = ⟨#[]⟩ := (bt_eqv s ⟨#[]⟩).1 (by rw [hs]; simp [ByteArray.toList_eq])
      subst this
      exact ⟨_, (ByteArray.append_empty (b := _)).symm⟩
    · exact absurd (by simp [ByteArray.toList_eq]) h
  · rename_i h0
    rw [if_neg h0]
    split at h
    · rename_i hs
      rw [if_pos hs]
      repeat' split
      all_goals first | exact ⟨_, rfl⟩ | (exfalso; apply h; simp_all [ByteArray.toList_eq])
    · exact absurd (by simp [ByteArray.toList_eq]) h
theorem tail_of (p s : ByteArray) : s.size ≤ (p ++ s).size ∧ ((p ++ s).extract ((p ++ s).size - s.size) (p ++ s).size).toList = s.toList := by
  rw [ByteArray.size_append]
  refine ⟨by omega, ?_⟩
  have : p.size + s.size - s.size = p.size := by omega
  rw [this, ByteArray.toList_eq, ByteArray.toList_eq, ByteArray.data_extract, ByteArray.data_append]
  have e1 : p.size = p.data.toList.length := by simp
  have e2 : s.size = s.data.toList.length := by simp
  rw [e1, e2, Array.toList_extract, Array.toList_append]
  simp [List.extract]
  rw [e2]
  exact List.take_length
theorem text_tail (j : Int) (s : ByteArray) (h : (txt j s).toList ≠ []) : s.size ≤ (txt j s).size ∧ ((txt j s).extract ((txt j s).size - s.size) (txt j s).size).toList = s.toList := by
  obtain ⟨p, e⟩ := text_form j s h
  rw [e]
  exact tail_of p s
theorem FnProblemText : laws_FnProblemText.Pure := by
  intro l hl hs hb
  obtain ⟨K, hK⟩ : ∃ K : Nat, K = 900 := ⟨_, rfl⟩
  refine ⟨K + 10, ?_⟩
  unfold laws_FnProblemText.f
  by_cases h : (l.length : Int) > 1048576
  · rw [if_pos h]
  rw [if_neg h]
  obtain ⟨j, s, e, hj, hsz⟩ := draw_problem l hb (K + 10) (by omega)
  rw [e, Option.bind_some]
  dsimp only
  rw [p_implText j s (by omega) (K + 10) (by omega), Option.bind_some, p_specText j s (by omega) (K + 10) (by omega), Option.bind_some, if_pos rfl]
  simp only [laws_FnProblemText.j0]
  by_cases h0 : (txt j s).toList = []
  · rw [if_pos (by simp [h0]), p_specText j s (by omega) (K + 9) (by omega), Option.bind_some]
    simp
  · rw [if_neg (by simpa using h0)]
    obtain ⟨t1, t2⟩ := text_tail j s h0
    have hts : (txt j s).size ≤ 100 := txt_size j s (by omega)
    have w : wrap64 (((txt j s).size : Int) - (s.size : Int)) = (((txt j s).size - s.size : Nat) : Int) := by rw [wrap_in (by omega) (by omega)]; omega
    rw [w, if_neg (by omega), if_pos (by omega), if_pos (by omega), Int.toNat_natCast, t2]
    simp only [laws_FnProblemText.j1, bne_self_eq_false, Bool.false_eq_true, if_false]
    have step : ∀ k i, 10 ≤ k → (0:Int) ≤ i → i ≤ 3 → laws_FnProblemText.l0 (k + 1) (txt j s) i j s = laws_FnProblemText.l0 k (txt j s) (i + 1) j s := by
      intro k i hk h1 h2
      simp only [laws_FnProblemText.l0]
      rw [if_pos h2, wrap_in (n := i + 1) (by omega) (by omega)]
      by_cases hij : i = j
      · rw [if_pos hij]
      · rw [if_neg hij, p_implText i s (by omega) k (by omega), Option.bind_some, if_neg (fun hi => text_other i j s hij h0 hi)]
    rw [step (K + 7) 0 (by omega) (by omega) (by omega), step (K + 6) (0+1) (by omega) (by omega) (by omega), step (K + 5) (0+1+1) (by omega) (by omega) (by omega), step (K + 4) (0+1+1+1) (by omega) (by omega) (by omega)]
    simp only [laws_FnProblemText.l0]
    rw [if_neg (by omega)]
end Go.Proofs.Ytjcaiekalobmfaa.Pure
