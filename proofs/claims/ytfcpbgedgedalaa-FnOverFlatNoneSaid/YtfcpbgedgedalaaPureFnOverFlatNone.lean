-- written by px.py and merge.py (programs of this claim's), over the kit's print. Not trusted: Lean checks it.
import Derived.Test.YtfcpbgedgedalaaVFnOverFlatNone
import Derived.Test.YtfcpbgedgedalaaN0FnOverFlatNone
import Derived.Test.YtfcpbgedgedalaaM4FnOverFlatNone
import Derived.Test.YtfcpbgedgedalaaM6FnOverFlatNone
import Derived.Test.YtfcpbgedgedalaaM7FnOverFlatNone
import Derived.Test.YtfcpbgedgedalaaM8FnOverFlatNone
import Derived.Test.YtfcpbgedgedalaaM9FnOverFlatNone
namespace Go.Proofs.Ytfcpbgedgedalaa.Pure
open Go.RowKit Go.Proofs.Ytfcpbgedgedalaa.Q Go.Proofs.YtfcpbgedgedalaaL.PrintWords Go.Proofs.YtfcpbgedgedalaaL.PrintLast Go.Proofs.YtfcpbgedgedalaaL.PrintMore
set_option linter.unusedVariables false
set_option linter.unusedSimpArgs false
theorem FnOverFlatNone : laws_FnOverFlatNone.Pure := by
  intro l hl hs hb
  obtain ⟨K, hK⟩ : ∃ K : Nat, K = 30000000 := ⟨_, rfl⟩
  refine ⟨K + 10, ?_⟩
  unfold laws_FnOverFlatNone.f
  by_cases h : (l.length : Int) > 1048576
  · rw [if_pos h]
  rw [if_neg h]
  obtain ⟨p1, n1, p2, n2, e, g1, g2, g3, g4, g5, g6⟩ := p_drawOver l hb (K + 10) (by omega)
  rw [e, Option.bind_some]
  dsimp only
  have s1 : SmallF n1 := fun x hx => Nat.le_trans (g5 x hx) (by omega)
  have s2 : SmallF n2 := fun x hx => Nat.le_trans (g6 x hx) (by omega)
  obtain ⟨o1, o2⟩ := overF_len p1 n1 p2 n2
  rw [p_implOver p1 n1 p2 n2 (by omega) (by omega) (by omega) (by omega) s1 s2 (K + 10) (by omega), Option.bind_some, p_specOver p1 n1 p2 n2 (by omega) (by omega) (by omega) (by omega) s1 s2 (K + 10) (by omega), Option.bind_some, p_eqFlat_self _ _ (by omega) (by omega) (K + 10) (by omega), Option.bind_some, if_pos rfl, if_neg (by simp)]
  simp only [laws_FnOverFlatNone.j0]
  cases ho : (overF p1 n1 p2 n2).2.2 with
  | false =>
    rw [if_pos (by rfl), p_eqFlat_self _ _ (by omega) (by omega) (K + 9) (by omega)]
    simp
  | true =>
    rw [if_neg (by simp)]
    obtain ⟨v1, v2, v3, e3⟩ := overF_true ho
    have k1 := (okF_iff _ _).1 v1
    have k2 := (okF_iff _ _).1 v2
    have k3 := (okF_iff _ _).1 v3
    rw [e3] at o1 o2 ⊢
    dsimp only at o1 o2 ⊢
    have sT : SmallF ([(⟨(⟨#[97]⟩ : ByteArray), 4⟩ : PR), (⟨(⟨#[122, 122]⟩ : ByteArray), 6⟩ : PR)] : List PR) := by
      intro x hx
      simp only [List.mem_cons, List.not_mem_nil, or_false] at hx
      rcases hx with rfl | rfl <;> decide
    have lT : ([(⟨(⟨#[97]⟩ : ByteArray), 4⟩ : PR), (⟨(⟨#[122, 122]⟩ : ByteArray), 6⟩ : PR)] : List PR).length ≤ 2 := by simp
    have sN : SmallF ([] : List PR) := by intro x hx; cases hx
    have sO : SmallF (overN n1 n2) := overN_small n2 n1 s1 s2
    have v0 : vflat [] [] = true := by decide
    have ea : overF p1 n1 [] [] = (p1, n1, true) := by
      have e1 : overN n1 [] = n1 := rfl
      unfold overF
      rw [if_pos v1, if_pos v0, List.append_nil, e1, if_pos v1]
    have eb : overF [] [] p1 n1 = (p1, n1, true) := by
      have e1 : overN [] n1 = n1 := overN_app n1 [] (by rw [List.nil_append]; exact k1.names)
      unfold overF
      rw [if_pos v0, if_pos v1, List.nil_append, e1, if_pos v1]
    rw [p_implOver p1 n1 [] [] (by omega) (by omega) (by simp) (by simp) s1 sN (K + 9) (by omega), p_implOver [] [] p1 n1 (by simp) (by simp) (by omega) (by omega) sN s1 (K + 9) (by omega)]
    simp only [Option.bind_some, ea, eb, if_true]
    generalize hth : ([(⟨(⟨#[97]⟩ : ByteArray), 4⟩ : PR), (⟨(⟨#[122, 122]⟩ : ByteArray), 6⟩ : PR)] : List PR) = th at sT lT
    obtain ⟨x1, x2⟩ := overF_len (p1 ++ p2) (overN n1 n2) [] th
    obtain ⟨y1, y2⟩ := overF_len p2 n2 [] th
    have sM : SmallF (overF p2 n2 [] th).2.1 := overF_small s2 sT
    obtain ⟨z1, z2⟩ := overF_len p1 n1 (overF p2 n2 [] th).1 (overF p2 n2 [] th).2.1
    rw [p_implOver (p1 ++ p2) (overN n1 n2) [] th (by omega) (by omega) (by simp) (by omega) sO sT (K + 9) (by omega), Option.bind_some, p_implOver p2 n2 [] th (by omega) (by omega) (by simp) (by omega) s2 sT (K + 9) (by omega), Option.bind_some, p_implOver p1 n1 _ _ (by omega) (by omega) (by omega) (by omega) s1 sM (K + 9) (by omega), Option.bind_some, p_eqFlat_self p1 n1 (by omega) (by omega) (K + 9) (by omega), Option.bind_some, if_pos rfl, Option.bind_some, if_pos rfl]
    cases hr : (overF (p1 ++ p2) (overN n1 n2) [] th).2.2 with
    | false => rfl
    | true =>
      rw [if_pos rfl]
      cases ht : (overF p2 n2 [] th).2.2 with
      | false => rfl
      | true =>
        rw [if_pos rfl]
        obtain ⟨_, _, a3, a4⟩ := overF_true hr
        obtain ⟨_, _, b3, b4⟩ := overF_true ht
        have hso := over_assoc th n2 n1 k2.names
        have eu : overF p1 n1 (overF p2 n2 [] th).1 (overF p2 n2 [] th).2.1 = ((p1 ++ p2) ++ [], overN (overN n1 n2) th, true) := by
          rw [b4]
          unfold overF
          dsimp only
          rw [if_pos v1, if_pos b3, hso, ← List.append_assoc, if_pos a3]
        have l1 : (p1 ++ p2 ++ ([] : List Int)).length ≤ 2000000 := by rw [List.append_nil]; omega
        have l2 : (overN (overN n1 n2) th).length ≤ 2000000 := by
          have := overN_len th (overN n1 n2)
          omega
        rw [eu, a4]
        dsimp only
        rw [if_pos rfl, p_eqFlat_self _ _ l1 l2 (K + 9) (by omega)]
        rfl
end Go.Proofs.Ytfcpbgedgedalaa.Pure
