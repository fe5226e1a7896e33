-- written by px.py and merge.py (programs of this claim's), over the kit's print. Not trusted: Lean checks it.
import Derived.Test.YtkandhljbbolnaaLMore
import Derived.Test.YtkandhljbbolnaaN0FnValidCall
import Derived.Test.YtkandhljbbolnaaM4FnValidCall
import Derived.Test.YtkandhljbbolnaaM5FnValidCall
namespace Go.Proofs.Ytkandhljbbolnaa.Pure
open Go.RowKit Go.Proofs.Ytkandhljbbolnaa.Q Go.Proofs.YtkandhljbbolnaaL.PrintWords Go.Proofs.YtkandhljbbolnaaL.PrintLast Go.Proofs.YtkandhljbbolnaaL.PrintMore
set_option linter.unusedVariables false
set_option linter.unusedSimpArgs false
theorem callAt_take (l : List AR) (n i : Nat) (hi : i < n) : callAt (l.take n) i = callAt l i := by
  have e : ∀ j, j < n → (l.take n).getD j az = l.getD j az := fun j hj => by
    rw [List.getD_eq_getElem?_getD, List.getD_eq_getElem?_getD, List.getElem?_take_of_lt hj]
  unfold callAt
  rw [e i hi, e (i - 1) (by omega)]
theorem vcall_take (l : List AR) (n : Nat) (h : vcall l = true) : vcall (l.take n) = true := by
  unfold vcall at h ⊢
  rw [Bool.and_eq_true, List.all_eq_true, decide_eq_true_eq] at h ⊢
  refine ⟨fun i hi => ?_, by rw [List.length_take]; omega⟩
  have hi := List.mem_range.1 hi
  rw [List.length_take] at hi
  rw [callAt_take l n i (by omega)]
  exact h.1 i (List.mem_range.2 (by omega))
theorem vcall_drop (l : List AR) (h : vcall l = true) : vcall (l.drop 1) = true := by
  unfold vcall at h ⊢
  rw [Bool.and_eq_true, List.all_eq_true, decide_eq_true_eq] at h ⊢
  refine ⟨fun i hi => ?_, by rw [List.length_drop]; omega⟩
  have hi := List.mem_range.1 hi
  rw [List.length_drop] at hi
  have e : ∀ j, (l.drop 1).getD j az = l.getD (j + 1) az := fun j => by
    rw [List.getD_eq_getElem?_getD, List.getD_eq_getElem?_getD, List.getElem?_drop, Nat.add_comm]
  have h1 := h.1 (i + 1) (List.mem_range.2 (by omega))
  unfold callAt at h1 ⊢
  rw [Bool.and_eq_true] at h1 ⊢
  refine ⟨by rw [e]; exact h1.1, ?_⟩
  by_cases h0 : i = 0
  · simp [h0]
  · have h2 := h1.2
    rw [show i + 1 - 1 = (i - 1) + 1 by omega] at h2
    rw [e, e, show (i == 0) = (i + 1 == 0) by simp [h0]]
    exact h2
theorem FnValidCall : laws_FnValidCall.Pure := by
  intro l hl hs hb
  obtain ⟨K, hK⟩ : ∃ K : Nat, K = 30000000 := ⟨_, rfl⟩
  refine ⟨K + 10, ?_⟩
  unfold laws_FnValidCall.f
  by_cases h : (l.length : Int) > 1048576
  · rw [if_pos h]
  rw [if_neg h]
  unfold spec_DrawValidCall.f
  obtain ⟨m, e, hm⟩ := p_newReader l hb
  rw [e, Option.bind_some]
  dsimp only
  obtain ⟨xs, p', e, g1, g2⟩ := p_someCall hm (K + 10) (by omega) (p := 0) (by omega) (by omega)
  rw [e]
  simp only [Option.bind_some]
  unfold spec_ValidCall.f
  rw [p_implCall xs (by omega) g2 (K + 10) (by omega), Option.bind_some, p_specCall xs (by omega) g2 (K + 10) (by omega)]
  simp only [Option.bind_some, bne_self_eq_false]
  rw [if_neg (by decide)]
  simp only [laws_FnValidCall.j0]
  unfold spec_ValidCall.f
  cases hv : vcall xs with
  | false =>
    rw [if_pos (by rfl), p_specCall xs (by omega) g2 (K + 9) (by omega), hv]
    rfl
  | true =>
    rw [if_neg (by simp)]
    by_cases c : (xs.length : Int) = 0
    · rw [if_pos c]
    rw [if_neg c]
    have w : wrap64 ((xs.length : Int) - 1) = ((xs.length - 1 : Nat) : Int) := by rw [wrap_in (by omega) (by omega)]; omega
    rw [w, if_pos (by omega), if_pos (by omega), Int.toNat_natCast, p_implCall _ (by rw [List.length_take]; omega) (fun x hx => g2 x (List.mem_of_mem_take hx)) (K + 9) (by omega), Option.bind_some, vcall_take xs _ hv, if_pos rfl, if_pos (by omega), p_implCall _ (by rw [List.length_drop]; omega) (fun x hx => g2 x (List.mem_of_mem_drop hx)) (K + 9) (by omega), vcall_drop xs hv]
    rfl
end Go.Proofs.Ytkandhljbbolnaa.Pure
