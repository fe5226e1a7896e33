-- written by px.py (a program of this claim's), over the kit's print. Not trusted: Lean checks it.
import Derived.Test.YtfcpbgedgedalaaQ0
import Derived.Test.YtfcpbgedgedalaaQ29
import Derived.Test.YtfcpbgedgedalaaQ30
namespace Go.Proofs.Ytfcpbgedgedalaa.Q
open Go.RowKit Go.Proofs.YtfcpbgedgedalaaL.PrintWords Go.Proofs.YtfcpbgedgedalaaL.PrintLast Go.Proofs.YtfcpbgedgedalaaL.PrintMore
attribute [local go_sem] max2_int min2_int max_two min_two max_three min_three max_four min_four   -- for this text's walks alone
set_option linter.unusedVariables false
set_option linter.unusedSimpArgs false

/-! ### spec_validPairs: function 108 -/
def spec_validPairs.l0 : Nat → List (S33) → Int → Option (Bool)
 | 0, _, _ => none
 | k + 1, x0, x3 => if x3 < (x0.length : Int) then (if 0 ≤ x3 then ((spec_validName.f k ((rd_T33 x0 x3).f0)).bind fun t353 => (if t353 = true then ((spec_validNumber.f ((rd_T33 x0 x3).f1)).bind fun t355 => (if t355 = true then (spec_validPairs.l0 k x0 (wrap64 (x3 + 1))) else (some false))) else (some false))) else (none)) else (some true)
def spec_validPairs.f (k : Nat) (l0 : List (S33)) : Option (Bool) := spec_validPairs.l0 k l0 0
theorem spec_validPairs.mono_l : ∀ k, (∀ y0 y1, LeO (spec_validPairs.l0 k y0 y1) (spec_validPairs.l0 (k + 1) y0 y1))
 | 0 => fun _ _ r h => by simp [spec_validPairs.l0] at h
 | k + 1 => by
  have ih0 := spec_validPairs.mono_l k
  ·intro y0 y1
   unfold spec_validPairs.l0
   repeat' first
   | (with_reducible exact ih0 _ _)
   | (with_reducible exact spec_validName.mono _ _)
   | (with_reducible exact LeO.refl _)
   | (with_reducible exact LeO.none _)
   | (with_reducible refine LeO.ite ?_ ?_)
   | (with_reducible refine LeO.bind ?_ (fun _ => ?_))
   | exact ih0 _ _
   | exact spec_validName.mono _ _
   | exact LeO.none _
   | refine LeO.ite ?_ ?_
   | refine LeO.bind ?_ (fun _ => ?_)
theorem spec_validPairs.mono : ∀ a0 k, LeO (spec_validPairs.f k a0) (spec_validPairs.f (k + 1) a0) := by
 intro a0 k
 have ih0 := spec_validPairs.mono_l k
 unfold spec_validPairs.f
 repeat' first
   | (with_reducible exact ih0 _ _)
   | (with_reducible exact spec_validName.mono _ _)
   | (with_reducible exact LeO.refl _)
   | (with_reducible exact LeO.none _)
   | (with_reducible refine LeO.ite ?_ ?_)
   | (with_reducible refine LeO.bind ?_ (fun _ => ?_))
   | exact ih0 _ _
   | exact spec_validName.mono _ _
   | exact LeO.none _
   | refine LeO.ite ?_ ?_
   | refine LeO.bind ?_ (fun _ => ?_)
set_option maxHeartbeats 8000000 in
set_option maxRecDepth 100000 in
theorem spec_validPairs.calls (k : Nat) (A0 : Option Addr) (c0 : Nat) (l0 : List (S33)) (r : Bool) (w : World) (hr0 : Kd.C k33 w A0 l0.length l0) (hc0 : l0.length ≤ c0) (h : spec_validPairs.f k l0 = some r) :
  Calls Try.prog 108 #[.slice A0 l0.length c0] w fun e w' => e = .returned (.bool r) ∧ Drawn0 w w' := by
 have HR0 := Aside0.mk hr0
 have HC0 := Aside0.mk hc0
 clear hr0 hc0
 have H : (spec_validPairs.l0 k l0 0) = some r := h
 clear h
 have H' := Aside0.mk H
 clear H
 go_enter Try.func108, Try.ntmps108
 go_wp2
 go_loopg [3] k (fun kq v3 w' => ∃ (x3_1 : Int), v3 = .int .i64 x3_1 ∧ Aside0 (spec_validPairs.l0 kq l0 x3_1 = some r) ∧ Aside0 (kq ≤ k) ∧ Drawn0 w w')
 case atStart => exact ⟨(0), zr, H', ⟨Nat.le_refl _⟩, by repeat (first | exact Drawn0.refl _ | apply Drawn0.step)⟩
 case round =>
  clear H'
  try clear c1
  obtain ⟨x3_1, rfl, HA, HK1, ⟨m1, rfl⟩⟩ := hrel
  cases gk with
  | zero => exact absurd HA.out (by simp [spec_validPairs.l0])
  | succ k1 =>
   have H := HA.out
   clear HA
   simp only [spec_validPairs.l0] at H
   by_cases c2 : x3_1 < (l0.length : Int)
   ·rw [if_pos c2] at H
    have c2b0 : decide (x3_1 < (l0.length : Int)) = true := decide_eq_true c2
    clear c2
    by_cases c3 : 0 ≤ x3_1
    ·rw [if_pos c3] at H
     have c3b0 : decide (0 ≤ x3_1) = true := decide_eq_true c3
     clear c3
     replace H := Option.bind_eq_some_iff.mp H
     obtain ⟨t353, A40, H⟩ := H
     replace H : (if t353 = true then ((spec_validNumber.f ((rd_T33 l0 x3_1).f1)).bind fun t355 => (if t355 = true then (spec_validPairs.l0 k1 l0 (wrap64 (x3_1 + 1))) else (some false))) else (some false)) = some r := H
     have A4 := Aside0.mk A40
     clear A40
     by_cases c5 : t353 = true
     ·subst c5
      have H1 : ((spec_validNumber.f ((rd_T33 l0 x3_1).f1)).bind fun t355 => (if t355 = true then (spec_validPairs.l0 k1 l0 (wrap64 (x3_1 + 1))) else (some false))) = some r := by rw [if_pos rfl] at H; exact H
      clear H
      have H := H1
      clear H1
      replace H := Option.bind_eq_some_iff.mp H
      obtain ⟨t355, A60, H⟩ := H
      replace H : (if t355 = true then (spec_validPairs.l0 k1 l0 (wrap64 (x3_1 + 1))) else (some false)) = some r := H
      have A6 := Aside0.mk A60
      clear A60
      by_cases c7 : t355 = true
      ·subst c7
       have H1 : (spec_validPairs.l0 k1 l0 (wrap64 (x3_1 + 1))) = some r := by rw [if_pos rfl] at H; exact H
       clear H
       have H := H1
       clear H1
       have H' := Aside0.mk H
       clear H
       have p352 : 0 ≤ (x3_1 : Int) := of_decide_eq_true za
       have q352 : x3_1 < (l0.length : Int) := of_decide_eq_true za
       obtain ⟨ad352, e352, hx352_0, hx352_1⟩ := at_T33 HR0.out x3_1 p352 q352
       cases e352
       replace p352 := eq_true p352
       replace q352 := eq_true q352
       go_wp2_with (first | ((with_reducible refine gate_callee (f := 129) rfl ?_); refine goesL_ (some 15) rfl rfl Try.func129 (by kernel_rfl) rfl #[.string ((rd_T33 l0 x3_1).f0)] rfl zl ?_; (with_reducible refine (spec_validName.calls k1 ((rd_T33 l0 x3_1).f0) true _ A4.out).mono ?_); rintro e w' ⟨rfl, ⟨nd, rfl⟩⟩; refine ⟨_, rfl, ?_⟩; have p354 : 0 ≤ (x3_1 : Int) := of_decide_eq_true za; have q354 : x3_1 < (l0.length : Int) := of_decide_eq_true za; obtain ⟨ad354, e354, hx354_0, hx354_1⟩ := at_T33 HR0.out x3_1 p354 q354; obtain rfl : ad352 = ad354 := (by injection e354); replace p354 := eq_true p354; replace q354 := eq_true q354) | (go_at_call 127; (with_reducible refine (spec_validNumber.calls ((rd_T33 l0 x3_1).f1) true _ A6.out).mono ?_); rintro e w' ⟨rfl, ⟨nd, rfl⟩⟩))
       go_roundg k1
       case measure => have := HK1.out; omega
       case rel => exact ⟨(wrap64 (x3_1 + 1)), zr, H', ⟨by have := HK1.out; omega⟩, by repeat (first | exact Drawn0.refl _ | apply Drawn0.step)⟩
      ·replace c7 := Bool.eq_false_iff.mpr c7
       subst c7
       have H1 : (some false) = some r := by rw [if_neg (show ¬ (false = true) by decide)] at H; exact H
       clear H
       have H := H1
       clear H1
       obtain rfl := Option.some.inj H
       have p352 : 0 ≤ (x3_1 : Int) := of_decide_eq_true za
       have q352 : x3_1 < (l0.length : Int) := of_decide_eq_true za
       obtain ⟨ad352, e352, hx352_0, hx352_1⟩ := at_T33 HR0.out x3_1 p352 q352
       cases e352
       replace p352 := eq_true p352
       replace q352 := eq_true q352
       go_wp2_with (first | ((with_reducible refine gate_callee (f := 129) rfl ?_); refine goesL_ (some 15) rfl rfl Try.func129 (by kernel_rfl) rfl #[.string ((rd_T33 l0 x3_1).f0)] rfl zl ?_; (with_reducible refine (spec_validName.calls k1 ((rd_T33 l0 x3_1).f0) true _ A4.out).mono ?_); rintro e w' ⟨rfl, ⟨nd, rfl⟩⟩; refine ⟨_, rfl, ?_⟩; have p354 : 0 ≤ (x3_1 : Int) := of_decide_eq_true za; have q354 : x3_1 < (l0.length : Int) := of_decide_eq_true za; obtain ⟨ad354, e354, hx354_0, hx354_1⟩ := at_T33 HR0.out x3_1 p354 q354; obtain rfl : ad352 = ad354 := (by injection e354); replace p354 := eq_true p354; replace q354 := eq_true q354) | (go_at_call 127; (with_reducible refine (spec_validNumber.calls ((rd_T33 l0 x3_1).f1) false _ A6.out).mono ?_); rintro e w' ⟨rfl, ⟨nd, rfl⟩⟩))
       go_ret
       exact ⟨by first | rfl | (simp; done) | (simp [*]; done), by repeat (first | exact Drawn0.refl _ | apply Drawn0.step)⟩
     ·replace c5 := Bool.eq_false_iff.mpr c5
      subst c5
      have H1 : (some false) = some r := by rw [if_neg (show ¬ (false = true) by decide)] at H; exact H
      clear H
      have H := H1
      clear H1
      obtain rfl := Option.some.inj H
      have p352 : 0 ≤ (x3_1 : Int) := of_decide_eq_true za
      have q352 : x3_1 < (l0.length : Int) := of_decide_eq_true za
      obtain ⟨ad352, e352, hx352_0, hx352_1⟩ := at_T33 HR0.out x3_1 p352 q352
      cases e352
      replace p352 := eq_true p352
      replace q352 := eq_true q352
      go_wp2_with (first | ((with_reducible refine gate_callee (f := 129) rfl ?_); refine goesL_ (some 15) rfl rfl Try.func129 (by kernel_rfl) rfl #[.string ((rd_T33 l0 x3_1).f0)] rfl zl ?_; (with_reducible refine (spec_validName.calls k1 ((rd_T33 l0 x3_1).f0) false _ A4.out).mono ?_); rintro e w' ⟨rfl, ⟨nd, rfl⟩⟩; refine ⟨_, rfl, ?_⟩))
      go_ret
      exact ⟨by first | rfl | (simp; done) | (simp [*]; done), by repeat (first | exact Drawn0.refl _ | apply Drawn0.step)⟩
    ·rw [if_neg c3] at H
     exact absurd H (by simp)
   ·rw [if_neg c2] at H
    have c2b0 : decide (x3_1 < (l0.length : Int)) = false := decide_eq_false c2
    clear c2
    obtain rfl := Option.some.inj H
    go_wp2
    go_ret
    exact ⟨by first | rfl | (simp; done) | (simp [*]; done), by repeat (first | exact Drawn0.refl _ | apply Drawn0.step)⟩

end Go.Proofs.Ytfcpbgedgedalaa.Q
