-- written by px.py (a program of this claim's), over the kit's print. Not trusted: Lean checks it.
import Derived.Test.YtfcpbgedgedalaaQ0
import Derived.Test.YtfcpbgedgedalaaQ64
namespace Go.Proofs.Ytfcpbgedgedalaa.Q
open Go.RowKit Go.Proofs.YtfcpbgedgedalaaL.PrintWords Go.Proofs.YtfcpbgedgedalaaL.PrintLast Go.Proofs.YtfcpbgedgedalaaL.PrintMore
attribute [local go_sem] max2_int min2_int max_two min_two max_three min_three max_four min_four   -- for this text's walks alone
set_option linter.unusedVariables false
set_option linter.unusedSimpArgs false

/-! ### spec_hasText: function 79 -/
def spec_hasText.l0 : Nat → List ByteArray → ByteArray → Int → Option (Bool)
 | 0, _, _, _ => none
 | k + 1, x0, x1, x5 => if x5 < (x0.length : Int) then (if 0 ≤ x5 then (if (rdOf ByteArray.empty x0 x5).toList = x1.toList then (some true) else (spec_hasText.l0 k x0 x1 (wrap64 (x5 + 1)))) else (none)) else (some false)
def spec_hasText.f (k : Nat) (l0 : List ByteArray) (a1 : ByteArray) : Option (Bool) := spec_hasText.l0 k l0 a1 0
theorem spec_hasText.mono_l : ∀ k, (∀ y0 y1 y2, LeO (spec_hasText.l0 k y0 y1 y2) (spec_hasText.l0 (k + 1) y0 y1 y2))
 | 0 => fun _ _ _ r h => by simp [spec_hasText.l0] at h
 | k + 1 => by
  have ih0 := spec_hasText.mono_l k
  ·intro y0 y1 y2
   unfold spec_hasText.l0
   repeat' first
   | (with_reducible exact ih0 _ _ _)
   | (with_reducible exact LeO.refl _)
   | (with_reducible exact LeO.none _)
   | (with_reducible refine LeO.ite ?_ ?_)
   | (with_reducible refine LeO.bind ?_ (fun _ => ?_))
   | exact ih0 _ _ _
   | exact LeO.none _
   | refine LeO.ite ?_ ?_
   | refine LeO.bind ?_ (fun _ => ?_)
theorem spec_hasText.mono : ∀ a0 a1 k, LeO (spec_hasText.f k a0 a1) (spec_hasText.f (k + 1) a0 a1) := by
 intro a0 a1 k
 have ih0 := spec_hasText.mono_l k
 unfold spec_hasText.f
 repeat' first
   | (with_reducible exact ih0 _ _ _)
   | (with_reducible exact LeO.refl _)
   | (with_reducible exact LeO.none _)
   | (with_reducible refine LeO.ite ?_ ?_)
   | (with_reducible refine LeO.bind ?_ (fun _ => ?_))
   | exact ih0 _ _ _
   | exact LeO.none _
   | refine LeO.ite ?_ ?_
   | refine LeO.bind ?_ (fun _ => ?_)
set_option maxHeartbeats 8000000 in
set_option maxRecDepth 100000 in
theorem spec_hasText.calls (k : Nat) (A0 : Option Addr) (c0 : Nat) (l0 : List ByteArray) (a1 : ByteArray) (r : Bool) (w : World) (hr0 : Kd.C Kd.string w A0 l0.length l0) (hc0 : l0.length ≤ c0) (h : spec_hasText.f k l0 a1 = some r) :
  Calls Try.prog 79 #[.slice A0 l0.length c0, .string a1] w fun e w' => e = .returned (.bool r) ∧ Drawn0 w w' := by
 have HR0 := Aside0.mk hr0
 have HC0 := Aside0.mk hc0
 clear hr0 hc0
 have H : (spec_hasText.l0 k l0 a1 0) = some r := h
 clear h
 have H' := Aside0.mk H
 clear H
 go_enter Try.func79, Try.ntmps79
 go_wp2
 go_loopg [5] k (fun kq v5 w' => ∃ (x5_1 : Int), v5 = .int .i64 x5_1 ∧ Aside0 (spec_hasText.l0 kq l0 a1 x5_1 = some r) ∧ Aside0 (kq ≤ k) ∧ Drawn0 w w')
 case atStart => exact ⟨(0), zr, H', ⟨Nat.le_refl _⟩, by repeat (first | exact Drawn0.refl _ | apply Drawn0.step)⟩
 case round =>
  clear H'
  try clear p2
  obtain ⟨x5_1, rfl, HA, HK1, ⟨m1, rfl⟩⟩ := hrel
  cases gk with
  | zero => exact absurd HA.out (by simp [spec_hasText.l0])
  | succ k1 =>
   have H := HA.out
   clear HA
   simp only [spec_hasText.l0] at H
   by_cases c3 : x5_1 < (l0.length : Int)
   ·rw [if_pos c3] at H
    have c3b0 : decide (x5_1 < (l0.length : Int)) = true := decide_eq_true c3
    clear c3
    by_cases c4 : 0 ≤ x5_1
    ·rw [if_pos c4] at H
     have c4b0 : decide (0 ≤ x5_1) = true := decide_eq_true c4
     clear c4
     by_cases c5 : (rdOf ByteArray.empty l0 x5_1).toList = a1.toList
     ·rw [if_pos c5] at H
      have c5b0 : ((rdOf ByteArray.empty l0 x5_1).toList == a1.toList) = true := beq_iff_eq.mpr c5
      have c5b1 : ((rdOf ByteArray.empty l0 x5_1).toList != a1.toList) = false := bne_eq_false_iff_eq.mpr c5
      clear c5
      obtain rfl := Option.some.inj H
      have p712 : 0 ≤ (x5_1 : Int) := of_decide_eq_true za
      have q712 : x5_1 < (l0.length : Int) := of_decide_eq_true za
      obtain ⟨ad712, e712, hx712_0⟩ := Kd.at_string HR0.out x5_1 p712 q712
      cases e712
      replace p712 := eq_true p712
      replace q712 := eq_true q712
      go_wp2
      go_ret
      exact ⟨by first | rfl | (simp; done) | (simp [*]; done), by repeat (first | exact Drawn0.refl _ | apply Drawn0.step)⟩
     ·rw [if_neg c5] at H
      have c5b0 : ((rdOf ByteArray.empty l0 x5_1).toList == a1.toList) = false := beq_eq_false_iff_ne.mpr c5
      have c5b1 : ((rdOf ByteArray.empty l0 x5_1).toList != a1.toList) = true := bne_iff_ne.mpr c5
      have H' := Aside0.mk H
      clear H
      have p712 : 0 ≤ (x5_1 : Int) := of_decide_eq_true za
      have q712 : x5_1 < (l0.length : Int) := of_decide_eq_true za
      obtain ⟨ad712, e712, hx712_0⟩ := Kd.at_string HR0.out x5_1 p712 q712
      cases e712
      replace p712 := eq_true p712
      replace q712 := eq_true q712
      go_wp2
      go_roundg k1
      case measure => have := HK1.out; omega
      case rel => exact ⟨(wrap64 (x5_1 + 1)), zr, H', ⟨by have := HK1.out; omega⟩, by repeat (first | exact Drawn0.refl _ | apply Drawn0.step)⟩
    ·rw [if_neg c4] at H
     exact absurd H (by simp)
   ·rw [if_neg c3] at H
    have c3b0 : decide (x5_1 < (l0.length : Int)) = false := decide_eq_false c3
    clear c3
    obtain rfl := Option.some.inj H
    go_wp2
    go_ret
    exact ⟨by first | rfl | (simp; done) | (simp [*]; done), by repeat (first | exact Drawn0.refl _ | apply Drawn0.step)⟩

/-! ### spec_turned: function 80 -/
def spec_turned.f (k : Nat) (l0 : List (S107)) (a1 : ByteArray) : Option (ByteArray) := (spec_turnAt.f k l0 a1).bind fun t713 => (if t713 ≥ 0 then (if 0 ≤ t713 then (if t713 < (l0.length : Int) then (some ((rd_T107 l0 t713).f1)) else (none)) else (none)) else (some a1))
theorem spec_turned.mono : ∀ a0 a1 k, LeO (spec_turned.f k a0 a1) (spec_turned.f (k + 1) a0 a1) := by
 intro a0 a1 k
 unfold spec_turned.f
 repeat' first
   | (with_reducible exact spec_turnAt.mono _ _ _)
   | (with_reducible exact LeO.refl _)
   | (with_reducible exact LeO.none _)
   | (with_reducible refine LeO.ite ?_ ?_)
   | (with_reducible refine LeO.bind ?_ (fun _ => ?_))
   | exact spec_turnAt.mono _ _ _
   | exact LeO.none _
   | refine LeO.ite ?_ ?_
   | refine LeO.bind ?_ (fun _ => ?_)
set_option maxHeartbeats 8000000 in
set_option maxRecDepth 100000 in
theorem spec_turned.calls (k : Nat) (A0 : Option Addr) (c0 : Nat) (l0 : List (S107)) (a1 : ByteArray) (r : ByteArray) (w : World) (hr0 : Kd.C k107 w A0 l0.length l0) (hc0 : l0.length ≤ c0) (h : spec_turned.f k l0 a1 = some r) :
  Calls Try.prog 80 #[.slice A0 l0.length c0, .string a1] w fun e w' => e = .returned (.string r) ∧ Drawn0 w w' := by
 have HR0 := Aside0.mk hr0
 have HC0 := Aside0.mk hc0
 clear hr0 hc0
 have H : ((spec_turnAt.f k l0 a1).bind fun t713 => (if t713 ≥ 0 then (if 0 ≤ t713 then (if t713 < (l0.length : Int) then (some ((rd_T107 l0 t713).f1)) else (none)) else (none)) else (some a1))) = some r := h
 clear h
 replace H := Option.bind_eq_some_iff.mp H
 obtain ⟨t713, A30, H⟩ := H
 replace H : (if t713 ≥ 0 then (if 0 ≤ t713 then (if t713 < (l0.length : Int) then (some ((rd_T107 l0 t713).f1)) else (none)) else (none)) else (some a1)) = some r := H
 have A3 := Aside0.mk A30
 clear A30
 by_cases c4 : t713 ≥ 0
 ·rw [if_pos c4] at H
  have c4b0 : decide (0 ≤ t713) = true := decide_eq_true c4
  clear c4
  by_cases c5 : 0 ≤ t713
  ·rw [if_pos c5] at H
   have c5b0 : decide (0 ≤ t713) = true := decide_eq_true c5
   clear c5
   by_cases c6 : t713 < (l0.length : Int)
   ·rw [if_pos c6] at H
    have c6b0 : decide (t713 < (l0.length : Int)) = true := decide_eq_true c6
    clear c6
    obtain rfl := Option.some.inj H
    go_enter Try.func80, Try.ntmps80
    go_wp2_with (first | ((with_reducible refine gate_callee (f := 130) rfl ?_); refine goesL_ (some 8) rfl rfl Try.func130 (by kernel_rfl) rfl #[.slice A0 l0.length c0, .string a1] rfl zl ?_; (with_reducible refine (spec_turnAt.calls k _ _ l0 a1 t713 _ ?side1 ?side2 A3.out).mono ?_); (case side1 => repeat (first | exact HR0.out | (with_reducible refine Kd.C_alloc ?_ _) | (with_reducible refine Kd.C_drewN ?_ _) | (with_reducible refine Kd.C_drew ?_))); (case side2 => exact HC0.out); rintro e w' ⟨rfl, ⟨nd, rfl⟩⟩; refine ⟨_, rfl, ?_⟩; have p714 : 0 ≤ (t713 : Int) := of_decide_eq_true za; have q714 : t713 < (l0.length : Int) := of_decide_eq_true za; obtain ⟨ad714, e714, hx714_0, hx714_1⟩ := at_T107 HR0.out t713 p714 q714; cases e714; replace p714 := eq_true p714; replace q714 := eq_true q714))
    go_ret
    exact ⟨by first | rfl | (simp; done) | (simp [*]; done), by repeat (first | exact Drawn0.refl _ | apply Drawn0.step)⟩
   ·rw [if_neg c6] at H
    exact absurd H (by simp)
  ·rw [if_neg c5] at H
   exact absurd H (by simp)
 ·rw [if_neg c4] at H
  have c4b0 : decide (0 ≤ t713) = false := decide_eq_false c4
  clear c4
  obtain rfl := Option.some.inj H
  go_enter Try.func80, Try.ntmps80
  go_wp2_with (first | ((with_reducible refine gate_callee (f := 130) rfl ?_); refine goesL_ (some 8) rfl rfl Try.func130 (by kernel_rfl) rfl #[.slice A0 l0.length c0, .string a1] rfl zl ?_; (with_reducible refine (spec_turnAt.calls k _ _ l0 a1 t713 _ ?side1 ?side2 A3.out).mono ?_); (case side1 => repeat (first | exact HR0.out | (with_reducible refine Kd.C_alloc ?_ _) | (with_reducible refine Kd.C_drewN ?_ _) | (with_reducible refine Kd.C_drew ?_))); (case side2 => exact HC0.out); rintro e w' ⟨rfl, ⟨nd, rfl⟩⟩; refine ⟨_, rfl, ?_⟩))
  go_ret
  exact ⟨by first | rfl | (simp; done) | (simp [*]; done), by repeat (first | exact Drawn0.refl _ | apply Drawn0.step)⟩

end Go.Proofs.Ytfcpbgedgedalaa.Q
