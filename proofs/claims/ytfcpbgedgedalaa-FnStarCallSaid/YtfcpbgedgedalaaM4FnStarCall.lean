-- written by px.py and merge.py (programs of this claim's), over the kit's print. Not trusted: Lean checks it.
import Derived.Test.YtfcpbgedgedalaaQ0
import Derived.Test.YtfcpbgedgedalaaM0FnStarCall
namespace Go.Proofs.Ytfcpbgedgedalaa.Q
open Go.RowKit Go.Proofs.YtfcpbgedgedalaaL.PrintWords Go.Proofs.YtfcpbgedgedalaaL.PrintLast Go.Proofs.YtfcpbgedgedalaaL.PrintMore
attribute [local go_sem] max2_int min2_int max_two min_two max_three min_three max_four min_four   -- for this text's walks alone
set_option linter.unusedVariables false
set_option linter.unusedSimpArgs false

/-! ### spec_inRange: function 144 -/
def spec_inRange.f (a0 : Int) (a1 : Int) (a2 : Int) : Option (Bool) := if a1 ≤ a0 then (some (decide (a0 ≤ a2))) else (some false)
set_option maxHeartbeats 8000000 in
set_option maxRecDepth 100000 in
theorem spec_inRange.calls (a0 : Int) (a1 : Int) (a2 : Int) (r : Bool) (w : World) (h : spec_inRange.f a0 a1 a2 = some r) :
  Calls Try.prog 144 #[.int .i64 a0, .int .i64 a1, .int .i64 a2] w fun e w' => e = .returned (.bool r) ∧ Drawn0 w w' := by
 have H : (if a1 ≤ a0 then (some (decide (a0 ≤ a2))) else (some false)) = some r := h; clear h
 by_cases c4 : a1 ≤ a0
 ·rw [if_pos c4] at H; have c4b0 : decide (a1 ≤ a0) = true := decide_eq_true c4; clear c4; obtain rfl := Option.some.inj H; go_enter Try.func144, Try.ntmps144; go_wp2; go_ret; exact ⟨by first | rfl | (simp; done) | (simp [*]; done), by repeat (first | exact Drawn0.refl _ | apply Drawn0.step)⟩
 ·rw [if_neg c4] at H; have c4b0 : decide (a1 ≤ a0) = false := decide_eq_false c4; clear c4; obtain rfl := Option.some.inj H; go_enter Try.func144, Try.ntmps144; go_wp2; go_ret; exact ⟨by first | rfl | (simp; done) | (simp [*]; done), by repeat (first | exact Drawn0.refl _ | apply Drawn0.step)⟩

/-! ### spec_validNumber: function 127 -/
def spec_validNumber.f (a0 : Int) : Option (Bool) := (spec_inRange.f a0 (-99) 99).bind fun t348 => (some t348)
set_option maxHeartbeats 8000000 in
set_option maxRecDepth 100000 in
theorem spec_validNumber.calls (a0 : Int) (r : Bool) (w : World) (h : spec_validNumber.f a0 = some r) :
  Calls Try.prog 127 #[.int .i64 a0] w fun e w' => e = .returned (.bool r) ∧ Drawn0 w w' := by
 have H : ((spec_inRange.f a0 (-99) 99).bind fun t348 => (some t348)) = some r := h; clear h; replace H := Option.bind_eq_some_iff.mp H; obtain ⟨t348, A20, H⟩ := H
 (try dsimp only at H)
 have A2 := Aside0.mk A20; clear A20; obtain rfl := Option.some.inj H; go_enter Try.func127, Try.ntmps127; go_wp2_with (first | ((with_reducible refine gate_callee (f := 144) rfl ?_); refine goesL_ (some 4) rfl rfl Try.func144 (by kernel_rfl) rfl #[.int .i64 a0, .int .i64 (-99), .int .i64 99] rfl zl ?_; (with_reducible refine (spec_inRange.calls a0 (-99) 99 t348 _ A2.out).mono ?_); rintro e w' ⟨rfl, ⟨nd, rfl⟩⟩; refine ⟨_, rfl, ?_⟩)); go_ret; exact ⟨by first | rfl | (simp; done) | (simp [*]; done), by repeat (first | exact Drawn0.refl _ | apply Drawn0.step)⟩

/-! ### spec_validNumbers: function 107 -/
def spec_validNumbers.l0 : Nat → List Int → Int → Option (Bool)
 | 0, _, _ => none
 | k + 1, x0, x3 => if x3 < (x0.length : Int) then (if 0 ≤ x3 then ((spec_validNumber.f (rd x0 x3)).bind fun t350 => (if t350 = true then (spec_validNumbers.l0 k x0 (wrap64 (x3 + 1))) else (some false))) else (none)) else (some true)
def spec_validNumbers.f (k : Nat) (l0 : List Int) : Option (Bool) := spec_validNumbers.l0 k l0 0
theorem spec_validNumbers.mono_l : ∀ k, (∀ y0 y1, LeO (spec_validNumbers.l0 k y0 y1) (spec_validNumbers.l0 (k + 1) y0 y1))
 | 0 => fun _ _ r h => by simp [spec_validNumbers.l0] at h
 | k + 1 => by
  have ih0 := spec_validNumbers.mono_l k
  ·intro y0 y1; unfold spec_validNumbers.l0
   repeat' first
   | (with_reducible exact ih0 _ _)
   | (with_reducible exact LeO.refl _)
   | (with_reducible exact LeO.none _)
   | (with_reducible refine LeO.ite ?_ ?_)
   | (with_reducible refine LeO.bind ?_ (fun _ => ?_))
   | exact ih0 _ _
   | exact LeO.none _
   | refine LeO.ite ?_ ?_
   | refine LeO.bind ?_ (fun _ => ?_)
theorem spec_validNumbers.mono : ∀ a0 k, LeO (spec_validNumbers.f k a0) (spec_validNumbers.f (k + 1) a0) := by
 intro a0 k; have ih0 := spec_validNumbers.mono_l k; unfold spec_validNumbers.f
 repeat' first
   | (with_reducible exact ih0 _ _)
   | (with_reducible exact LeO.refl _)
   | (with_reducible exact LeO.none _)
   | (with_reducible refine LeO.ite ?_ ?_)
   | (with_reducible refine LeO.bind ?_ (fun _ => ?_))
   | exact ih0 _ _
   | exact LeO.none _
   | refine LeO.ite ?_ ?_
   | refine LeO.bind ?_ (fun _ => ?_)
set_option maxHeartbeats 8000000 in
set_option maxRecDepth 100000 in
theorem spec_validNumbers.calls (k : Nat) (A0 : Option Addr) (c0 : Nat) (l0 : List Int) (r : Bool) (w : World) (hr0 : Kd.C (Kd.int .i64) w A0 l0.length l0) (hc0 : l0.length ≤ c0) (h : spec_validNumbers.f k l0 = some r) :
  Calls Try.prog 107 #[.slice A0 l0.length c0] w fun e w' => e = .returned (.bool r) ∧ Drawn0 w w' := by
 have HR0 := Aside0.mk hr0; have HC0 := Aside0.mk hc0; clear hr0 hc0; have H : (spec_validNumbers.l0 k l0 0) = some r := h; clear h; have H' := Aside0.mk H; clear H; go_enter Try.func107, Try.ntmps107; go_wp2; go_loopg [3] k (fun kq v3 w' => ∃ (x3_1 : Int), v3 = .int .i64 x3_1 ∧ Aside0 (spec_validNumbers.l0 kq l0 x3_1 = some r) ∧ Aside0 (kq ≤ k) ∧ Drawn0 w w')
 case atStart => exact ⟨(0), zr, H', ⟨Nat.le_refl _⟩, by repeat (first | exact Drawn0.refl _ | apply Drawn0.step)⟩
 case round =>
  clear H'; (try clear c1); obtain ⟨x3_1, rfl, HA, HK1, ⟨m1, rfl⟩⟩ := hrel
  cases gk with
  | zero => exact absurd HA.out (by simp [spec_validNumbers.l0])
  | succ k1 =>
   have H := HA.out; clear HA; simp only [spec_validNumbers.l0] at H
   by_cases c2 : x3_1 < (l0.length : Int)
   ·rw [if_pos c2] at H; have c2b0 : decide (x3_1 < (l0.length : Int)) = true := decide_eq_true c2; clear c2
    by_cases c3 : 0 ≤ x3_1
    ·rw [if_pos c3] at H; have c3b0 : decide (0 ≤ x3_1) = true := decide_eq_true c3; clear c3; replace H := Option.bind_eq_some_iff.mp H; obtain ⟨t350, A40, H⟩ := H
     (try dsimp only at H)
     have A4 := Aside0.mk A40; clear A40
     by_cases c5 : t350 = true
     ·subst c5; rw [if_pos rfl] at H; have H' := Aside0.mk H; clear H; have p349 : 0 ≤ (x3_1 : Int) := of_decide_eq_true za; have q349 : x3_1 < (l0.length : Int) := of_decide_eq_true za; obtain ⟨ad349, e349, hx349_0⟩ := Kd.at_int HR0.out x3_1 p349 q349
      cases e349
      replace p349 := eq_true p349; replace q349 := eq_true q349; go_wp2_with (first | ((with_reducible refine gate_callee (f := 127) rfl ?_); refine goesL_ (some 14) rfl rfl Try.func127 (by kernel_rfl) rfl #[.int .i64 (rd l0 x3_1)] rfl zl ?_; (with_reducible refine (spec_validNumber.calls (rd l0 x3_1) true _ A4.out).mono ?_); rintro e w' ⟨rfl, ⟨nd, rfl⟩⟩; refine ⟨_, rfl, ?_⟩)); go_roundg k1
      case measure => have := HK1.out; omega
      case rel => exact ⟨(wrap64 (x3_1 + 1)), zr, H', ⟨by have := HK1.out; omega⟩, by repeat (first | exact Drawn0.refl _ | apply Drawn0.step)⟩
     ·replace c5 := Bool.eq_false_iff.mpr c5; subst c5; rw [if_neg (show ¬ (false = true) by decide)] at H; obtain rfl := Option.some.inj H; have p349 : 0 ≤ (x3_1 : Int) := of_decide_eq_true za; have q349 : x3_1 < (l0.length : Int) := of_decide_eq_true za; obtain ⟨ad349, e349, hx349_0⟩ := Kd.at_int HR0.out x3_1 p349 q349
      cases e349
      replace p349 := eq_true p349; replace q349 := eq_true q349; go_wp2_with (first | ((with_reducible refine gate_callee (f := 127) rfl ?_); refine goesL_ (some 14) rfl rfl Try.func127 (by kernel_rfl) rfl #[.int .i64 (rd l0 x3_1)] rfl zl ?_; (with_reducible refine (spec_validNumber.calls (rd l0 x3_1) false _ A4.out).mono ?_); rintro e w' ⟨rfl, ⟨nd, rfl⟩⟩; refine ⟨_, rfl, ?_⟩)); go_ret; exact ⟨by first | rfl | (simp; done) | (simp [*]; done), by repeat (first | exact Drawn0.refl _ | apply Drawn0.step)⟩
    ·rw [if_neg c3] at H; exact absurd H (by simp)
   ·rw [if_neg c2] at H; have c2b0 : decide (x3_1 < (l0.length : Int)) = false := decide_eq_false c2; clear c2; obtain rfl := Option.some.inj H; go_wp2; go_ret; exact ⟨by first | rfl | (simp; done) | (simp [*]; done), by repeat (first | exact Drawn0.refl _ | apply Drawn0.step)⟩

end Go.Proofs.Ytfcpbgedgedalaa.Q

namespace Go.Proofs.Ytfcpbgedgedalaa.Q
open Go.RowKit Go.Proofs.YtfcpbgedgedalaaL.PrintWords Go.Proofs.YtfcpbgedgedalaaL.PrintLast Go.Proofs.YtfcpbgedgedalaaL.PrintMore
attribute [local go_sem] max2_int min2_int max_two min_two max_three min_three max_four min_four   -- for this text's walks alone
set_option linter.unusedVariables false
set_option linter.unusedSimpArgs false

/-! ### spec_validName: function 129 -/
def spec_validName.l0 : Nat → ByteArray → Int → Option (Bool)
 | 0, _, _ => none
 | k + 1, x0, x3 => if x3 < (x0.size : Int) then (if 0 ≤ x3 then (if (bt x0 x3) < 97 then (some false) else (if (bt x0 x3) > 122 then (some false) else (spec_validName.l0 k x0 (wrap64 (x3 + 1))))) else (none)) else ((spec_inRange.f (x0.size : Int) 1 6).bind fun t351 => (some t351))
def spec_validName.f (k : Nat) (a0 : ByteArray) : Option (Bool) := spec_validName.l0 k a0 0
theorem spec_validName.mono_l : ∀ k, (∀ y0 y1, LeO (spec_validName.l0 k y0 y1) (spec_validName.l0 (k + 1) y0 y1))
 | 0 => fun _ _ r h => by simp [spec_validName.l0] at h
 | k + 1 => by
  have ih0 := spec_validName.mono_l k
  ·intro y0 y1; unfold spec_validName.l0
   repeat' first
   | (with_reducible exact ih0 _ _)
   | (with_reducible exact LeO.refl _)
   | (with_reducible exact LeO.none _)
   | (with_reducible refine LeO.ite ?_ ?_)
   | (with_reducible refine LeO.bind ?_ (fun _ => ?_))
   | exact ih0 _ _
   | exact LeO.none _
   | refine LeO.ite ?_ ?_
   | refine LeO.bind ?_ (fun _ => ?_)
theorem spec_validName.mono : ∀ a0 k, LeO (spec_validName.f k a0) (spec_validName.f (k + 1) a0) := by
 intro a0 k; have ih0 := spec_validName.mono_l k; unfold spec_validName.f
 repeat' first
   | (with_reducible exact ih0 _ _)
   | (with_reducible exact LeO.refl _)
   | (with_reducible exact LeO.none _)
   | (with_reducible refine LeO.ite ?_ ?_)
   | (with_reducible refine LeO.bind ?_ (fun _ => ?_))
   | exact ih0 _ _
   | exact LeO.none _
   | refine LeO.ite ?_ ?_
   | refine LeO.bind ?_ (fun _ => ?_)
set_option maxHeartbeats 8000000 in
set_option maxRecDepth 100000 in
theorem spec_validName.calls (k : Nat) (a0 : ByteArray) (r : Bool) (w : World) (h : spec_validName.f k a0 = some r) :
  Calls Try.prog 129 #[.string a0] w fun e w' => e = .returned (.bool r) ∧ Drawn0 w w' := by
 have H : (spec_validName.l0 k a0 0) = some r := h; clear h; have H' := Aside0.mk H; clear H; go_enter Try.func129, Try.ntmps129; go_wp2; go_loopg [3] k (fun kq v3 w' => ∃ (x3_1 : Int), v3 = .int .i64 x3_1 ∧ Aside0 (spec_validName.l0 kq a0 x3_1 = some r) ∧ Aside0 (kq ≤ k) ∧ Drawn0 w w')
 case atStart => exact ⟨(0), zr, H', ⟨Nat.le_refl _⟩, by repeat (first | exact Drawn0.refl _ | apply Drawn0.step)⟩
 case round =>
  clear H'; (try clear c1); obtain ⟨x3_1, rfl, HA, HK1, ⟨m1, rfl⟩⟩ := hrel
  cases gk with
  | zero => exact absurd HA.out (by simp [spec_validName.l0])
  | succ k1 =>
   have H := HA.out; clear HA; simp only [spec_validName.l0] at H
   by_cases c2 : x3_1 < (a0.size : Int)
   ·rw [if_pos c2] at H; have c2b0 : decide (x3_1 < (a0.size : Int)) = true := decide_eq_true c2; clear c2
    by_cases c3 : 0 ≤ x3_1
    ·rw [if_pos c3] at H; have c3b0 : decide (0 ≤ x3_1) = true := decide_eq_true c3; clear c3
     by_cases c5 : (bt a0 x3_1) < 97
     ·rw [if_pos c5] at H; have c5b0 : decide ((bt a0 x3_1) < 97) = true := decide_eq_true c5; clear c5; obtain rfl := Option.some.inj H; have p4 : 0 ≤ (x3_1 : Int) := of_decide_eq_true za; have q4 : x3_1 < (a0.size : Int) := of_decide_eq_true za; have hx4 := bt_at a0 x3_1; replace p4 := eq_true p4; replace q4 := eq_true q4; go_wp2; go_ret; exact ⟨by first | rfl | (simp; done) | (simp [*]; done), by repeat (first | exact Drawn0.refl _ | apply Drawn0.step)⟩
     ·rw [if_neg c5] at H; have c5b0 : decide ((bt a0 x3_1) < 97) = false := decide_eq_false c5; clear c5
      by_cases c7 : (bt a0 x3_1) > 122
      ·rw [if_pos c7] at H; have c7b0 : decide (122 < (bt a0 x3_1)) = true := decide_eq_true c7; clear c7; obtain rfl := Option.some.inj H; have p4 : 0 ≤ (x3_1 : Int) := of_decide_eq_true za; have q4 : x3_1 < (a0.size : Int) := of_decide_eq_true za; have hx4 := bt_at a0 x3_1; replace p4 := eq_true p4; replace q4 := eq_true q4; have p6 : 0 ≤ (x3_1 : Int) := of_decide_eq_true za; have q6 : x3_1 < (a0.size : Int) := of_decide_eq_true za; have hx6 := bt_at a0 x3_1; replace p6 := eq_true p6; replace q6 := eq_true q6; go_wp2; go_ret; exact ⟨by first | rfl | (simp; done) | (simp [*]; done), by repeat (first | exact Drawn0.refl _ | apply Drawn0.step)⟩
      ·rw [if_neg c7] at H; have c7b0 : decide (122 < (bt a0 x3_1)) = false := decide_eq_false c7; clear c7; have H' := Aside0.mk H; clear H; have p4 : 0 ≤ (x3_1 : Int) := of_decide_eq_true za; have q4 : x3_1 < (a0.size : Int) := of_decide_eq_true za; have hx4 := bt_at a0 x3_1; replace p4 := eq_true p4; replace q4 := eq_true q4; have p6 : 0 ≤ (x3_1 : Int) := of_decide_eq_true za; have q6 : x3_1 < (a0.size : Int) := of_decide_eq_true za; have hx6 := bt_at a0 x3_1; replace p6 := eq_true p6; replace q6 := eq_true q6; go_wp2; go_roundg k1
       case measure => have := HK1.out; omega
       case rel => exact ⟨(wrap64 (x3_1 + 1)), zr, H', ⟨by have := HK1.out; omega⟩, by repeat (first | exact Drawn0.refl _ | apply Drawn0.step)⟩
    ·rw [if_neg c3] at H; exact absurd H (by simp)
   ·rw [if_neg c2] at H; have c2b0 : decide (x3_1 < (a0.size : Int)) = false := decide_eq_false c2; clear c2; replace H := Option.bind_eq_some_iff.mp H; obtain ⟨t351, A80, H⟩ := H
    (try dsimp only at H)
    have A8 := Aside0.mk A80; clear A80; obtain rfl := Option.some.inj H; go_wp2_with (first | ((with_reducible refine gate_callee (f := 144) rfl ?_); refine goesL_ (some 22) rfl rfl Try.func144 (by kernel_rfl) rfl #[.int .i64 (a0.size : Int), .int .i64 1, .int .i64 6] rfl zl ?_; (with_reducible refine (spec_inRange.calls (a0.size : Int) 1 6 t351 _ A8.out).mono ?_); rintro e w' ⟨rfl, ⟨nd, rfl⟩⟩; refine ⟨_, rfl, ?_⟩)); go_ret; exact ⟨by first | rfl | (simp; done) | (simp [*]; done), by repeat (first | exact Drawn0.refl _ | apply Drawn0.step)⟩

end Go.Proofs.Ytfcpbgedgedalaa.Q

namespace Go.Proofs.Ytfcpbgedgedalaa.Q
open Go.RowKit Go.Proofs.YtfcpbgedgedalaaL.PrintWords Go.Proofs.YtfcpbgedgedalaaL.PrintLast Go.Proofs.YtfcpbgedgedalaaL.PrintMore
attribute [local go_sem] max2_int min2_int max_two min_two max_three min_three max_four min_four   -- for this text's walks alone
set_option linter.unusedVariables false
set_option linter.unusedSimpArgs false

/-! ### spec_validPairs: function 108 -/
def spec_validPairs.l0 : Nat → List (S33) → Int → Option (Bool)
 | 0, _, _ => none
 | k + 1, x0, x3 => if x3 < (x0.length : Int) then (if 0 ≤ x3 then ((spec_validName.f k ((rd_T33 x0 x3).f0)).bind fun t353 => (if t353 = true then ((spec_validNumber.f ((rd_T33 x0 x3).f1)).bind fun t355 => (if t355 = true then (spec_validPairs.l0 k x0 (wrap64 (x3 + 1))) else (some false))) else (some false))) else (none)) else (some true)
def spec_validPairs.f (k : Nat) (l0 : List (S33)) : Option (Bool) := spec_validPairs.l0 k l0 0
theorem spec_validPairs.mono_l : ∀ k, (∀ y0 y1, LeO (spec_validPairs.l0 k y0 y1) (spec_validPairs.l0 (k + 1) y0 y1))
 | 0 => fun _ _ r h => by simp [spec_validPairs.l0] at h
 | k + 1 => by
  have ih0 := spec_validPairs.mono_l k
  ·intro y0 y1; unfold spec_validPairs.l0
   repeat' first
   | (with_reducible exact ih0 _ _)
   | (with_reducible exact spec_validName.mono _ _)
   | (with_reducible exact LeO.refl _)
   | (with_reducible exact LeO.none _)
   | (with_reducible refine LeO.ite ?_ ?_)
   | (with_reducible refine LeO.bind ?_ (fun _ => ?_))
   | exact ih0 _ _
   | exact spec_validName.mono _ _
   | exact LeO.none _
   | refine LeO.ite ?_ ?_
   | refine LeO.bind ?_ (fun _ => ?_)
theorem spec_validPairs.mono : ∀ a0 k, LeO (spec_validPairs.f k a0) (spec_validPairs.f (k + 1) a0) := by
 intro a0 k; have ih0 := spec_validPairs.mono_l k; unfold spec_validPairs.f
 repeat' first
   | (with_reducible exact ih0 _ _)
   | (with_reducible exact spec_validName.mono _ _)
   | (with_reducible exact LeO.refl _)
   | (with_reducible exact LeO.none _)
   | (with_reducible refine LeO.ite ?_ ?_)
   | (with_reducible refine LeO.bind ?_ (fun _ => ?_))
   | exact ih0 _ _
   | exact spec_validName.mono _ _
   | exact LeO.none _
   | refine LeO.ite ?_ ?_
   | refine LeO.bind ?_ (fun _ => ?_)
set_option maxHeartbeats 8000000 in
set_option maxRecDepth 100000 in
theorem spec_validPairs.calls (k : Nat) (A0 : Option Addr) (c0 : Nat) (l0 : List (S33)) (r : Bool) (w : World) (hr0 : Kd.C k33 w A0 l0.length l0) (hc0 : l0.length ≤ c0) (h : spec_validPairs.f k l0 = some r) :
  Calls Try.prog 108 #[.slice A0 l0.length c0] w fun e w' => e = .returned (.bool r) ∧ Drawn0 w w' := by
 have HR0 := Aside0.mk hr0; have HC0 := Aside0.mk hc0; clear hr0 hc0; have H : (spec_validPairs.l0 k l0 0) = some r := h; clear h; have H' := Aside0.mk H; clear H; go_enter Try.func108, Try.ntmps108; go_wp2; go_loopg [3] k (fun kq v3 w' => ∃ (x3_1 : Int), v3 = .int .i64 x3_1 ∧ Aside0 (spec_validPairs.l0 kq l0 x3_1 = some r) ∧ Aside0 (kq ≤ k) ∧ Drawn0 w w')
 case atStart => exact ⟨(0), zr, H', ⟨Nat.le_refl _⟩, by repeat (first | exact Drawn0.refl _ | apply Drawn0.step)⟩
 case round =>
  clear H'; (try clear c1); obtain ⟨x3_1, rfl, HA, HK1, ⟨m1, rfl⟩⟩ := hrel
  cases gk with
  | zero => exact absurd HA.out (by simp [spec_validPairs.l0])
  | succ k1 =>
   have H := HA.out; clear HA; simp only [spec_validPairs.l0] at H
   by_cases c2 : x3_1 < (l0.length : Int)
   ·rw [if_pos c2] at H; have c2b0 : decide (x3_1 < (l0.length : Int)) = true := decide_eq_true c2; clear c2
    by_cases c3 : 0 ≤ x3_1
    ·rw [if_pos c3] at H; have c3b0 : decide (0 ≤ x3_1) = true := decide_eq_true c3; clear c3; replace H := Option.bind_eq_some_iff.mp H; obtain ⟨t353, A40, H⟩ := H
     (try dsimp only at H)
     have A4 := Aside0.mk A40; clear A40
     by_cases c5 : t353 = true
     ·subst c5; rw [if_pos rfl] at H; replace H := Option.bind_eq_some_iff.mp H; obtain ⟨t355, A60, H⟩ := H
      (try dsimp only at H)
      have A6 := Aside0.mk A60; clear A60
      by_cases c7 : t355 = true
      ·subst c7; rw [if_pos rfl] at H; have H' := Aside0.mk H; clear H; have p352 : 0 ≤ (x3_1 : Int) := of_decide_eq_true za; have q352 : x3_1 < (l0.length : Int) := of_decide_eq_true za; obtain ⟨ad352, e352, hx352_0, hx352_1⟩ := at_T33 HR0.out x3_1 p352 q352
       cases e352
       replace p352 := eq_true p352; replace q352 := eq_true q352; go_wp2_with (first | ((with_reducible refine gate_callee (f := 129) rfl ?_); refine goesL_ (some 15) rfl rfl Try.func129 (by kernel_rfl) rfl #[.string ((rd_T33 l0 x3_1).f0)] rfl zl ?_; (with_reducible refine (spec_validName.calls k1 ((rd_T33 l0 x3_1).f0) true _ A4.out).mono ?_); rintro e w' ⟨rfl, ⟨nd, rfl⟩⟩; refine ⟨_, rfl, ?_⟩; have p354 : 0 ≤ (x3_1 : Int) := of_decide_eq_true za; have q354 : x3_1 < (l0.length : Int) := of_decide_eq_true za; obtain ⟨ad354, e354, hx354_0, hx354_1⟩ := at_T33 HR0.out x3_1 p354 q354; obtain rfl : ad352 = ad354 := (by injection e354); replace p354 := eq_true p354; replace q354 := eq_true q354) | (go_at_call 127; (with_reducible refine (spec_validNumber.calls ((rd_T33 l0 x3_1).f1) true _ A6.out).mono ?_); rintro e w' ⟨rfl, ⟨nd, rfl⟩⟩)); go_roundg k1
       case measure => have := HK1.out; omega
       case rel => exact ⟨(wrap64 (x3_1 + 1)), zr, H', ⟨by have := HK1.out; omega⟩, by repeat (first | exact Drawn0.refl _ | apply Drawn0.step)⟩
      ·replace c7 := Bool.eq_false_iff.mpr c7; subst c7; rw [if_neg (show ¬ (false = true) by decide)] at H; obtain rfl := Option.some.inj H; have p352 : 0 ≤ (x3_1 : Int) := of_decide_eq_true za; have q352 : x3_1 < (l0.length : Int) := of_decide_eq_true za; obtain ⟨ad352, e352, hx352_0, hx352_1⟩ := at_T33 HR0.out x3_1 p352 q352
       cases e352
       replace p352 := eq_true p352; replace q352 := eq_true q352; go_wp2_with (first | ((with_reducible refine gate_callee (f := 129) rfl ?_); refine goesL_ (some 15) rfl rfl Try.func129 (by kernel_rfl) rfl #[.string ((rd_T33 l0 x3_1).f0)] rfl zl ?_; (with_reducible refine (spec_validName.calls k1 ((rd_T33 l0 x3_1).f0) true _ A4.out).mono ?_); rintro e w' ⟨rfl, ⟨nd, rfl⟩⟩; refine ⟨_, rfl, ?_⟩; have p354 : 0 ≤ (x3_1 : Int) := of_decide_eq_true za; have q354 : x3_1 < (l0.length : Int) := of_decide_eq_true za; obtain ⟨ad354, e354, hx354_0, hx354_1⟩ := at_T33 HR0.out x3_1 p354 q354; obtain rfl : ad352 = ad354 := (by injection e354); replace p354 := eq_true p354; replace q354 := eq_true q354) | (go_at_call 127; (with_reducible refine (spec_validNumber.calls ((rd_T33 l0 x3_1).f1) false _ A6.out).mono ?_); rintro e w' ⟨rfl, ⟨nd, rfl⟩⟩)); go_ret; exact ⟨by first | rfl | (simp; done) | (simp [*]; done), by repeat (first | exact Drawn0.refl _ | apply Drawn0.step)⟩
     ·replace c5 := Bool.eq_false_iff.mpr c5; subst c5; rw [if_neg (show ¬ (false = true) by decide)] at H; obtain rfl := Option.some.inj H; have p352 : 0 ≤ (x3_1 : Int) := of_decide_eq_true za; have q352 : x3_1 < (l0.length : Int) := of_decide_eq_true za; obtain ⟨ad352, e352, hx352_0, hx352_1⟩ := at_T33 HR0.out x3_1 p352 q352
      cases e352
      replace p352 := eq_true p352; replace q352 := eq_true q352; go_wp2_with (first | ((with_reducible refine gate_callee (f := 129) rfl ?_); refine goesL_ (some 15) rfl rfl Try.func129 (by kernel_rfl) rfl #[.string ((rd_T33 l0 x3_1).f0)] rfl zl ?_; (with_reducible refine (spec_validName.calls k1 ((rd_T33 l0 x3_1).f0) false _ A4.out).mono ?_); rintro e w' ⟨rfl, ⟨nd, rfl⟩⟩; refine ⟨_, rfl, ?_⟩)); go_ret; exact ⟨by first | rfl | (simp; done) | (simp [*]; done), by repeat (first | exact Drawn0.refl _ | apply Drawn0.step)⟩
    ·rw [if_neg c3] at H; exact absurd H (by simp)
   ·rw [if_neg c2] at H; have c2b0 : decide (x3_1 < (l0.length : Int)) = false := decide_eq_false c2; clear c2; obtain rfl := Option.some.inj H; go_wp2; go_ret; exact ⟨by first | rfl | (simp; done) | (simp [*]; done), by repeat (first | exact Drawn0.refl _ | apply Drawn0.step)⟩

end Go.Proofs.Ytfcpbgedgedalaa.Q

namespace Go.Proofs.Ytfcpbgedgedalaa.Q
open Go.RowKit Go.Proofs.YtfcpbgedgedalaaL.PrintWords Go.Proofs.YtfcpbgedgedalaaL.PrintLast Go.Proofs.YtfcpbgedgedalaaL.PrintMore
attribute [local go_sem] max2_int min2_int max_two min_two max_three min_three max_four min_four   -- for this text's walks alone
set_option linter.unusedVariables false
set_option linter.unusedSimpArgs false

/-! ### spec_validFlat: function 57 -/
def spec_validFlat.l0 : Nat → Int → List Int → List (S33) → Option (Bool)
 | 0, _, _, _ => none
 | k + 1, x3, x357000, x357001 => if x3 < (x357001.length : Int) then (if 0 ≤ x3 then (if x3 ≤ (x357001.length : Int) then ((spec_pairAt.f k (x357001.take (x3 : Int).toNat) ((rd_T33 x357001 x3).f0)).bind fun t362 => (if t362 ≥ 0 then (some false) else (spec_validFlat.l0 k (wrap64 (x3 + 1)) x357000 x357001))) else (none)) else (none)) else ((spec_validNumbers.f k x357000).bind fun t363 => (if t363 = true then ((spec_validPairs.f k x357001).bind fun t364 => (if t364 = true then (if (x357000.length : Int) ≤ 8 then (some (decide ((x357001.length : Int) ≤ 8))) else (some false)) else (some false))) else (some false)))
def spec_validFlat.f (k : Nat) (l0_0 : List Int) (l0_1 : List (S33)) : Option (Bool) := spec_validFlat.l0 k 0 l0_0 l0_1
theorem spec_validFlat.mono_l : ∀ k, (∀ y0 y1 y2, LeO (spec_validFlat.l0 k y0 y1 y2) (spec_validFlat.l0 (k + 1) y0 y1 y2))
 | 0 => fun _ _ _ r h => by simp [spec_validFlat.l0] at h
 | k + 1 => by
  have ih0 := spec_validFlat.mono_l k
  ·intro y0 y1 y2; unfold spec_validFlat.l0
   repeat' first
   | (with_reducible exact ih0 _ _ _)
   | (with_reducible exact spec_pairAt.mono _ _ _)
   | (with_reducible exact spec_validNumbers.mono _ _)
   | (with_reducible exact spec_validPairs.mono _ _)
   | (with_reducible exact LeO.refl _)
   | (with_reducible exact LeO.none _)
   | (with_reducible refine LeO.ite ?_ ?_)
   | (with_reducible refine LeO.bind ?_ (fun _ => ?_))
   | exact ih0 _ _ _
   | exact spec_pairAt.mono _ _ _
   | exact spec_validNumbers.mono _ _
   | exact spec_validPairs.mono _ _
   | exact LeO.none _
   | refine LeO.ite ?_ ?_
   | refine LeO.bind ?_ (fun _ => ?_)
theorem spec_validFlat.mono : ∀ a0 a1 k, LeO (spec_validFlat.f k a0 a1) (spec_validFlat.f (k + 1) a0 a1) := by
 intro a0 a1 k; have ih0 := spec_validFlat.mono_l k; unfold spec_validFlat.f
 repeat' first
   | (with_reducible exact ih0 _ _ _)
   | (with_reducible exact spec_pairAt.mono _ _ _)
   | (with_reducible exact spec_validNumbers.mono _ _)
   | (with_reducible exact spec_validPairs.mono _ _)
   | (with_reducible exact LeO.refl _)
   | (with_reducible exact LeO.none _)
   | (with_reducible refine LeO.ite ?_ ?_)
   | (with_reducible refine LeO.bind ?_ (fun _ => ?_))
   | exact ih0 _ _ _
   | exact spec_pairAt.mono _ _ _
   | exact spec_validNumbers.mono _ _
   | exact spec_validPairs.mono _ _
   | exact LeO.none _
   | refine LeO.ite ?_ ?_
   | refine LeO.bind ?_ (fun _ => ?_)
set_option maxHeartbeats 8000000 in
set_option maxRecDepth 100000 in
theorem spec_validFlat.calls (k : Nat) (A0_0 : Option Addr) (c0_0 : Nat) (l0_0 : List Int) (A0_1 : Option Addr) (c0_1 : Nat) (l0_1 : List (S33)) (r : Bool) (w : World) (hr0_0 : Kd.C (Kd.int .i64) w A0_0 l0_0.length l0_0) (hc0_0 : l0_0.length ≤ c0_0) (hr0_1 : Kd.C k33 w A0_1 l0_1.length l0_1) (hc0_1 : l0_1.length ≤ c0_1) (h : spec_validFlat.f k l0_0 l0_1 = some r) :
  Calls Try.prog 57 #[.agg #[.slice A0_0 l0_0.length c0_0, .slice A0_1 l0_1.length c0_1]] w fun e w' => e = .returned (.bool r) ∧ Below w.heap.size w w' := by
 have hu26 := Try.underlying26; have HR0_0 := Aside0.mk hr0_0; have HC0_0 := Aside0.mk hc0_0; clear hr0_0 hc0_0; have HR0_1 := Aside0.mk hr0_1; have HC0_1 := Aside0.mk hc0_1; clear hr0_1 hc0_1; have HB := Aside0.mk (Below.refl w.heap.size w); have H : (spec_validFlat.l0 k 0 l0_0 l0_1) = some r := h; clear h; have H' := Aside0.mk H; clear H; go_enter Try.func57, Try.ntmps57; go_wp2_with (first | ((with_reducible refine gate_dst (N := 1) rfl ?_); refine zx (N := 1) (cs := #[.slice A0_0 l0_0.length c0_0, .slice A0_1 l0_1.length c0_1]) (t := 26) ?_; intro gb356 hg w2 hbox hb; have BK356 := Aside0.mk (hbox); have GW356 := Aside0.mk ((by rw [hg]; exact (below_size (zB HB)) : w.heap.size ≤ gb356)); have GE356 := GW356; replace HB := Aside0.mk (below_step (zB HB) hb); clear hb hbox hg))
 repeat (go_quiet (first | ((with_reducible refine gate_dst (N := 1) rfl ?_); refine zx (N := 1) (cs := #[.slice A0_0 l0_0.length c0_0, .slice A0_1 l0_1.length c0_1]) (t := 26) ?_; intro gb356 hg w2 hbox hb; have BK356 := Aside0.mk (hbox); have GW356 := Aside0.mk ((by rw [hg]; exact (below_size (zB HB)) : w.heap.size ≤ gb356)); have GE356 := GW356; replace HB := Aside0.mk (below_step (zB HB) hb); clear hb hbox hg)); try go_wp2_with (first | ((with_reducible refine gate_dst (N := 1) rfl ?_); refine zx (N := 1) (cs := #[.slice A0_0 l0_0.length c0_0, .slice A0_1 l0_1.length c0_1]) (t := 26) ?_; intro gb356 hg w2 hbox hb; have BK356 := Aside0.mk (hbox); have GW356 := Aside0.mk ((by rw [hg]; exact (below_size (zB HB)) : w.heap.size ≤ gb356)); have GE356 := GW356; replace HB := Aside0.mk (below_step (zB HB) hb); clear hb hbox hg)))
 go_loopg [3] k (fun kq v3 w' => ∃ (x3_1 : Int), v3 = .int .i64 x3_1 ∧ Aside0 (spec_validFlat.l0 kq x3_1 l0_0 l0_1 = some r) ∧ Aside0 (kq ≤ k) ∧ Aside0 (w'.heap[gb356]? = some (.cells #[(.slice A0_0 l0_0.length c0_0), (.slice A0_1 l0_1.length c0_1)] 26 (0, 0))) ∧ Aside0 (Below w.heap.size w w'))
 case atStart => exact ⟨(0), zr, H', ⟨Nat.le_refl _⟩, ⟨zb BK356⟩, ⟨zB HB⟩⟩
 case round =>
  clear H'; (try clear p2); obtain ⟨x3_1, rfl, HA, HK1, BK356, HB⟩ := hrel
  cases gk with
  | zero => exact absurd HA.out (by simp [spec_validFlat.l0])
  | succ k1 =>
   have H := HA.out; clear HA; simp only [spec_validFlat.l0] at H
   by_cases c3 : x3_1 < (l0_1.length : Int)
   ·rw [if_pos c3] at H; have c3b0 : decide (x3_1 < (l0_1.length : Int)) = true := decide_eq_true c3; clear c3
    by_cases c4 : 0 ≤ x3_1
    ·rw [if_pos c4] at H; have c4b0 := eq_true c4; have c4b1 : decide (0 ≤ x3_1) = true := decide_eq_true c4; clear c4
     by_cases c5 : x3_1 ≤ (l0_1.length : Int)
     ·rw [if_pos c5] at H; have c5b0 := eq_true c5; have c5b1 : decide (x3_1 ≤ (l0_1.length : Int)) = true := decide_eq_true c5; clear c5; obtain ⟨y357, hy357⟩ : ∃ y_ : List (S33), y_ = (l0_1.take (x3_1 : Int).toNat) := ⟨_, rfl⟩
      replace H : ((spec_pairAt.f k1 y357 ((rd_T33 l0_1 x3_1).f0)).bind fun t362 => (if t362 ≥ 0 then (some false) else (spec_validFlat.l0 k1 (wrap64 (x3_1 + 1)) l0_0 l0_1))) = some r := by first | (rw [hy357]; with_reducible exact H) | (have H2_ := (Option.bind_some _ _).symm.trans H; rw [hy357]; with_reducible exact H2_) | (have H2_ := (Option.bind_some _ _).symm.trans H; with_reducible exact H2_) | with_reducible exact H | (rw [hy357]; exact H) | exact H
      have Ny357 := Aside0.mk hy357; clear hy357; replace H := Option.bind_eq_some_iff.mp H; obtain ⟨t362, A60, H⟩ := H
      (try dsimp only at H)
      have A6 := Aside0.mk A60; clear A60
      by_cases c7 : t362 ≥ 0
      ·rw [if_pos c7] at H; have c7b0 : decide (0 ≤ t362) = true := decide_eq_true c7; clear c7; obtain rfl := Option.some.inj H; have hcz8_0 : wr.cell? ⟨gb356, 0, none⟩ = some (.slice A0_0 l0_0.length c0_0) := (blk_cell BK356.out 0).trans rfl; have hcz8_1 : wr.cell? ⟨gb356, 1, none⟩ = some (.slice A0_1 l0_1.length c0_1) := (blk_cell BK356.out 1).trans rfl; have hfz8_0 := blk_frozen BK356.out 0; have hfz8_1 := blk_frozen BK356.out 1; have q9 : (x3_1 : Int) ≤ ((l0_1.length : Int) : Int) := of_decide_eq_true za; obtain ⟨i09, hi09, _, hsz9, _⟩ := info_parts info33; have hroom9 : l0_1.length ≤ c0_1 := HC0_1.out; have hC9 : Kd.C k33 _ A0_1 l0_1.length l0_1 := HR0_1.out; have hcut9 := cut_to (P := Try.prog) 24 33 .i64 Try.underlying24 hi09 A0_1 l0_1.length c0_1 x3_1 (of_decide_eq_true za) q9 hroom9; have hr9 := Kd.C_take (m := (x3_1 : Int).toNat) hC9 (by omega); have hy9 : y357.length = (x3_1 : Int).toNat := (by rw [Ny357.out, List.length_take]; omega)
       rw [← Ny357.out] at hr9; rw [← hy9] at hcut9; have HR360 := Aside0.mk hr9; have HC360 := Aside0.mk (show y357.length ≤ c0_1 from by omega); clear hr9 hC9 hroom9 hi09 hsz9; have KY9 := Aside0.mk hy9; clear hy9; replace q9 := eq_true q9; have p361 : 0 ≤ (x3_1 : Int) := of_decide_eq_true za; have q361 : x3_1 < (l0_1.length : Int) := of_decide_eq_true za; obtain ⟨ad361, e361, hx361_0, hx361_1⟩ := at_T33 HR0_1.out x3_1 p361 q361
       cases e361
       replace hx361_0 := (HB.out.cell (World.block_lt_of_cell? w _ hx361_0)).trans hx361_0; replace hx361_1 := (HB.out.cell (World.block_lt_of_cell? w _ hx361_1)).trans hx361_1; replace p361 := eq_true p361; replace q361 := eq_true q361; go_wp2_with (first | (go_at_call 106; (with_reducible refine (spec_pairAt.calls k1 _ _ y357 ((rd_T33 l0_1 x3_1).f0) t362 _ ?side1 ?side2 A6.out).mono ?_); (case side1 => repeat (first | exact (Kd.C_below HR360.out HB.out) | (with_reducible refine Kd.C_alloc ?_ _) | (with_reducible refine Kd.C_drewN ?_ _) | (with_reducible refine Kd.C_drew ?_))); (case side2 => exact HC360.out); rintro e w' ⟨rfl, ⟨nd, rfl⟩⟩; (try first | exact ⟨rfl, _, World.drewN_drewN _ _ _⟩ | exact ⟨rfl, _, Eq.trans (World.drewN_drewN _ _ _) (congrArg (World.drewN _) (Nat.add_assoc _ _ _))⟩)))
       repeat (go_quiet (first | (go_at_call 106; (with_reducible refine (spec_pairAt.calls k1 _ _ y357 ((rd_T33 l0_1 x3_1).f0) t362 _ ?side1 ?side2 A6.out).mono ?_); (case side1 => repeat (first | exact (Kd.C_below HR360.out HB.out) | (with_reducible refine Kd.C_alloc ?_ _) | (with_reducible refine Kd.C_drewN ?_ _) | (with_reducible refine Kd.C_drew ?_))); (case side2 => exact HC360.out); rintro e w' ⟨rfl, ⟨nd, rfl⟩⟩; (try first | exact ⟨rfl, _, World.drewN_drewN _ _ _⟩ | exact ⟨rfl, _, Eq.trans (World.drewN_drewN _ _ _) (congrArg (World.drewN _) (Nat.add_assoc _ _ _))⟩))); try go_wp2_with (first | (go_at_call 106; (with_reducible refine (spec_pairAt.calls k1 _ _ y357 ((rd_T33 l0_1 x3_1).f0) t362 _ ?side1 ?side2 A6.out).mono ?_); (case side1 => repeat (first | exact (Kd.C_below HR360.out HB.out) | (with_reducible refine Kd.C_alloc ?_ _) | (with_reducible refine Kd.C_drewN ?_ _) | (with_reducible refine Kd.C_drew ?_))); (case side2 => exact HC360.out); rintro e w' ⟨rfl, ⟨nd, rfl⟩⟩; (try first | exact ⟨rfl, _, World.drewN_drewN _ _ _⟩ | exact ⟨rfl, _, Eq.trans (World.drewN_drewN _ _ _) (congrArg (World.drewN _) (Nat.add_assoc _ _ _))⟩))))
       go_ret; exact ⟨by first | rfl | (simp [errW_none, errW_some] <;> rfl) | (simp [*, errW_none, errW_some] <;> rfl), zB HB⟩
      ·rw [if_neg c7] at H; have c7b0 : decide (0 ≤ t362) = false := decide_eq_false c7; clear c7; have H' := Aside0.mk H; clear H; have hcz10_0 : wr.cell? ⟨gb356, 0, none⟩ = some (.slice A0_0 l0_0.length c0_0) := (blk_cell BK356.out 0).trans rfl; have hcz10_1 : wr.cell? ⟨gb356, 1, none⟩ = some (.slice A0_1 l0_1.length c0_1) := (blk_cell BK356.out 1).trans rfl; have hfz10_0 := blk_frozen BK356.out 0; have hfz10_1 := blk_frozen BK356.out 1; have q11 : (x3_1 : Int) ≤ ((l0_1.length : Int) : Int) := of_decide_eq_true za; obtain ⟨i011, hi011, _, hsz11, _⟩ := info_parts info33; have hroom11 : l0_1.length ≤ c0_1 := HC0_1.out; have hC11 : Kd.C k33 _ A0_1 l0_1.length l0_1 := HR0_1.out; have hcut11 := cut_to (P := Try.prog) 24 33 .i64 Try.underlying24 hi011 A0_1 l0_1.length c0_1 x3_1 (of_decide_eq_true za) q11 hroom11; have hr11 := Kd.C_take (m := (x3_1 : Int).toNat) hC11 (by omega); have hy11 : y357.length = (x3_1 : Int).toNat := (by rw [Ny357.out, List.length_take]; omega)
       rw [← Ny357.out] at hr11; rw [← hy11] at hcut11; have HR360 := Aside0.mk hr11; have HC360 := Aside0.mk (show y357.length ≤ c0_1 from by omega); clear hr11 hC11 hroom11 hi011 hsz11; have KY11 := Aside0.mk hy11; clear hy11; replace q11 := eq_true q11; have p361 : 0 ≤ (x3_1 : Int) := of_decide_eq_true za; have q361 : x3_1 < (l0_1.length : Int) := of_decide_eq_true za; obtain ⟨ad361, e361, hx361_0, hx361_1⟩ := at_T33 HR0_1.out x3_1 p361 q361
       cases e361
       replace hx361_0 := (HB.out.cell (World.block_lt_of_cell? w _ hx361_0)).trans hx361_0; replace hx361_1 := (HB.out.cell (World.block_lt_of_cell? w _ hx361_1)).trans hx361_1; replace p361 := eq_true p361; replace q361 := eq_true q361; go_wp2_with (first | (go_at_call 106; (with_reducible refine (spec_pairAt.calls k1 _ _ y357 ((rd_T33 l0_1 x3_1).f0) t362 _ ?side1 ?side2 A6.out).mono ?_); (case side1 => repeat (first | exact (Kd.C_below HR360.out HB.out) | (with_reducible refine Kd.C_alloc ?_ _) | (with_reducible refine Kd.C_drewN ?_ _) | (with_reducible refine Kd.C_drew ?_))); (case side2 => exact HC360.out); rintro e w' ⟨rfl, ⟨nd, rfl⟩⟩; (try first | exact ⟨rfl, _, World.drewN_drewN _ _ _⟩ | exact ⟨rfl, _, Eq.trans (World.drewN_drewN _ _ _) (congrArg (World.drewN _) (Nat.add_assoc _ _ _))⟩)))
       repeat (go_quiet (first | (go_at_call 106; (with_reducible refine (spec_pairAt.calls k1 _ _ y357 ((rd_T33 l0_1 x3_1).f0) t362 _ ?side1 ?side2 A6.out).mono ?_); (case side1 => repeat (first | exact (Kd.C_below HR360.out HB.out) | (with_reducible refine Kd.C_alloc ?_ _) | (with_reducible refine Kd.C_drewN ?_ _) | (with_reducible refine Kd.C_drew ?_))); (case side2 => exact HC360.out); rintro e w' ⟨rfl, ⟨nd, rfl⟩⟩; (try first | exact ⟨rfl, _, World.drewN_drewN _ _ _⟩ | exact ⟨rfl, _, Eq.trans (World.drewN_drewN _ _ _) (congrArg (World.drewN _) (Nat.add_assoc _ _ _))⟩))); try go_wp2_with (first | (go_at_call 106; (with_reducible refine (spec_pairAt.calls k1 _ _ y357 ((rd_T33 l0_1 x3_1).f0) t362 _ ?side1 ?side2 A6.out).mono ?_); (case side1 => repeat (first | exact (Kd.C_below HR360.out HB.out) | (with_reducible refine Kd.C_alloc ?_ _) | (with_reducible refine Kd.C_drewN ?_ _) | (with_reducible refine Kd.C_drew ?_))); (case side2 => exact HC360.out); rintro e w' ⟨rfl, ⟨nd, rfl⟩⟩; (try first | exact ⟨rfl, _, World.drewN_drewN _ _ _⟩ | exact ⟨rfl, _, Eq.trans (World.drewN_drewN _ _ _) (congrArg (World.drewN _) (Nat.add_assoc _ _ _))⟩))))
       go_roundg k1
       case measure => have := HK1.out; omega
       case rel => exact ⟨(wrap64 (x3_1 + 1)), zr, H', ⟨by have := HK1.out; omega⟩, ⟨zb BK356⟩, ⟨zB HB⟩⟩
     ·rw [if_neg c5] at H; exact absurd H (by simp)
    ·rw [if_neg c4] at H; exact absurd H (by simp)
   ·rw [if_neg c3] at H; have c3b0 : decide (x3_1 < (l0_1.length : Int)) = false := decide_eq_false c3; clear c3; replace H := Option.bind_eq_some_iff.mp H; obtain ⟨t363, A120, H⟩ := H
    (try dsimp only at H)
    have A12 := Aside0.mk A120; clear A120
    by_cases c13 : t363 = true
    ·subst c13; rw [if_pos rfl] at H; replace H := Option.bind_eq_some_iff.mp H; obtain ⟨t364, A140, H⟩ := H
     (try dsimp only at H)
     have A14 := Aside0.mk A140; clear A140
     by_cases c15 : t364 = true
     ·subst c15; rw [if_pos rfl] at H
      by_cases c16 : (l0_0.length : Int) ≤ 8
      ·rw [if_pos c16] at H; have c16b0 : decide ((l0_0.length : Int) ≤ 8) = true := decide_eq_true c16; have c16b1 : decide (l0_0.length ≤ 8) = true := decide_eq_true (by omega); clear c16; obtain rfl := Option.some.inj H; have hcz17_0 : wr.cell? ⟨gb356, 0, none⟩ = some (.slice A0_0 l0_0.length c0_0) := (blk_cell BK356.out 0).trans rfl; have hcz17_1 : wr.cell? ⟨gb356, 1, none⟩ = some (.slice A0_1 l0_1.length c0_1) := (blk_cell BK356.out 1).trans rfl; have hfz17_0 := blk_frozen BK356.out 0; have hfz17_1 := blk_frozen BK356.out 1; go_wp2_with (first | (go_at_call 107; (with_reducible refine (spec_validNumbers.calls k1 _ _ l0_0 true _ ?side1 ?side2 A12.out).mono ?_); (case side1 => repeat (first | exact (Kd.C_below HR0_0.out HB.out) | (with_reducible refine Kd.C_alloc ?_ _) | (with_reducible refine Kd.C_drewN ?_ _) | (with_reducible refine Kd.C_drew ?_))); (case side2 => exact HC0_0.out); rintro e w' ⟨rfl, ⟨nd, rfl⟩⟩; (try first | exact ⟨rfl, _, World.drewN_drewN _ _ _⟩ | exact ⟨rfl, _, Eq.trans (World.drewN_drewN _ _ _) (congrArg (World.drewN _) (Nat.add_assoc _ _ _))⟩)) | (go_at_call 108; (with_reducible refine (spec_validPairs.calls k1 _ _ l0_1 true _ ?side1 ?side2 A14.out).mono ?_); (case side1 => repeat (first | exact (Kd.C_below HR0_1.out (zB HB)) | (with_reducible refine Kd.C_alloc ?_ _) | (with_reducible refine Kd.C_drewN ?_ _) | (with_reducible refine Kd.C_drew ?_))); (case side2 => exact HC0_1.out); rintro e w' ⟨rfl, ⟨nd, rfl⟩⟩; (try first | exact ⟨rfl, _, World.drewN_drewN _ _ _⟩ | exact ⟨rfl, _, Eq.trans (World.drewN_drewN _ _ _) (congrArg (World.drewN _) (Nat.add_assoc _ _ _))⟩)))
       repeat (go_quiet (first | (go_at_call 107; (with_reducible refine (spec_validNumbers.calls k1 _ _ l0_0 true _ ?side1 ?side2 A12.out).mono ?_); (case side1 => repeat (first | exact (Kd.C_below HR0_0.out HB.out) | (with_reducible refine Kd.C_alloc ?_ _) | (with_reducible refine Kd.C_drewN ?_ _) | (with_reducible refine Kd.C_drew ?_))); (case side2 => exact HC0_0.out); rintro e w' ⟨rfl, ⟨nd, rfl⟩⟩; (try first | exact ⟨rfl, _, World.drewN_drewN _ _ _⟩ | exact ⟨rfl, _, Eq.trans (World.drewN_drewN _ _ _) (congrArg (World.drewN _) (Nat.add_assoc _ _ _))⟩)) | (go_at_call 108; (with_reducible refine (spec_validPairs.calls k1 _ _ l0_1 true _ ?side1 ?side2 A14.out).mono ?_); (case side1 => repeat (first | exact (Kd.C_below HR0_1.out (zB HB)) | (with_reducible refine Kd.C_alloc ?_ _) | (with_reducible refine Kd.C_drewN ?_ _) | (with_reducible refine Kd.C_drew ?_))); (case side2 => exact HC0_1.out); rintro e w' ⟨rfl, ⟨nd, rfl⟩⟩; (try first | exact ⟨rfl, _, World.drewN_drewN _ _ _⟩ | exact ⟨rfl, _, Eq.trans (World.drewN_drewN _ _ _) (congrArg (World.drewN _) (Nat.add_assoc _ _ _))⟩))); try go_wp2_with (first | (go_at_call 107; (with_reducible refine (spec_validNumbers.calls k1 _ _ l0_0 true _ ?side1 ?side2 A12.out).mono ?_); (case side1 => repeat (first | exact (Kd.C_below HR0_0.out HB.out) | (with_reducible refine Kd.C_alloc ?_ _) | (with_reducible refine Kd.C_drewN ?_ _) | (with_reducible refine Kd.C_drew ?_))); (case side2 => exact HC0_0.out); rintro e w' ⟨rfl, ⟨nd, rfl⟩⟩; (try first | exact ⟨rfl, _, World.drewN_drewN _ _ _⟩ | exact ⟨rfl, _, Eq.trans (World.drewN_drewN _ _ _) (congrArg (World.drewN _) (Nat.add_assoc _ _ _))⟩)) | (go_at_call 108; (with_reducible refine (spec_validPairs.calls k1 _ _ l0_1 true _ ?side1 ?side2 A14.out).mono ?_); (case side1 => repeat (first | exact (Kd.C_below HR0_1.out (zB HB)) | (with_reducible refine Kd.C_alloc ?_ _) | (with_reducible refine Kd.C_drewN ?_ _) | (with_reducible refine Kd.C_drew ?_))); (case side2 => exact HC0_1.out); rintro e w' ⟨rfl, ⟨nd, rfl⟩⟩; (try first | exact ⟨rfl, _, World.drewN_drewN _ _ _⟩ | exact ⟨rfl, _, Eq.trans (World.drewN_drewN _ _ _) (congrArg (World.drewN _) (Nat.add_assoc _ _ _))⟩))))
       go_ret; exact ⟨by first | rfl | (simp [errW_none, errW_some] <;> rfl) | (simp [*, errW_none, errW_some] <;> rfl), zB HB⟩
      ·rw [if_neg c16] at H; have c16b0 : decide ((l0_0.length : Int) ≤ 8) = false := decide_eq_false c16; have c16b1 : decide (l0_0.length ≤ 8) = false := decide_eq_false (by omega); clear c16; obtain rfl := Option.some.inj H; have hcz18_0 : wr.cell? ⟨gb356, 0, none⟩ = some (.slice A0_0 l0_0.length c0_0) := (blk_cell BK356.out 0).trans rfl; have hcz18_1 : wr.cell? ⟨gb356, 1, none⟩ = some (.slice A0_1 l0_1.length c0_1) := (blk_cell BK356.out 1).trans rfl; have hfz18_0 := blk_frozen BK356.out 0; have hfz18_1 := blk_frozen BK356.out 1; go_wp2_with (first | (go_at_call 107; (with_reducible refine (spec_validNumbers.calls k1 _ _ l0_0 true _ ?side1 ?side2 A12.out).mono ?_); (case side1 => repeat (first | exact (Kd.C_below HR0_0.out HB.out) | (with_reducible refine Kd.C_alloc ?_ _) | (with_reducible refine Kd.C_drewN ?_ _) | (with_reducible refine Kd.C_drew ?_))); (case side2 => exact HC0_0.out); rintro e w' ⟨rfl, ⟨nd, rfl⟩⟩; (try first | exact ⟨rfl, _, World.drewN_drewN _ _ _⟩ | exact ⟨rfl, _, Eq.trans (World.drewN_drewN _ _ _) (congrArg (World.drewN _) (Nat.add_assoc _ _ _))⟩)) | (go_at_call 108; (with_reducible refine (spec_validPairs.calls k1 _ _ l0_1 true _ ?side1 ?side2 A14.out).mono ?_); (case side1 => repeat (first | exact (Kd.C_below HR0_1.out (zB HB)) | (with_reducible refine Kd.C_alloc ?_ _) | (with_reducible refine Kd.C_drewN ?_ _) | (with_reducible refine Kd.C_drew ?_))); (case side2 => exact HC0_1.out); rintro e w' ⟨rfl, ⟨nd, rfl⟩⟩; (try first | exact ⟨rfl, _, World.drewN_drewN _ _ _⟩ | exact ⟨rfl, _, Eq.trans (World.drewN_drewN _ _ _) (congrArg (World.drewN _) (Nat.add_assoc _ _ _))⟩)))
       repeat (go_quiet (first | (go_at_call 107; (with_reducible refine (spec_validNumbers.calls k1 _ _ l0_0 true _ ?side1 ?side2 A12.out).mono ?_); (case side1 => repeat (first | exact (Kd.C_below HR0_0.out HB.out) | (with_reducible refine Kd.C_alloc ?_ _) | (with_reducible refine Kd.C_drewN ?_ _) | (with_reducible refine Kd.C_drew ?_))); (case side2 => exact HC0_0.out); rintro e w' ⟨rfl, ⟨nd, rfl⟩⟩; (try first | exact ⟨rfl, _, World.drewN_drewN _ _ _⟩ | exact ⟨rfl, _, Eq.trans (World.drewN_drewN _ _ _) (congrArg (World.drewN _) (Nat.add_assoc _ _ _))⟩)) | (go_at_call 108; (with_reducible refine (spec_validPairs.calls k1 _ _ l0_1 true _ ?side1 ?side2 A14.out).mono ?_); (case side1 => repeat (first | exact (Kd.C_below HR0_1.out (zB HB)) | (with_reducible refine Kd.C_alloc ?_ _) | (with_reducible refine Kd.C_drewN ?_ _) | (with_reducible refine Kd.C_drew ?_))); (case side2 => exact HC0_1.out); rintro e w' ⟨rfl, ⟨nd, rfl⟩⟩; (try first | exact ⟨rfl, _, World.drewN_drewN _ _ _⟩ | exact ⟨rfl, _, Eq.trans (World.drewN_drewN _ _ _) (congrArg (World.drewN _) (Nat.add_assoc _ _ _))⟩))); try go_wp2_with (first | (go_at_call 107; (with_reducible refine (spec_validNumbers.calls k1 _ _ l0_0 true _ ?side1 ?side2 A12.out).mono ?_); (case side1 => repeat (first | exact (Kd.C_below HR0_0.out HB.out) | (with_reducible refine Kd.C_alloc ?_ _) | (with_reducible refine Kd.C_drewN ?_ _) | (with_reducible refine Kd.C_drew ?_))); (case side2 => exact HC0_0.out); rintro e w' ⟨rfl, ⟨nd, rfl⟩⟩; (try first | exact ⟨rfl, _, World.drewN_drewN _ _ _⟩ | exact ⟨rfl, _, Eq.trans (World.drewN_drewN _ _ _) (congrArg (World.drewN _) (Nat.add_assoc _ _ _))⟩)) | (go_at_call 108; (with_reducible refine (spec_validPairs.calls k1 _ _ l0_1 true _ ?side1 ?side2 A14.out).mono ?_); (case side1 => repeat (first | exact (Kd.C_below HR0_1.out (zB HB)) | (with_reducible refine Kd.C_alloc ?_ _) | (with_reducible refine Kd.C_drewN ?_ _) | (with_reducible refine Kd.C_drew ?_))); (case side2 => exact HC0_1.out); rintro e w' ⟨rfl, ⟨nd, rfl⟩⟩; (try first | exact ⟨rfl, _, World.drewN_drewN _ _ _⟩ | exact ⟨rfl, _, Eq.trans (World.drewN_drewN _ _ _) (congrArg (World.drewN _) (Nat.add_assoc _ _ _))⟩))))
       go_ret; exact ⟨by first | rfl | (simp [errW_none, errW_some] <;> rfl) | (simp [*, errW_none, errW_some] <;> rfl), zB HB⟩
     ·replace c15 := Bool.eq_false_iff.mpr c15; subst c15; rw [if_neg (show ¬ (false = true) by decide)] at H; obtain rfl := Option.some.inj H; have hcz19_0 : wr.cell? ⟨gb356, 0, none⟩ = some (.slice A0_0 l0_0.length c0_0) := (blk_cell BK356.out 0).trans rfl; have hcz19_1 : wr.cell? ⟨gb356, 1, none⟩ = some (.slice A0_1 l0_1.length c0_1) := (blk_cell BK356.out 1).trans rfl; have hfz19_0 := blk_frozen BK356.out 0; have hfz19_1 := blk_frozen BK356.out 1; go_wp2_with (first | (go_at_call 107; (with_reducible refine (spec_validNumbers.calls k1 _ _ l0_0 true _ ?side1 ?side2 A12.out).mono ?_); (case side1 => repeat (first | exact (Kd.C_below HR0_0.out HB.out) | (with_reducible refine Kd.C_alloc ?_ _) | (with_reducible refine Kd.C_drewN ?_ _) | (with_reducible refine Kd.C_drew ?_))); (case side2 => exact HC0_0.out); rintro e w' ⟨rfl, ⟨nd, rfl⟩⟩; (try first | exact ⟨rfl, _, World.drewN_drewN _ _ _⟩ | exact ⟨rfl, _, Eq.trans (World.drewN_drewN _ _ _) (congrArg (World.drewN _) (Nat.add_assoc _ _ _))⟩)) | (go_at_call 108; (with_reducible refine (spec_validPairs.calls k1 _ _ l0_1 false _ ?side1 ?side2 A14.out).mono ?_); (case side1 => repeat (first | exact (Kd.C_below HR0_1.out (zB HB)) | (with_reducible refine Kd.C_alloc ?_ _) | (with_reducible refine Kd.C_drewN ?_ _) | (with_reducible refine Kd.C_drew ?_))); (case side2 => exact HC0_1.out); rintro e w' ⟨rfl, ⟨nd, rfl⟩⟩; (try first | exact ⟨rfl, _, World.drewN_drewN _ _ _⟩ | exact ⟨rfl, _, Eq.trans (World.drewN_drewN _ _ _) (congrArg (World.drewN _) (Nat.add_assoc _ _ _))⟩)))
      repeat (go_quiet (first | (go_at_call 107; (with_reducible refine (spec_validNumbers.calls k1 _ _ l0_0 true _ ?side1 ?side2 A12.out).mono ?_); (case side1 => repeat (first | exact (Kd.C_below HR0_0.out HB.out) | (with_reducible refine Kd.C_alloc ?_ _) | (with_reducible refine Kd.C_drewN ?_ _) | (with_reducible refine Kd.C_drew ?_))); (case side2 => exact HC0_0.out); rintro e w' ⟨rfl, ⟨nd, rfl⟩⟩; (try first | exact ⟨rfl, _, World.drewN_drewN _ _ _⟩ | exact ⟨rfl, _, Eq.trans (World.drewN_drewN _ _ _) (congrArg (World.drewN _) (Nat.add_assoc _ _ _))⟩)) | (go_at_call 108; (with_reducible refine (spec_validPairs.calls k1 _ _ l0_1 false _ ?side1 ?side2 A14.out).mono ?_); (case side1 => repeat (first | exact (Kd.C_below HR0_1.out (zB HB)) | (with_reducible refine Kd.C_alloc ?_ _) | (with_reducible refine Kd.C_drewN ?_ _) | (with_reducible refine Kd.C_drew ?_))); (case side2 => exact HC0_1.out); rintro e w' ⟨rfl, ⟨nd, rfl⟩⟩; (try first | exact ⟨rfl, _, World.drewN_drewN _ _ _⟩ | exact ⟨rfl, _, Eq.trans (World.drewN_drewN _ _ _) (congrArg (World.drewN _) (Nat.add_assoc _ _ _))⟩))); try go_wp2_with (first | (go_at_call 107; (with_reducible refine (spec_validNumbers.calls k1 _ _ l0_0 true _ ?side1 ?side2 A12.out).mono ?_); (case side1 => repeat (first | exact (Kd.C_below HR0_0.out HB.out) | (with_reducible refine Kd.C_alloc ?_ _) | (with_reducible refine Kd.C_drewN ?_ _) | (with_reducible refine Kd.C_drew ?_))); (case side2 => exact HC0_0.out); rintro e w' ⟨rfl, ⟨nd, rfl⟩⟩; (try first | exact ⟨rfl, _, World.drewN_drewN _ _ _⟩ | exact ⟨rfl, _, Eq.trans (World.drewN_drewN _ _ _) (congrArg (World.drewN _) (Nat.add_assoc _ _ _))⟩)) | (go_at_call 108; (with_reducible refine (spec_validPairs.calls k1 _ _ l0_1 false _ ?side1 ?side2 A14.out).mono ?_); (case side1 => repeat (first | exact (Kd.C_below HR0_1.out (zB HB)) | (with_reducible refine Kd.C_alloc ?_ _) | (with_reducible refine Kd.C_drewN ?_ _) | (with_reducible refine Kd.C_drew ?_))); (case side2 => exact HC0_1.out); rintro e w' ⟨rfl, ⟨nd, rfl⟩⟩; (try first | exact ⟨rfl, _, World.drewN_drewN _ _ _⟩ | exact ⟨rfl, _, Eq.trans (World.drewN_drewN _ _ _) (congrArg (World.drewN _) (Nat.add_assoc _ _ _))⟩))))
      go_ret; exact ⟨by first | rfl | (simp [errW_none, errW_some] <;> rfl) | (simp [*, errW_none, errW_some] <;> rfl), zB HB⟩
    ·replace c13 := Bool.eq_false_iff.mpr c13; subst c13; rw [if_neg (show ¬ (false = true) by decide)] at H; obtain rfl := Option.some.inj H; have hcz20_0 : wr.cell? ⟨gb356, 0, none⟩ = some (.slice A0_0 l0_0.length c0_0) := (blk_cell BK356.out 0).trans rfl; have hcz20_1 : wr.cell? ⟨gb356, 1, none⟩ = some (.slice A0_1 l0_1.length c0_1) := (blk_cell BK356.out 1).trans rfl; have hfz20_0 := blk_frozen BK356.out 0; have hfz20_1 := blk_frozen BK356.out 1; go_wp2_with (first | (go_at_call 107; (with_reducible refine (spec_validNumbers.calls k1 _ _ l0_0 false _ ?side1 ?side2 A12.out).mono ?_); (case side1 => repeat (first | exact (Kd.C_below HR0_0.out HB.out) | (with_reducible refine Kd.C_alloc ?_ _) | (with_reducible refine Kd.C_drewN ?_ _) | (with_reducible refine Kd.C_drew ?_))); (case side2 => exact HC0_0.out); rintro e w' ⟨rfl, ⟨nd, rfl⟩⟩; (try first | exact ⟨rfl, _, World.drewN_drewN _ _ _⟩ | exact ⟨rfl, _, Eq.trans (World.drewN_drewN _ _ _) (congrArg (World.drewN _) (Nat.add_assoc _ _ _))⟩)))
     repeat (go_quiet (first | (go_at_call 107; (with_reducible refine (spec_validNumbers.calls k1 _ _ l0_0 false _ ?side1 ?side2 A12.out).mono ?_); (case side1 => repeat (first | exact (Kd.C_below HR0_0.out HB.out) | (with_reducible refine Kd.C_alloc ?_ _) | (with_reducible refine Kd.C_drewN ?_ _) | (with_reducible refine Kd.C_drew ?_))); (case side2 => exact HC0_0.out); rintro e w' ⟨rfl, ⟨nd, rfl⟩⟩; (try first | exact ⟨rfl, _, World.drewN_drewN _ _ _⟩ | exact ⟨rfl, _, Eq.trans (World.drewN_drewN _ _ _) (congrArg (World.drewN _) (Nat.add_assoc _ _ _))⟩))); try go_wp2_with (first | (go_at_call 107; (with_reducible refine (spec_validNumbers.calls k1 _ _ l0_0 false _ ?side1 ?side2 A12.out).mono ?_); (case side1 => repeat (first | exact (Kd.C_below HR0_0.out HB.out) | (with_reducible refine Kd.C_alloc ?_ _) | (with_reducible refine Kd.C_drewN ?_ _) | (with_reducible refine Kd.C_drew ?_))); (case side2 => exact HC0_0.out); rintro e w' ⟨rfl, ⟨nd, rfl⟩⟩; (try first | exact ⟨rfl, _, World.drewN_drewN _ _ _⟩ | exact ⟨rfl, _, Eq.trans (World.drewN_drewN _ _ _) (congrArg (World.drewN _) (Nat.add_assoc _ _ _))⟩))))
     go_ret; exact ⟨by first | rfl | (simp [errW_none, errW_some] <;> rfl) | (simp [*, errW_none, errW_some] <;> rfl), zB HB⟩

end Go.Proofs.Ytfcpbgedgedalaa.Q
