-- written by px.py and merge.py (programs of this claim's), over the kit's print. Not trusted: Lean checks it.
import Derived.Test.YtfcpbgedgedalaaQ0
namespace Go.Proofs.Ytfcpbgedgedalaa.Q
open Go.RowKit Go.Proofs.YtfcpbgedgedalaaL.PrintWords Go.Proofs.YtfcpbgedgedalaaL.PrintLast Go.Proofs.YtfcpbgedgedalaaL.PrintMore
attribute [local go_sem] max2_int min2_int max_two min_two max_three min_three max_four min_four   -- for this text's walks alone
set_option linter.unusedVariables false
set_option linter.unusedSimpArgs false

/-! ### impl_in: function 100 -/
def impl_in.f (a0 : Int) (a1 : Int) (a2 : Int) : Option (Bool) := if a0 ≥ a1 then (some (decide (a0 ≤ a2))) else (some false)
set_option maxHeartbeats 8000000 in
set_option maxRecDepth 100000 in
theorem impl_in.calls (a0 : Int) (a1 : Int) (a2 : Int) (r : Bool) (w : World) (h : impl_in.f a0 a1 a2 = some r) :
  Calls Try.prog 100 #[.int .i64 a0, .int .i64 a1, .int .i64 a2] w fun e w' => e = .returned (.bool r) ∧ Drawn0 w w' := by
 have H : (if a0 ≥ a1 then (some (decide (a0 ≤ a2))) else (some false)) = some r := h; clear h
 by_cases c4 : a0 ≥ a1
 ·rw [if_pos c4] at H; have c4b0 : decide (a1 ≤ a0) = true := decide_eq_true c4; clear c4; obtain rfl := Option.some.inj H; go_enter Try.func100, Try.ntmps100; go_wp2; go_ret; exact ⟨by first | rfl | (simp; done) | (simp [*]; done), by repeat (first | exact Drawn0.refl _ | apply Drawn0.step)⟩
 ·rw [if_neg c4] at H; have c4b0 : decide (a1 ≤ a0) = false := decide_eq_false c4; clear c4; obtain rfl := Option.some.inj H; go_enter Try.func100, Try.ntmps100; go_wp2; go_ret; exact ⟨by first | rfl | (simp; done) | (simp [*]; done), by repeat (first | exact Drawn0.refl _ | apply Drawn0.step)⟩

/-! ### impl_isName: function 93 -/
def impl_isName.l0 : Nat → ByteArray → Int → Option (Bool)
 | 0, _, _ => none
 | k + 1, x0, x3 => if x3 < (x0.size : Int) then (if 0 ≤ x3 then (if (bt x0 x3) < 97 then (some false) else (if (bt x0 x3) > 122 then (some false) else (impl_isName.l0 k x0 (wrap64 (x3 + 1))))) else (none)) else ((impl_in.f (x0.size : Int) 1 6).bind fun t275 => (some t275))
def impl_isName.f (k : Nat) (a0 : ByteArray) : Option (Bool) := impl_isName.l0 k a0 0
theorem impl_isName.mono_l : ∀ k, (∀ y0 y1, LeO (impl_isName.l0 k y0 y1) (impl_isName.l0 (k + 1) y0 y1))
 | 0 => fun _ _ r h => by simp [impl_isName.l0] at h
 | k + 1 => by
  have ih0 := impl_isName.mono_l k
  ·intro y0 y1; unfold impl_isName.l0
   repeat' first
   | (with_reducible exact ih0 _ _)
   | (with_reducible exact LeO.refl _)
   | (with_reducible exact LeO.none _)
   | (with_reducible refine LeO.ite ?_ ?_)
   | (with_reducible refine LeO.bind ?_ (fun _ => ?_))
   | exact ih0 _ _
   | exact LeO.none _
   | refine LeO.ite ?_ ?_
   | refine LeO.bind ?_ (fun _ => ?_)
theorem impl_isName.mono : ∀ a0 k, LeO (impl_isName.f k a0) (impl_isName.f (k + 1) a0) := by
 intro a0 k; have ih0 := impl_isName.mono_l k; unfold impl_isName.f
 repeat' first
   | (with_reducible exact ih0 _ _)
   | (with_reducible exact LeO.refl _)
   | (with_reducible exact LeO.none _)
   | (with_reducible refine LeO.ite ?_ ?_)
   | (with_reducible refine LeO.bind ?_ (fun _ => ?_))
   | exact ih0 _ _
   | exact LeO.none _
   | refine LeO.ite ?_ ?_
   | refine LeO.bind ?_ (fun _ => ?_)
set_option maxHeartbeats 8000000 in
set_option maxRecDepth 100000 in
theorem impl_isName.calls (k : Nat) (a0 : ByteArray) (r : Bool) (w : World) (h : impl_isName.f k a0 = some r) :
  Calls Try.prog 93 #[.string a0] w fun e w' => e = .returned (.bool r) ∧ Drawn0 w w' := by
 have H : (impl_isName.l0 k a0 0) = some r := h; clear h; have H' := Aside0.mk H; clear H; go_enter Try.func93, Try.ntmps93; go_wp2; go_loopg [3] k (fun kq v3 w' => ∃ (x3_1 : Int), v3 = .int .i64 x3_1 ∧ Aside0 (impl_isName.l0 kq a0 x3_1 = some r) ∧ Aside0 (kq ≤ k) ∧ Drawn0 w w')
 case atStart => exact ⟨(0), zr, H', ⟨Nat.le_refl _⟩, by repeat (first | exact Drawn0.refl _ | apply Drawn0.step)⟩
 case round =>
  clear H'; obtain ⟨x3_1, rfl, HA, HK1, ⟨m1, rfl⟩⟩ := hrel
  cases gk with
  | zero => exact absurd HA.out (by simp [impl_isName.l0])
  | succ k1 =>
   have H := HA.out; clear HA; simp only [impl_isName.l0] at H
   by_cases c2 : x3_1 < (a0.size : Int)
   ·rw [if_pos c2] at H; have c2b0 : decide (x3_1 < (a0.size : Int)) = true := decide_eq_true c2; clear c2
    by_cases c3 : 0 ≤ x3_1
    ·rw [if_pos c3] at H; have c3b0 : decide (0 ≤ x3_1) = true := decide_eq_true c3; clear c3
     by_cases c5 : (bt a0 x3_1) < 97
     ·rw [if_pos c5] at H; have c5b0 : decide ((bt a0 x3_1) < 97) = true := decide_eq_true c5; clear c5; obtain rfl := Option.some.inj H; have p4 : 0 ≤ (x3_1 : Int) := of_decide_eq_true za; have q4 : x3_1 < (a0.size : Int) := of_decide_eq_true za; have hx4 := bt_at a0 x3_1; replace p4 := eq_true p4; replace q4 := eq_true q4; go_wp2; go_ret; exact ⟨by first | rfl | (simp; done) | (simp [*]; done), by repeat (first | exact Drawn0.refl _ | apply Drawn0.step)⟩
     ·rw [if_neg c5] at H; have c5b0 : decide ((bt a0 x3_1) < 97) = false := decide_eq_false c5; clear c5
      by_cases c7 : (bt a0 x3_1) > 122
      ·rw [if_pos c7] at H; have c7b0 : decide (122 < (bt a0 x3_1)) = true := decide_eq_true c7; clear c7; obtain rfl := Option.some.inj H; have p4 : 0 ≤ (x3_1 : Int) := of_decide_eq_true za; have q4 : x3_1 < (a0.size : Int) := of_decide_eq_true za; have hx4 := bt_at a0 x3_1; replace p4 := eq_true p4; replace q4 := eq_true q4; have p6 : 0 ≤ (x3_1 : Int) := of_decide_eq_true za; have q6 : x3_1 < (a0.size : Int) := of_decide_eq_true za; have hx6 := bt_at a0 x3_1; replace p6 := eq_true p6; replace q6 := eq_true q6; go_wp2; go_ret; exact ⟨by first | rfl | (simp; done) | (simp [*]; done), by repeat (first | exact Drawn0.refl _ | apply Drawn0.step)⟩
      ·rw [if_neg c7] at H; have c7b0 : decide (122 < (bt a0 x3_1)) = false := decide_eq_false c7; clear c7; have H' := Aside0.mk H; clear H; have p4 : 0 ≤ (x3_1 : Int) := of_decide_eq_true za; have q4 : x3_1 < (a0.size : Int) := of_decide_eq_true za; have hx4 := bt_at a0 x3_1; replace p4 := eq_true p4; replace q4 := eq_true q4; have p6 : 0 ≤ (x3_1 : Int) := of_decide_eq_true za; have q6 : x3_1 < (a0.size : Int) := of_decide_eq_true za; have hx6 := bt_at a0 x3_1; replace p6 := eq_true p6; replace q6 := eq_true q6; go_wp2; go_roundg k1
       case measure => have := HK1.out; omega
       case rel => exact ⟨(wrap64 (x3_1 + 1)), zr, H', ⟨by have := HK1.out; omega⟩, by repeat (first | exact Drawn0.refl _ | apply Drawn0.step)⟩
    ·rw [if_neg c3] at H; exact absurd H (by simp)
   ·rw [if_neg c2] at H; have c2b0 : decide (x3_1 < (a0.size : Int)) = false := decide_eq_false c2; clear c2; replace H := Option.bind_eq_some_iff.mp H; obtain ⟨t275, A80, H⟩ := H
    (try dsimp only at H)
    have A8 := Aside0.mk A80; clear A80; obtain rfl := Option.some.inj H; go_wp2_with (first | ((with_reducible refine gate_callee (f := 100) rfl ?_); refine goesL_ (some 22) rfl rfl Try.func100 (by kernel_rfl) rfl #[.int .i64 (a0.size : Int), .int .i64 1, .int .i64 6] rfl zl ?_; (with_reducible refine (impl_in.calls (a0.size : Int) 1 6 t275 _ A8.out).mono ?_); rintro e w' ⟨rfl, ⟨nd, rfl⟩⟩; refine ⟨_, rfl, ?_⟩)); go_ret; exact ⟨by first | rfl | (simp; done) | (simp [*]; done), by repeat (first | exact Drawn0.refl _ | apply Drawn0.step)⟩

/-! ### impl_isValue: function 101 -/
def impl_isValue.f (a0 : Int) : Option (Bool) := (impl_in.f a0 (-99) 99).bind fun t276 => (some t276)
set_option maxHeartbeats 8000000 in
set_option maxRecDepth 100000 in
theorem impl_isValue.calls (a0 : Int) (r : Bool) (w : World) (h : impl_isValue.f a0 = some r) :
  Calls Try.prog 101 #[.int .i64 a0] w fun e w' => e = .returned (.bool r) ∧ Drawn0 w w' := by
 have H : ((impl_in.f a0 (-99) 99).bind fun t276 => (some t276)) = some r := h; clear h; replace H := Option.bind_eq_some_iff.mp H; obtain ⟨t276, A20, H⟩ := H
 (try dsimp only at H)
 have A2 := Aside0.mk A20; clear A20; obtain rfl := Option.some.inj H; go_enter Try.func101, Try.ntmps101; go_wp2_with (first | ((with_reducible refine gate_callee (f := 100) rfl ?_); refine goesL_ (some 4) rfl rfl Try.func100 (by kernel_rfl) rfl #[.int .i64 a0, .int .i64 (-99), .int .i64 99] rfl zl ?_; (with_reducible refine (impl_in.calls a0 (-99) 99 t276 _ A2.out).mono ?_); rintro e w' ⟨rfl, ⟨nd, rfl⟩⟩; refine ⟨_, rfl, ?_⟩)); go_ret; exact ⟨by first | rfl | (simp; done) | (simp [*]; done), by repeat (first | exact Drawn0.refl _ | apply Drawn0.step)⟩

/-! ### impl_Pair_valid: function 65 -/
def impl_Pair_valid.f (k : Nat) (a0_0 : ByteArray) (a0_1 : Int) : Option (Bool) := (impl_isName.f k a0_0).bind fun t278 => (if t278 = true then ((impl_isValue.f a0_1).bind fun t279 => (some t279)) else (some false))
theorem impl_Pair_valid.mono : ∀ a0 a1 k, LeO (impl_Pair_valid.f k a0 a1) (impl_Pair_valid.f (k + 1) a0 a1) := by
 intro a0 a1 k; unfold impl_Pair_valid.f
 repeat' first
   | (with_reducible exact impl_isName.mono _ _)
   | (with_reducible exact LeO.refl _)
   | (with_reducible exact LeO.none _)
   | (with_reducible refine LeO.ite ?_ ?_)
   | (with_reducible refine LeO.bind ?_ (fun _ => ?_))
   | exact impl_isName.mono _ _
   | exact LeO.none _
   | refine LeO.ite ?_ ?_
   | refine LeO.bind ?_ (fun _ => ?_)
set_option maxHeartbeats 8000000 in
set_option maxRecDepth 100000 in
theorem impl_Pair_valid.calls (k : Nat) (a0_0 : ByteArray) (a0_1 : Int) (r : Bool) (w : World) (h : impl_Pair_valid.f k a0_0 a0_1 = some r) :
  Calls Try.prog 65 #[.agg #[.string a0_0, .int .i64 a0_1]] w fun e w' => e = .returned (.bool r) ∧ Below w.heap.size w w' := by
 have hu33 := Try.underlying33; have HB := Aside0.mk (Below.refl w.heap.size w); have H : ((impl_isName.f k a0_0).bind fun t278 => (if t278 = true then ((impl_isValue.f a0_1).bind fun t279 => (some t279)) else (some false))) = some r := h; clear h; replace H := Option.bind_eq_some_iff.mp H; obtain ⟨t278, A20, H⟩ := H
 (try dsimp only at H)
 have A2 := Aside0.mk A20; clear A20
 by_cases c3 : t278 = true
 ·subst c3; rw [if_pos rfl] at H; replace H := Option.bind_eq_some_iff.mp H; obtain ⟨t279, A40, H⟩ := H
  (try dsimp only at H)
  have A4 := Aside0.mk A40; clear A40; obtain rfl := Option.some.inj H; go_enter Try.func65, Try.ntmps65; go_wp2_with (first | ((with_reducible refine gate_dst (N := 1) rfl ?_); refine zx (N := 1) (cs := #[.string a0_0, .int .i64 a0_1]) (t := 33) ?_; intro gb277 hg w5 hbox hb; have BK277 := Aside0.mk (hbox); have GW277 := Aside0.mk ((by rw [hg]; exact (below_size (zB HB)) : w.heap.size ≤ gb277)); have GE277 := GW277; replace HB := Aside0.mk (below_step (zB HB) hb); clear hb hbox hg; have hcz6_0 : w5.cell? ⟨gb277, 0, none⟩ = some (.string a0_0) := (blk_cell BK277.out 0).trans rfl; have hcz6_1 : w5.cell? ⟨gb277, 1, none⟩ = some (.int .i64 a0_1) := (blk_cell BK277.out 1).trans rfl; have hfz6_0 := blk_frozen BK277.out 0; have hfz6_1 := blk_frozen BK277.out 1) | ((with_reducible refine gate_callee (f := 93) rfl ?_); refine goesL_ (some 5) rfl rfl Try.func93 (by kernel_rfl) rfl #[.string a0_0] rfl zl ?_; (with_reducible refine (impl_isName.calls k a0_0 true _ A2.out).mono ?_); rintro e w' ⟨rfl, ⟨nd, rfl⟩⟩; refine ⟨_, rfl, ?_⟩) | (go_at_call 101; (with_reducible refine (impl_isValue.calls a0_1 t279 _ A4.out).mono ?_); rintro e w' ⟨rfl, ⟨nd, rfl⟩⟩)); go_ret; exact ⟨by first | rfl | (simp [errW_none, errW_some] <;> rfl) | (simp [*, errW_none, errW_some] <;> rfl), zB HB⟩
 ·replace c3 := Bool.eq_false_iff.mpr c3; subst c3; rw [if_neg (show ¬ (false = true) by decide)] at H; obtain rfl := Option.some.inj H; go_enter Try.func65, Try.ntmps65; go_wp2_with (first | ((with_reducible refine gate_dst (N := 1) rfl ?_); refine zx (N := 1) (cs := #[.string a0_0, .int .i64 a0_1]) (t := 33) ?_; intro gb277 hg w7 hbox hb; have BK277 := Aside0.mk (hbox); have GW277 := Aside0.mk ((by rw [hg]; exact (below_size (zB HB)) : w.heap.size ≤ gb277)); have GE277 := GW277; replace HB := Aside0.mk (below_step (zB HB) hb); clear hb hbox hg; have hcz8_0 : w7.cell? ⟨gb277, 0, none⟩ = some (.string a0_0) := (blk_cell BK277.out 0).trans rfl; have hcz8_1 : w7.cell? ⟨gb277, 1, none⟩ = some (.int .i64 a0_1) := (blk_cell BK277.out 1).trans rfl; have hfz8_0 := blk_frozen BK277.out 0; have hfz8_1 := blk_frozen BK277.out 1) | ((with_reducible refine gate_callee (f := 93) rfl ?_); refine goesL_ (some 5) rfl rfl Try.func93 (by kernel_rfl) rfl #[.string a0_0] rfl zl ?_; (with_reducible refine (impl_isName.calls k a0_0 false _ A2.out).mono ?_); rintro e w' ⟨rfl, ⟨nd, rfl⟩⟩; refine ⟨_, rfl, ?_⟩)); go_ret; exact ⟨by first | rfl | (simp [errW_none, errW_some] <;> rfl) | (simp [*, errW_none, errW_some] <;> rfl), zB HB⟩

end Go.Proofs.Ytfcpbgedgedalaa.Q

namespace Go.Proofs.Ytfcpbgedgedalaa.Q
open Go.RowKit Go.Proofs.YtfcpbgedgedalaaL.PrintWords Go.Proofs.YtfcpbgedgedalaaL.PrintLast Go.Proofs.YtfcpbgedgedalaaL.PrintMore
attribute [local go_sem] max2_int min2_int max_two min_two max_three min_three max_four min_four   -- for this text's walks alone
set_option linter.unusedVariables false
set_option linter.unusedSimpArgs false

/-! ### slices.IndexFunc at impl.Turn: function 132 -/
set_option maxHeartbeats 8000000 in
set_option maxRecDepth 100000 in
theorem ix132.calls (p : S107 → Bool) (g : Nat) (lb : Array Value) (eg : ∀ args w, (callFunc g args).run Try.prog w = .ok (.enter g args) w) (A0 : Option Addr) (c0 : Nat) (l0 : List (S107)) (w : World)
  (hp : PxPred Try.prog g lb (fun x : S107 => .agg #[.string x.f0, .string x.f1]) p w) (hr0 : Kd.C k107 w A0 l0.length l0) :
  Calls Try.prog 132 #[.slice A0 l0.length c0, .func (.func g) #[] lb] w fun e w' => e = .returned (.int .i64 (pxIdx p l0)) ∧ Below w.heap.size w w' := by
 have HR := Aside0.mk hr0; clear hr0; have hbig : l0.length ≤ 9223372036854775807 := HR.out.2.1; have hu107 := Try.underlying107; go_enter Try.func132, Try.ntmps132; go_wp2; go_loopg [5, 8] l0.length (fun gg _ s8 wr => ∃ kk : Nat, kk ≤ l0.length ∧ l0.length - kk ≤ gg ∧ s8 = .int .i64 kk ∧ Aside0 (Below w.heap.size w wr) ∧ Aside0 (∀ j, j < kk → p (l0.getD j z107) = false))
 case atStart => exact ⟨0, Nat.zero_le _, by omega, rfl, ⟨Below.refl _ w⟩, ⟨fun j hj => absurd hj (Nat.not_lt_zero _)⟩⟩
 case round =>
  obtain ⟨kk, hkk, hg, rfl, BW, A⟩ := hrel
  by_cases hlt : kk < l0.length
  ·have hltz : (kk : Int) < (l0.length : Int) := by omega
   have hz0 : (0 : Int) ≤ (kk : Int) := by omega
   obtain ⟨ad, e, hx0, hx1⟩ := at_T107 (Kd.C_below HR.out BW.out) (kk : Int) hz0 hltz; simp only [Int.toNat_natCast] at hx0 hx1
   cases e
   have hcall := hp wr (rd_T107 l0 (kk : Int)) BW.out; clear hp; have B := Aside0.mk (show rd_T107 l0 (kk : Int) = l0.getD kk z107 from rfl); generalize hy : rd_T107 l0 (kk : Int) = y at hx0 hx1 hcall B; clear hy
   cases hq : p y with
   | true =>
    rw [hq] at hcall; go_wp2_with fail; refine hcall.mono ?_; rintro e w' ⟨rfl, hb'⟩; clear hcall; go_wp2; go_ret; refine ⟨?_, below_then BW.out BW.out.size hb'⟩; rw [pxIdx_hit p l0 z107 kk hlt (by rw [← B.out]; exact hq) A.out]; rfl
   | false =>
    rw [hq] at hcall; go_wp2_with fail; refine hcall.mono ?_; rintro e w' ⟨rfl, hb'⟩; clear hcall; go_wp2; go_roundg (l0.length - (kk + 1))
    case measure => omega
    case rel =>
     refine ⟨kk + 1, by omega, by omega, by go_num, ⟨below_then BW.out BW.out.size hb'⟩, ⟨fun j hj => ?_⟩⟩
     by_cases e : j = kk
     ·subst e; rw [← B.out]; exact hq
     ·exact A.out j (by omega)
  ·have hltz : ¬ (kk : Int) < (l0.length : Int) := by omega
   have : kk = l0.length := by omega
   subst this; go_wp2; go_ret; refine ⟨?_, BW.out⟩; rw [pxIdx_miss p l0 z107 A.out]; rfl
/-! ### slices.ContainsFunc at impl.Turn: function 83 -/
set_option maxHeartbeats 8000000 in
set_option maxRecDepth 100000 in
theorem cf83.calls (p : S107 → Bool) (g : Nat) (lb : Array Value) (eg : ∀ args w, (callFunc g args).run Try.prog w = .ok (.enter g args) w) (A0 : Option Addr) (c0 : Nat) (l0 : List (S107)) (w : World)
  (hp : PxPred Try.prog g lb (fun x : S107 => .agg #[.string x.f0, .string x.f1]) p w) (hr0 : Kd.C k107 w A0 l0.length l0) :
  Calls Try.prog 83 #[.slice A0 l0.length c0, .func (.func g) #[] lb] w fun e w' => e = .returned (.bool (l0.any p)) ∧ Below w.heap.size w w' := by
 rw [← pxIdx_any p l0]; go_enter Try.func83, Try.ntmps83; go_wp2_with fail; refine (ix132.calls p g lb eg A0 c0 l0 w hp hr0).mono ?_; rintro e w' ⟨rfl, hb'⟩; clear hp hr0; go_wp2; go_ret; exact ⟨by first | rfl | simp, hb'⟩
theorem impl_isName.eqL (s : ByteArray) (hs : s.size ≤ 9223372036854775807) : ∀ (d k n : Nat), n ≤ s.size → s.size - n = d → d < k →
  impl_isName.l0 k s (n : Int) = some ((s.data.toList.drop n).all (fun c => decide (97 ≤ c.toNat) && decide (c.toNat ≤ 122)) && (decide (1 ≤ s.size) && decide (s.size ≤ 6))) := by
 intro d
 induction d with
 | zero =>
  intro k n hn hd hk; obtain ⟨k, rfl⟩ : ∃ m, k = m + 1 := ⟨k - 1, by omega⟩
  simp only [impl_isName.l0]; rw [if_neg (by omega), List.drop_of_length_le (by simp; omega)]; unfold impl_in.f
  by_cases h : (s.size : Int) ≥ 1
  ·have h' : 1 ≤ s.size := by omega
   have e : decide ((s.size : Int) ≤ 6) = decide (s.size ≤ 6) := by rw [decide_eq_decide]; omega
   simp [h, h', e]
  ·have h' : ¬ 1 ≤ s.size := by omega
   simp [h, h']
 | succ d ih =>
  intro k n hn hd hk; obtain ⟨k, rfl⟩ : ∃ m, k = m + 1 := ⟨k - 1, by omega⟩
  have hlt : n < s.size := by omega
  simp only [impl_isName.l0]; rw [if_pos (by omega), if_pos (by omega), bt_nat s n hlt, wrap_succ hlt hs, ih k (n + 1) (by omega) (by omega) (by omega), bt_drop s n hlt, List.all_cons]
  by_cases h1 : (s[n].toNat : Int) < 97
  ·have h1' : ¬ 97 ≤ s[n].toNat := by omega
   rw [if_pos h1]; simp [h1']
  ·have h1' : 97 ≤ s[n].toNat := by omega
   rw [if_neg h1]
   by_cases h2 : (s[n].toNat : Int) > 122
   ·have h2' : ¬ s[n].toNat ≤ 122 := by omega
    rw [if_pos h2]; simp [h2']
   ·have h2' : s[n].toNat ≤ 122 := by omega
    rw [if_neg h2]; simp [h1', h2']
theorem impl_isName.eq (s : ByteArray) (hs : s.size ≤ 9223372036854775807) (k : Nat) (hk : s.size < k) : impl_isName.f k s = some (pxName s) := by
 unfold impl_isName.f pxName; exact impl_isName.eqL s hs s.size k 0 (by omega) (by omega) hk
def pxTurnOk (l : List S107) (i : Nat) : Bool :=
 pxName (l.getD i z107).f0 && l.any (fun x => x.f0.toList == (l.getD i z107).f1.toList) && !((l.take i).any fun x => x.f0.toList == (l.getD i z107).f0.toList || x.f1.toList == (l.getD i z107).f1.toList)
/-- What ValidTurns computes. -/
def pxTurns (l : List S107) : Bool := (List.range l.length).all (pxTurnOk l) && decide (l.length ≤ 8)
theorem pxTurns_no (l : List S107) (i : Nat) (hi : i < l.length) (h : pxTurnOk l i = false) : pxTurns l = false := by
 unfold pxTurns
 have : (List.range l.length).all (pxTurnOk l) = false := by
  rw [List.all_eq_false]; exact ⟨i, List.mem_range.2 hi, by simp [h]⟩
 rw [this]; rfl
theorem pxTurns_end (l : List S107) (h : ∀ j, j < l.length → pxTurnOk l j = true) : pxTurns l = decide (l.length ≤ 8) := by
 unfold pxTurns
 have : (List.range l.length).all (pxTurnOk l) = true := by
  rw [List.all_eq_true]; intro j hj; exact h j (List.mem_range.1 hj)
 rw [this]; rfl
set_option maxHeartbeats 8000000 in
set_option maxRecDepth 100000 in
theorem impl_ValidTurns.pred1 (a b : ByteArray) (B : Nat) (w : World) (h1 : w.cell? ⟨B, 1, none⟩ = some (.string b)) :
  PxPred Try.prog 94 #[.pointer (some ⟨B, 0, none⟩)] (fun x : S107 => .agg #[.string x.f0, .string x.f1]) (fun x : S107 => x.f0.toList == b.toList) w := by
 intro W x hb; have h1' : W.cell? ⟨B, 1, none⟩ = some (.string b) := (hb.cell (p := ⟨B, 1, none⟩) (World.block_lt_of_cell? w _ h1)).trans h1; have hB' : B < W.heap.size := World.block_lt_of_cell? W _ h1'; clear h1
 show Calls Try.prog 94 #[.agg #[.string x.f0, .string x.f1], .pointer (some ⟨B, 0, none⟩)] W _
 have hu107 := Try.underlying107; go_enter Try.func94, Try.ntmps94; go_wp2; go_ret; exact ⟨rfl, px_alloc _ _⟩
set_option maxHeartbeats 8000000 in
set_option maxRecDepth 100000 in
theorem impl_ValidTurns.pred2 (a b : ByteArray) (B : Nat) (w : World) (h0 : w.cell? ⟨B, 0, none⟩ = some (.string a)) (h1 : w.cell? ⟨B, 1, none⟩ = some (.string b)) :
  PxPred Try.prog 95 #[.pointer (some ⟨B, 0, none⟩)] (fun x : S107 => .agg #[.string x.f0, .string x.f1]) (fun x : S107 => x.f0.toList == a.toList || x.f1.toList == b.toList) w := by
 intro W x hb; have h0' : W.cell? ⟨B, 0, none⟩ = some (.string a) := (hb.cell (p := ⟨B, 0, none⟩) (World.block_lt_of_cell? w _ h0)).trans h0; have h1' : W.cell? ⟨B, 1, none⟩ = some (.string b) := (hb.cell (p := ⟨B, 1, none⟩) (World.block_lt_of_cell? w _ h1)).trans h1; have hB' : B < W.heap.size := World.block_lt_of_cell? W _ h1'; clear h0 h1
 show Calls Try.prog 95 #[.agg #[.string x.f0, .string x.f1], .pointer (some ⟨B, 0, none⟩)] W _
 have hu107 := Try.underlying107
 cases hq : (x.f0.toList == a.toList)
 ·go_enter Try.func95, Try.ntmps95; go_wp2; go_ret; exact ⟨by first | rfl | simp [hq], px_alloc _ _⟩
 ·go_enter Try.func95, Try.ntmps95; go_wp2; go_ret; exact ⟨by first | rfl | simp [hq], px_alloc _ _⟩
set_option maxHeartbeats 8000000 in
set_option maxRecDepth 100000 in
theorem impl_ValidTurns.cfn (p : S107 → Bool) (g : Nat) (lb : Array Value) (eg : ∀ args w, (callFunc g args).run Try.prog w = .ok (.enter g args) w) (A0 : Option Addr) (c0 n : Nat) (l0 : List S107) (hn : l0.length = n) (w : World)
  (hp : PxPred Try.prog g lb (fun x : S107 => .agg #[.string x.f0, .string x.f1]) p w) (hr0 : Kd.C k107 w A0 l0.length l0) :
  Calls Try.prog 83 #[.slice A0 n c0, .func (.func g) #[] lb] w fun e w' => e = .returned (.bool (l0.any p)) ∧ Below w.heap.size w w' := by
 subst hn; exact cf83.calls p g lb eg A0 c0 l0 w hp hr0
/-! ### impl_ValidTurns: function 46 (a contract of our own) -/
def impl_ValidTurns.f (l0 : List (S107)) : Option (Bool) := if l0.all (fun x => decide (x.f0.size ≤ 9223372036854775807)) = true then some (pxTurns l0) else none
set_option maxHeartbeats 8000000 in
set_option maxRecDepth 100000 in
theorem impl_ValidTurns.calls (A0 : Option Addr) (c0 : Nat) (l0 : List (S107)) (r : Bool) (w : World) (hr0 : Kd.C k107 w A0 l0.length l0) (hc0 : l0.length ≤ c0) (h : impl_ValidTurns.f l0 = some r) :
  Calls Try.prog 46 #[.slice A0 l0.length c0] w fun e w' => e = .returned (.bool r) ∧ Below w.heap.size w w' := by
 have hl : ∀ j, j < l0.length → (l0.getD j z107).f0.size ≤ 9223372036854775807 := by
  intro j hj; unfold impl_ValidTurns.f at h; split at h
  ·rename_i hh
   rw [List.all_eq_true] at hh; rw [List.getD_eq_getElem?_getD, List.getElem?_eq_getElem hj]; simpa using hh _ (List.getElem_mem hj)
  ·cases h
 have hr : r = pxTurns l0 := by
  unfold impl_ValidTurns.f at h; split at h
  ·exact (Option.some.inj h).symm
  ·cases h
 have HG := Aside0.mk hr; clear h hr; have HR := Aside0.mk hr0; have HL := Aside0.mk hl; clear hr0 hl; have hbig : l0.length ≤ 9223372036854775807 := HR.out.2.1; have hu107 := Try.underlying107; have eg1 := px_enters Try.func94 (by kernel_rfl) rfl; have eg2 := px_enters Try.func95 (by kernel_rfl) rfl; go_enter Try.func46, Try.ntmps46; go_wp2; go_loopg [7] l0.length (fun gg s7 wr => ∃ kk : Nat, kk ≤ l0.length ∧ l0.length - kk ≤ gg ∧ s7 = .int .i64 kk ∧ Aside0 (Below w.heap.size w wr) ∧ Aside0 (∀ j, j < kk → pxTurnOk l0 j = true))
 case atStart => exact ⟨0, Nat.zero_le _, by omega, rfl, ⟨px_refl _⟩, ⟨fun j hj => absurd hj (Nat.not_lt_zero _)⟩⟩
 case round =>
  obtain ⟨kk, hkk, hg, rfl, BW, OK⟩ := hrel
  by_cases hlt : kk < l0.length
  ·have hltz : (kk : Int) < (l0.length : Int) := by omega
   have hz0 : (0 : Int) ≤ (kk : Int) := by omega
   obtain ⟨ad, e, hx0, hx1⟩ := at_T107 (Kd.C_below HR.out BW.out) (kk : Int) hz0 hltz; simp only [Int.toNat_natCast] at hx0 hx1
   cases e
   rw [show rd_T107 l0 (kk : Int) = l0.getD kk z107 from rfl] at hx0 hx1; have HT := Aside0.mk (show pxTurnOk l0 kk = (pxName (l0.getD kk z107).f0 && l0.any (fun x => x.f0.toList == (l0.getD kk z107).f1.toList) && !((l0.take kk).any fun x => x.f0.toList == (l0.getD kk z107).f0.toList || x.f1.toList == (l0.getD kk z107).f1.toList)) from rfl); have hsz := HL.out kk hlt; generalize l0.getD kk z107 = y at *; have HN := Aside0.mk (impl_isName.eq y.f0 hsz (y.f0.size + 1) (by omega)); clear hsz
   cases hq1 : pxName y.f0 with
   | false =>
    rw [hq1] at HT HN; clear hq1; have HNo := Aside0.mk (pxTurns_no l0 kk hlt HT.out); clear HT; go_wp2_with fail; refine (impl_isName.calls _ _ _ _ HN.out).mono ?_; rintro e w1 ⟨rfl, hd⟩; have hb := hd.below; clear hd; have HB := Aside0.mk (below_then BW.out BW.out.size (below_then (px_alloc _ _) (by simp) hb)); clear hb; go_wp2; go_ret; exact ⟨by rw [HG.out, HNo.out]; rfl, HB.out⟩
   | true =>
    rw [hq1] at HT HN; clear hq1; go_wp2_with fail; refine (impl_isName.calls _ _ _ _ HN.out).mono ?_; rintro e w1 ⟨rfl, hd⟩; have hb := hd.below; clear hd; have hc0 : w1.cell? ⟨wr.heap.size, 0, none⟩ = some (.string y.f0) := (hb.cell (p := ⟨wr.heap.size, 0, none⟩) (by simp)).trans (by go_simp); have hc1 : w1.cell? ⟨wr.heap.size, 1, none⟩ = some (.string y.f1) := (hb.cell (p := ⟨wr.heap.size, 1, none⟩) (by simp)).trans (by go_simp); have HB := Aside0.mk (below_then BW.out BW.out.size (below_then (px_alloc _ _) (by simp) hb)); clear hb; generalize hq2 : l0.any (fun x => x.f0.toList == y.f1.toList) = q2 at HT; have HQ2 := Aside0.mk hq2; clear hq2; go_wp2_with fail; refine (impl_ValidTurns.cfn (fun x : S107 => x.f0.toList == y.f1.toList) 94 _ eg1 _ c0 _ l0 rfl _ (impl_ValidTurns.pred1 y.f0 y.f1 _ _ hc1) (Kd.C_below HR.out HB.out)).mono ?_; rintro e w2 ⟨rfl, hb2⟩; rw [HQ2.out]; have hd0 : w2.cell? ⟨wr.heap.size, 0, none⟩ = some (.string y.f0) := (hb2.cell (p := ⟨wr.heap.size, 0, none⟩) (World.block_lt_of_cell? w1 _ hc0)).trans hc0; have hd1 : w2.cell? ⟨wr.heap.size, 1, none⟩ = some (.string y.f1) := (hb2.cell (p := ⟨wr.heap.size, 1, none⟩) (World.block_lt_of_cell? w1 _ hc1)).trans hc1; have HB2 := Aside0.mk (below_then HB.out HB.out.size hb2); clear hb2 hc0 hc1 HQ2
    cases q2 with
    | false =>
     have HNo := Aside0.mk (pxTurns_no l0 kk hlt HT.out); clear HT; go_wp2; go_ret; exact ⟨by rw [HG.out, HNo.out]; rfl, HB2.out⟩
    | true =>
     generalize hq3 : (l0.take kk).any (fun x => x.f0.toList == y.f0.toList || x.f1.toList == y.f1.toList) = q3 at HT; have HQ3 := Aside0.mk hq3; clear hq3; have hk1 : (kk : Int) ≤ (c0 : Int) := by omega
     go_wp2_with fail; refine (impl_ValidTurns.cfn (fun x : S107 => x.f0.toList == y.f0.toList || x.f1.toList == y.f1.toList) 95 _ eg2 _ c0 _ (l0.take kk) (by rw [List.length_take]; omega) _ (impl_ValidTurns.pred2 y.f0 y.f1 _ _ hd0 hd1) (Kd.C_take (Kd.C_below HR.out HB2.out) (by omega))).mono ?_; rintro e w3 ⟨rfl, hb3⟩; rw [HQ3.out]; have HB3 := Aside0.mk (below_then HB2.out HB2.out.size hb3); clear hb3 hd0 hd1 HQ3
     cases q3 with
     | true =>
      have HNo := Aside0.mk (pxTurns_no l0 kk hlt HT.out); clear HT; go_wp2; go_ret; exact ⟨by rw [HG.out, HNo.out]; rfl, HB3.out⟩
     | false =>
      go_wp2; go_roundg (l0.length - (kk + 1))
      case measure => omega
      case rel =>
       refine ⟨kk + 1, by omega, by omega, by go_num, HB3, ⟨fun j hj => ?_⟩⟩
       by_cases e : j = kk
       ·subst e; exact HT.out
       ·exact OK.out j (by omega)
  ·have : kk = l0.length := by omega
   subst this; have hltz : ¬ (l0.length : Int) < (l0.length : Int) := by omega
   have HE := Aside0.mk (pxTurns_end l0 OK.out); have HD := Aside0.mk (show decide ((l0.length : Int) ≤ 8) = decide (l0.length ≤ 8) by rw [decide_eq_decide]; omega); go_wp2; go_ret; exact ⟨by rw [HG.out, HE.out, ← HD.out]; first | rfl | (simp; done), BW.out⟩

end Go.Proofs.Ytfcpbgedgedalaa.Q

namespace Go.Proofs.Ytfcpbgedgedalaa.Q
open Go.RowKit Go.Proofs.YtfcpbgedgedalaaL.PrintWords Go.Proofs.YtfcpbgedgedalaaL.PrintLast Go.Proofs.YtfcpbgedgedalaaL.PrintMore
attribute [local go_sem] max2_int min2_int max_two min_two max_three min_three max_four min_four   -- for this text's walks alone
set_option linter.unusedVariables false
set_option linter.unusedSimpArgs false

/-! ### slices.Grow of nil at impl.Turn: function 131 -/
set_option maxHeartbeats 8000000 in
set_option maxRecDepth 100000 in
theorem gr131.calls (m : Int) (w : World) (h0 : 0 ≤ m) (hl : m.toNat * 32 ≤ 140737488355328) :
  Calls Try.prog 131 #[.slice none 0 0, .int .i64 m] w fun e w' => ∃ v0_ : Value, e = .returned v0_ ∧ Kd.R k107 107 w' w.heap.size (fun _ => True) v0_ [] ∧ Below w.heap.size w w' := by
 have HL := Aside0.mk hl; have hm : m ≤ 140737488355328 := by omega
 clear hl; have h1 : decide (m < 0) = false := by simp; omega
 by_cases hp : 0 < m
 ·go_enter Try.func131, Try.ntmps131; go_wp2_with (first | ((with_reducible refine gate_dst (N := 22) rfl ?_); refine Kd.R_append_zeros k107 (w0 := w) w.heap.size (by rfl) (.tmp 20) (.tmp 21) 55 3 107 (.agg #[(.string ⟨#[]⟩), (.string ⟨#[]⟩)]) 32 rfl Try.underlying55 Try.underlying3 info107 rfl (by decide) (by decide) (.slice none 0 0) ([] : List (S107)) z107 m (fun _ => True) rfl rfl (k107_mkM _ _ _ z107) (fun _ _ => trivial) (Kd.R_nil _ _ _ _ _) h0 (px_refl _) (Nat.le_refl _) ?aL ?_; (case aL => simpa using HL.out); intro v7 w7 ho7 hb7 hg_ hnew_; clear hg_ hnew_; obtain ⟨A7, c7, rfl⟩ := Kd.R_slice ho7; have hn7 := (Kd.R_reads' ho7).2.1; have HO7 := Aside0.mk ho7; have HB7 := Aside0.mk hb7; clear ho7 hb7)); go_ret; exact ⟨_, rfl, by simpa using Kd.R_take (m := 0) HO7.out (Nat.zero_le _), HB7.out⟩
 ·have : m = 0 := by omega
  subst this; go_enter Try.func131, Try.ntmps131; go_wp2; go_ret; exact ⟨_, rfl, Kd.R_nil _ _ _ _ _, px_refl _⟩
/-! ### impl_Turn_82: function 82 (a contract of our own) -/
def impl_Turn_82.f (l0 : List (List (S107))) : Option ((List (S107))) := if l0.flatten.length * 32 ≤ 140737488355328 then some l0.flatten else none
set_option maxHeartbeats 8000000 in
set_option maxRecDepth 100000 in
theorem impl_Turn_82.calls (A0 : Option Addr) (c0 : Nat) (l0 : List (List (S107))) (r : List (S107)) (w : World) (hr0 : Kd.C (Kd.slice 107 k107) w A0 l0.length l0) (hc0 : l0.length ≤ c0) (h : impl_Turn_82.f l0 = some r) :
  Calls Try.prog 82 #[.slice A0 l0.length c0] w fun e w' => ∃ v0_ : Value, e = .returned (v0_) ∧ Kd.R k107 107 w' w.heap.size (fun _ => True) v0_ r ∧ Below w.heap.size w w' := by
 have hl : l0.flatten.length * 32 ≤ 140737488355328 := by unfold impl_Turn_82.f at h; split at h; assumption; cases h
 have hr : r = l0.flatten := by unfold impl_Turn_82.f at h; rw [if_pos hl] at h; exact (Option.some.inj h).symm
 subst hr; clear h; have HR := Aside0.mk hr0; clear hr0; have hbig : l0.length ≤ 9223372036854775807 := HR.out.2.1; have hfb : l0.flatten.length ≤ 140737488355328 := by omega
 go_enter Try.func82, Try.ntmps82; go_wp2; go_loopg [3, 11] l0.length (fun gg v3 v11 wr => ∃ kk : Nat, kk ≤ l0.length ∧ l0.length - kk ≤ gg ∧ v3 = .int .i64 ((l0.take kk).flatten.length : Nat) ∧ v11 = .int .i64 kk ∧ Aside0 (Below w.heap.size w wr))
 case atStart => exact ⟨0, Nat.zero_le _, by omega, by simp, rfl, ⟨px_refl _⟩⟩
 case round =>
  obtain ⟨kk, hkk, hg, rfl, rfl, BW⟩ := hrel
  by_cases hlt : kk < l0.length
  ·have hltz : (kk : Int) < (l0.length : Int) := by omega
   have hz0 : (0 : Int) ≤ (kk : Int) := by omega
   obtain ⟨ad, A1, c1, e, hx0, hl1, hC1⟩ := at_L13 (Kd.C_below HR.out BW.out) (kk : Int) hz0 hltz; simp only [Int.toNat_natCast] at hx0
   cases e
   have hft := px_flat_take l0 kk hlt []; have hle := px_flat_le l0 (kk + 1); rw [hft, List.length_append] at hle; rw [show rd_L13 l0 (kk : Int) = l0.getD kk [] from rfl] at hx0 hl1; have HF := Aside0.mk (show (l0.take (kk + 1)).flatten.length = (l0.take kk).flatten.length + (l0.getD kk []).length by rw [hft, List.length_append]); clear hft hC1; generalize (l0.getD kk []).length = n1 at *; generalize (l0.take kk).flatten.length = n0 at *; have hb1 : (n0 : Int) + (n1 : Int) ≤ 140737488355328 := by omega
   have hb2 : decide ((n0 : Int) + (n1 : Int) < 0) = false := by simp; omega
   go_wp2; go_roundg (l0.length - (kk + 1))
   case measure => omega
   case rel => exact ⟨kk + 1, by omega, by omega, by rw [HF.out]; simp, by go_num, BW⟩
  ·have : kk = l0.length := by omega
   subst this; have HT := Aside0.mk (show (l0.take l0.length).flatten.length = l0.flatten.length by rw [List.take_length]); rw [HT.out]; generalize hfl : l0.flatten.length = fl at *; have HFL := Aside0.mk hfl; clear hfl; have hltz : ¬ (l0.length : Int) < (l0.length : Int) := by omega
   go_wp2_with fail; refine (gr131.calls (fl : Int) _ (by omega) (by simpa using hl)).mono ?_; rintro e w1 ⟨v1, rfl, hv1, hb1⟩; have HO1 := Aside0.mk hv1; have HB1 := Aside0.mk (below_then BW.out BW.out.size hb1); have HO1' := Aside0.mk (Kd.R_lower HO1.out BW.out.size); clear hv1 hb1 HO1; go_wp2; go_loopg [6, 27] l0.length (fun gg v6 v27 wr => ∃ kk : Nat, kk ≤ l0.length ∧ l0.length - kk ≤ gg ∧ v27 = .int .i64 kk ∧ Aside0 (Kd.R k107 107 wr w.heap.size (fun _ => True) v6 (l0.take kk).flatten) ∧ Aside0 (Below w.heap.size w wr))
   case atStart => exact ⟨0, Nat.zero_le _, by omega, rfl, ⟨HO1'.out⟩, HB1⟩
   case round =>
    clear HO1' HB1 BW; obtain ⟨kk, hkk, hg, rfl, HO, BW⟩ := hrel
    by_cases hlt : kk < l0.length
    ·have hltz : (kk : Int) < (l0.length : Int) := by omega
     have hz0 : (0 : Int) ≤ (kk : Int) := by omega
     obtain ⟨ad, A1, c1, e, hx0, hl1, hC1⟩ := at_L13 (Kd.C_below HR.out BW.out) (kk : Int) hz0 hltz; simp only [Int.toNat_natCast] at hx0
     cases e
     have hft := px_flat_take l0 kk hlt []; have hle := px_flat_le l0 (kk + 1); rw [hft, List.length_append] at hle; rw [show rd_L13 l0 (kk : Int) = l0.getD kk [] from rfl] at hx0 hl1 hC1; generalize l0.getD kk [] = y at *; have HF := Aside0.mk hft; have HLe := Aside0.mk hle; have HC1 := Aside0.mk hC1; clear hft hC1 hle; have hFL := HFL.out; clear HFL; go_wp2_with (first | ((with_reducible refine gate_dst (N := 33) rfl ?_); refine Kd.R_append_rows k107 (Rr := k107.K wr) (w0 := w) w.heap.size (by rfl) (.tmp 31) (.tmp 32) 55 107 (.agg #[(.string ⟨#[]⟩), (.string ⟨#[]⟩)]) 32 rfl Try.underlying55 info107 rfl (by decide) (by omega) _ (l0.take kk).flatten y _ _ _ (fun _ => True) (fun _ => False) rfl rfl HO.out HC1.out (fun x cs h => by rw [k107_open h]; exact k107_mkM _ _ _ _) (fun _ h => h.elim) (fun _ _ => trivial) BW.out BW.out.size ?aL ?_; (case aL => have := HLe.out; omega); intro v7 w7 ho7 hb7 hg_ hnew_; clear hg_ hnew_; have HO7 := Aside0.mk ho7; have HB7 := Aside0.mk hb7; clear ho7 hb7)); go_roundg (l0.length - (kk + 1))
     case measure => omega
     case rel => exact ⟨kk + 1, by omega, by omega, by go_num, ⟨by rw [HF.out]; exact HO7.out⟩, HB7⟩
    ·have : kk = l0.length := by omega
     subst this; have hltz : ¬ (l0.length : Int) < (l0.length : Int) := by omega
     go_wp2; go_ret; exact ⟨_, rfl, by have h := HO.out; rwa [List.take_length] at h, BW.out⟩

/-! ### impl_turn: function 85 -/
def impl_turn.l0 : Nat → ByteArray → List (S107) → Int → Int → Option (ByteArray)
 | 0, _, _, _, _ => none
 | k + 1, x1, x7, x8, x9 => if x9 < x8 then (if 0 ≤ x9 then (if x9 < (x7.length : Int) then (if ((rd_T107 x7 x9).f0).toList = x1.toList then (some ((rd_T107 x7 x9).f1)) else (impl_turn.l0 k x1 x7 x8 (wrap64 (x9 + 1)))) else (none)) else (none)) else (some x1)
def impl_turn.f (k : Nat) (l0 : List (S107)) (a1 : ByteArray) : Option (ByteArray) := impl_turn.l0 k a1 l0 (l0.length : Int) 0
theorem impl_turn.mono_l : ∀ k, (∀ y0 y1 y2 y3, LeO (impl_turn.l0 k y0 y1 y2 y3) (impl_turn.l0 (k + 1) y0 y1 y2 y3))
 | 0 => fun _ _ _ _ r h => by simp [impl_turn.l0] at h
 | k + 1 => by
  have ih0 := impl_turn.mono_l k
  ·intro y0 y1 y2 y3; unfold impl_turn.l0
   repeat' first
   | (with_reducible exact ih0 _ _ _ _)
   | (with_reducible exact LeO.refl _)
   | (with_reducible exact LeO.none _)
   | (with_reducible refine LeO.ite ?_ ?_)
   | (with_reducible refine LeO.bind ?_ (fun _ => ?_))
   | exact ih0 _ _ _ _
   | exact LeO.none _
   | refine LeO.ite ?_ ?_
   | refine LeO.bind ?_ (fun _ => ?_)
theorem impl_turn.mono : ∀ a0 a1 k, LeO (impl_turn.f k a0 a1) (impl_turn.f (k + 1) a0 a1) := by
 intro a0 a1 k; have ih0 := impl_turn.mono_l k; unfold impl_turn.f
 repeat' first
   | (with_reducible exact ih0 _ _ _ _)
   | (with_reducible exact LeO.refl _)
   | (with_reducible exact LeO.none _)
   | (with_reducible refine LeO.ite ?_ ?_)
   | (with_reducible refine LeO.bind ?_ (fun _ => ?_))
   | exact ih0 _ _ _ _
   | exact LeO.none _
   | refine LeO.ite ?_ ?_
   | refine LeO.bind ?_ (fun _ => ?_)
set_option maxHeartbeats 8000000 in
set_option maxRecDepth 100000 in
theorem impl_turn.calls (k : Nat) (A0 : Option Addr) (c0 : Nat) (l0 : List (S107)) (a1 : ByteArray) (r : ByteArray) (w : World) (hr0 : Kd.C k107 w A0 l0.length l0) (hc0 : l0.length ≤ c0) (h : impl_turn.f k l0 a1 = some r) :
  Calls Try.prog 85 #[.slice A0 l0.length c0, .string a1] w fun e w' => e = .returned (.string r) ∧ Below w.heap.size w w' := by
 have hu107 := Try.underlying107; have HR0 := Aside0.mk hr0; have HC0 := Aside0.mk hc0; clear hr0 hc0; have HB := Aside0.mk (Below.refl w.heap.size w); have H : (impl_turn.l0 k a1 l0 (l0.length : Int) 0) = some r := h; clear h; have H' := Aside0.mk H; clear H; go_enter Try.func85, Try.ntmps85; go_wp2; go_loopg [9] k (fun kq v9 w' => ∃ (x9_1 : Int), v9 = .int .i64 x9_1 ∧ Aside0 (impl_turn.l0 kq a1 l0 (l0.length : Int) x9_1 = some r) ∧ Aside0 (kq ≤ k) ∧ Aside0 (Below w.heap.size w w'))
 case atStart => exact ⟨(0), zr, H', ⟨Nat.le_refl _⟩, ⟨zB HB⟩⟩
 case round =>
  clear H'; (try clear p2); obtain ⟨x9_1, rfl, HA, HK1, HB⟩ := hrel
  cases gk with
  | zero => exact absurd HA.out (by simp [impl_turn.l0])
  | succ k1 =>
   have H := HA.out; clear HA; simp only [impl_turn.l0] at H
   by_cases c3 : x9_1 < (l0.length : Int)
   ·rw [if_pos c3] at H; have c3b0 : decide (x9_1 < (l0.length : Int)) = true := decide_eq_true c3; clear c3
    by_cases c4 : 0 ≤ x9_1
    ·rw [if_pos c4] at H; have c4b0 : decide (0 ≤ x9_1) = true := decide_eq_true c4; clear c4
     by_cases c5 : x9_1 < (l0.length : Int)
     ·rw [if_pos c5] at H; have c5b0 : decide (x9_1 < (l0.length : Int)) = true := decide_eq_true c5; clear c5
      by_cases c6 : ((rd_T107 l0 x9_1).f0).toList = a1.toList
      ·rw [if_pos c6] at H; have c6b0 : (((rd_T107 l0 x9_1).f0).toList == a1.toList) = true := beq_iff_eq.mpr c6; have c6b1 : (((rd_T107 l0 x9_1).f0).toList != a1.toList) = false := bne_eq_false_iff_eq.mpr c6; clear c6; obtain rfl := Option.some.inj H; have p770 : 0 ≤ (x9_1 : Int) := of_decide_eq_true za; have q770 : x9_1 < (l0.length : Int) := of_decide_eq_true za; obtain ⟨ad770, e770, hx770_0, hx770_1⟩ := at_T107 HR0.out x9_1 p770 q770
       cases e770
       replace hx770_0 := (HB.out.cell (World.block_lt_of_cell? w _ hx770_0)).trans hx770_0; replace hx770_1 := (HB.out.cell (World.block_lt_of_cell? w _ hx770_1)).trans hx770_1; replace p770 := eq_true p770; replace q770 := eq_true q770; go_wp2_with (first | ((with_reducible refine gate_dst (N := 6) rfl ?_); refine zx (N := 6) (cs := #[.string (⟨#[]⟩ : ByteArray), .string (⟨#[]⟩ : ByteArray)]) (t := 107) ?_; intro gb771 hg w7 hbox hb; have BK771 := Aside0.mk (hbox); have GW771 := Aside0.mk ((by rw [hg]; exact (below_size (zB HB)) : w.heap.size ≤ gb771)); have GE771 := GW771; replace HB := Aside0.mk (below_step (zB HB) hb); clear hb hbox hg; have hcz8_0 : w7.cell? ⟨gb771, 0, none⟩ = some (.string (⟨#[]⟩ : ByteArray)) := (blk_cell BK771.out 0).trans rfl; have hcz8_1 : w7.cell? ⟨gb771, 1, none⟩ = some (.string (⟨#[]⟩ : ByteArray)) := (blk_cell BK771.out 1).trans rfl; have hfz8_0 := blk_frozen BK771.out 0; have hfz8_1 := blk_frozen BK771.out 1)); go_ret; exact ⟨by first | rfl | (simp [errW_none, errW_some] <;> rfl) | (simp [*, errW_none, errW_some] <;> rfl), zB HB⟩
      ·rw [if_neg c6] at H; have c6b0 : (((rd_T107 l0 x9_1).f0).toList == a1.toList) = false := beq_eq_false_iff_ne.mpr c6; have c6b1 : (((rd_T107 l0 x9_1).f0).toList != a1.toList) = true := bne_iff_ne.mpr c6; have H' := Aside0.mk H; clear H; have p770 : 0 ≤ (x9_1 : Int) := of_decide_eq_true za; have q770 : x9_1 < (l0.length : Int) := of_decide_eq_true za; obtain ⟨ad770, e770, hx770_0, hx770_1⟩ := at_T107 HR0.out x9_1 p770 q770
       cases e770
       replace hx770_0 := (HB.out.cell (World.block_lt_of_cell? w _ hx770_0)).trans hx770_0; replace hx770_1 := (HB.out.cell (World.block_lt_of_cell? w _ hx770_1)).trans hx770_1; replace p770 := eq_true p770; replace q770 := eq_true q770; go_wp2_with (first | ((with_reducible refine gate_dst (N := 6) rfl ?_); refine zx (N := 6) (cs := #[.string (⟨#[]⟩ : ByteArray), .string (⟨#[]⟩ : ByteArray)]) (t := 107) ?_; intro gb771 hg w9 hbox hb; have BK771 := Aside0.mk (hbox); have GW771 := Aside0.mk ((by rw [hg]; exact (below_size (zB HB)) : w.heap.size ≤ gb771)); have GE771 := GW771; replace HB := Aside0.mk (below_step (zB HB) hb); clear hb hbox hg; have hcz10_0 : w9.cell? ⟨gb771, 0, none⟩ = some (.string (⟨#[]⟩ : ByteArray)) := (blk_cell BK771.out 0).trans rfl; have hcz10_1 : w9.cell? ⟨gb771, 1, none⟩ = some (.string (⟨#[]⟩ : ByteArray)) := (blk_cell BK771.out 1).trans rfl; have hfz10_0 := blk_frozen BK771.out 0; have hfz10_1 := blk_frozen BK771.out 1)); go_roundg k1
       case measure => have := HK1.out; omega
       case rel => exact ⟨(wrap64 (x9_1 + 1)), zr, H', ⟨by have := HK1.out; omega⟩, ⟨zB HB⟩⟩
     ·rw [if_neg c5] at H; exact absurd H (by simp)
    ·rw [if_neg c4] at H; exact absurd H (by simp)
   ·rw [if_neg c3] at H; have c3b0 : decide (x9_1 < (l0.length : Int)) = false := decide_eq_false c3; clear c3; obtain rfl := Option.some.inj H; go_wp2; go_ret; exact ⟨by first | rfl | (simp [errW_none, errW_some] <;> rfl) | (simp [*, errW_none, errW_some] <;> rfl), zB HB⟩

/-! ### impl_Turn_86: function 86 (a contract of our own) -/
def impl_Turn_86.f (l0 : List (S107)) : Option (List (S107)) := some l0
set_option maxHeartbeats 8000000 in
set_option maxRecDepth 100000 in
theorem impl_Turn_86.calls (P0_ : Nat → Prop) (u9000_ : Value) (l0 : List (S107)) (r : List (S107)) (w0 w : World) (hB : Below w0.heap.size w0 w) (ho0 : Kd.R k107 107 w w0.heap.size P0_ u9000_ l0) (h : impl_Turn_86.f l0 = some r) :
  Calls Try.prog 86 #[u9000_] w fun e w' => ∃ v0_ : Value, e = .returned (v0_) ∧ Kd.R k107 107 w' w0.heap.size (fun k_ => (P0_ k_ ∨ w.heap.size ≤ k_)) v0_ r ∧ Below w0.heap.size w0 w' ∧ Kept w w' (fun k_ => P0_ k_) := by
 obtain rfl := Option.some.inj h; clear h; obtain ⟨A0, c0, rfl⟩ := Kd.R_slice ho0; obtain ⟨_, hl, hC⟩ := Kd.R_reads' ho0; have hbig : l0.length ≤ 9223372036854775807 := hC.2.1; have HO := Aside0.mk ho0; have HB := Aside0.mk hB; clear ho0 hB hC; go_enter Try.func86, Try.ntmps86; go_wp2; go_ret; exact ⟨_, rfl, Kd.R_mono (Kd.R_clip HO.out (Nat.le_refl _) hl) (fun _ h => .inl h), HB.out, Kept.refl _ _⟩

end Go.Proofs.Ytfcpbgedgedalaa.Q

namespace Go.Proofs.Ytfcpbgedgedalaa.Q
open Go.RowKit Go.Proofs.YtfcpbgedgedalaaL.PrintWords Go.Proofs.YtfcpbgedgedalaaL.PrintLast Go.Proofs.YtfcpbgedgedalaaL.PrintMore
attribute [local go_sem] max2_int min2_int max_two min_two max_three min_three max_four min_four   -- for this text's walks alone
set_option linter.unusedVariables false
set_option linter.unusedSimpArgs false

def thenL (k : Nat) (l0 l1 cc : List S107) : Nat → Nat → List S107 → Option (List S107)
 | 0, _, acc => some acc
 | d + 1, i, acc => if (decide (l0.length ≤ i) && l0.any (fun u : S107 => u.f0.toList == (cc.getD i z107).f0.toList)) = true then thenL k l0 l1 cc d (i + 1) acc else
   (impl_turn.f k l0 (cc.getD i z107).f0).bind fun t1 => (impl_turn.f k l1 t1).bind fun t2 => if (t2.toList == (cc.getD i z107).f0.toList) = true then thenL k l0 l1 cc d (i + 1) acc else
    if acc.length < 4398046511104 then thenL k l0 l1 cc d (i + 1) (acc ++ [⟨(cc.getD i z107).f0, t2⟩]) else none
theorem cat_C {w : World} {A0 A1 : Option Addr} {c0 c1 : Nat} {l0 l1 : List S107} (e : TypeId) (h0 : Kd.C k107 w A0 l0.length l0) (h1 : Kd.C k107 w A1 l1.length l1) (g0 : l0.length ≤ c0) (g1 : l1.length ≤ c1) :
  Kd.C (Kd.slice 107 k107) (w.alloc (.cells #[.slice A0 l0.length c0, .slice A1 l1.length c1] e (0, 0))) (some ⟨w.heap.size, 0, none⟩) ([l0, l1] : List (List S107)).length [l0, l1] := by
 refine ⟨rfl, by simp, fun _ => ⟨_, rfl, fun j p hj => ?_⟩⟩
 match j, hj with
 | 0, hj =>
  cases hj
  refine ⟨[.slice A0 l0.length c0], rfl, ⟨A0, c0, rfl, g0, Kd.C_alloc h0 _⟩, fun i u hu => ?_⟩
  match i, hu with
  | 0, hu => cases hu; exact (blk_cell (blk_new w _) 0).trans rfl
 | 1, hj =>
  cases hj
  refine ⟨[.slice A1 l1.length c1], rfl, ⟨A1, c1, rfl, g1, Kd.C_alloc h1 _⟩, fun i u hu => ?_⟩
  match i, hu with
  | 0, hu => cases hu; exact (blk_cell (blk_new w _) 1).trans rfl
set_option maxHeartbeats 8000000 in
set_option maxRecDepth 100000 in
theorem then_pred84 (a1 a2 : ByteArray) (B : Nat) (w : World) (hc : w.cell? ⟨B, 0, none⟩ = some (.string a1)) :
  PxPred Try.prog 84 #[.pointer (some ⟨B, 0, none⟩)] (fun x : S107 => .agg #[.string x.f0, .string x.f1]) (fun x : S107 => x.f0.toList == a1.toList) w := by
 intro W x hb; have hc' := px_cell hb hc; have hB' : B < W.heap.size := World.block_lt_of_cell? W _ hc'; clear hc
 show Calls Try.prog 84 #[.agg #[.string x.f0, .string x.f1], .pointer (some ⟨B, 0, none⟩)] W _
 have hu107 := Try.underlying107; go_enter Try.func84, Try.ntmps84; go_wp2; go_ret; exact ⟨rfl, px_alloc _ _⟩
theorem thenL.mono (l0 l1 cc : List S107) : ∀ (d i : Nat) (acc : List S107) (k : Nat), LeO (thenL k l0 l1 cc d i acc) (thenL (k + 1) l0 l1 cc d i acc)
 | 0, _, _, _ => LeO.refl _
 | d + 1, i, acc, k => by
  rw [thenL, thenL]; exact LeO.ite (thenL.mono l0 l1 cc d _ _ _) (LeO.bind (impl_turn.mono _ _ _) (fun _ => LeO.bind (impl_turn.mono _ _ _) (fun _ => LeO.ite (thenL.mono l0 l1 cc d _ _ _) (LeO.ite (thenL.mono l0 l1 cc d _ _ _) (LeO.refl _)))))
/-! ### impl_ThenTurn: function 36 (a contract of our own) -/
def impl_ThenTurn.f (k : Nat) (l0 : List (S107)) (l1 : List (S107)) : Option ((List (S107)) × Bool) := (impl_ValidTurns.f l0).bind fun v0 => if v0 = true then ((impl_ValidTurns.f l1).bind fun v1 => if v1 = true then ((impl_Turn_82.f [l0, l1]).bind fun cc => (thenL k l0 l1 cc cc.length 0 []).bind fun out => (impl_ValidTurns.f out).bind fun v => if v = true then some (out, true) else some ([], false)) else some ([], false)) else some ([], false)
theorem impl_ThenTurn.mono : ∀ a0 a1 k, LeO (impl_ThenTurn.f k a0 a1) (impl_ThenTurn.f (k + 1) a0 a1) := fun a0 a1 k => LeO.bind (LeO.refl _) (fun _ => LeO.ite (LeO.bind (LeO.refl _) (fun _ => LeO.ite (LeO.bind (LeO.refl _) (fun _ => LeO.bind (thenL.mono _ _ _ _ _ _ _) (fun _ => LeO.refl _))) (LeO.refl _))) (LeO.refl _))
set_option maxHeartbeats 8000000 in
set_option maxRecDepth 100000 in
theorem impl_ThenTurn.calls (k : Nat) (A0 : Option Addr) (c0 : Nat) (l0 : List (S107)) (A1 : Option Addr) (c1 : Nat) (l1 : List (S107)) (r1 : List (S107)) (r2 : Bool) (w : World) (hr0 : Kd.C k107 w A0 l0.length l0) (hc0 : l0.length ≤ c0) (hr1 : Kd.C k107 w A1 l1.length l1) (hc1 : l1.length ≤ c1) (h : impl_ThenTurn.f k l0 l1 = some (r1, r2)) :
  Calls Try.prog 36 #[.slice A0 l0.length c0, .slice A1 l1.length c1] w fun e w' => ∃ v0_ : Value, e = .returned (.tuple #[v0_, .bool r2]) ∧ Kd.R k107 107 w' w.heap.size (fun _ => True) v0_ r1 ∧ Below w.heap.size w w' := by
 have hu107 := Try.underlying107; have HR0 := Aside0.mk hr0; have HC0 := Aside0.mk hc0; have HR1 := Aside0.mk hr1; have HC1 := Aside0.mk hc1; clear hr0 hc0 hr1 hc1; have HB := Aside0.mk (Below.refl w.heap.size w); unfold impl_ThenTurn.f at h; replace h := Option.bind_eq_some_iff.mp h; obtain ⟨v0, A110, h⟩ := h; have A11 := Aside0.mk A110
 cases v0 with
 | false =>
  obtain ⟨rfl, rfl⟩ : [] = r1 ∧ false = r2 := by simpa using h
  clear h A110; go_enter Try.func36, Try.ntmps36; go_wp2_with fail; refine (impl_ValidTurns.calls _ _ l0 false _ HR0.out HC0.out A11.out).mono ?_; rintro e w1 ⟨rfl, hb⟩; have HB1 := Aside0.mk hb; clear hb; go_wp2; go_ret2; exact ⟨_, rfl, Kd.R_nil _ _ _ _ _, HB1.out⟩
 | true =>
  rw [if_pos rfl] at h; replace h := Option.bind_eq_some_iff.mp h; obtain ⟨v1, A150, h⟩ := h; have A15 := Aside0.mk A150
  cases v1 with
  | false =>
   obtain ⟨rfl, rfl⟩ : [] = r1 ∧ false = r2 := by simpa using h
   clear h A110 A150; go_enter Try.func36, Try.ntmps36; go_wp2_with fail; refine (impl_ValidTurns.calls _ _ l0 true _ HR0.out HC0.out A11.out).mono ?_; rintro e w1 ⟨rfl, hb⟩; have HB1 := Aside0.mk hb; clear hb; go_wp2_with fail; refine (impl_ValidTurns.calls _ _ l1 false _ (Kd.C_below HR1.out HB1.out) HC1.out A15.out).mono ?_; rintro e w2 ⟨rfl, hb⟩; have HB2 := Aside0.mk (below_step HB1.out hb); clear hb; go_wp2; go_ret2; exact ⟨_, rfl, Kd.R_nil _ _ _ _ _, HB2.out⟩
  | true =>
   rw [if_pos rfl] at h; replace h := Option.bind_eq_some_iff.mp h; obtain ⟨cc, A210, h⟩ := h; have A21 := Aside0.mk A210; replace h := Option.bind_eq_some_iff.mp h; obtain ⟨out, A300, h⟩ := h; have A30 := Aside0.mk A300; replace h := Option.bind_eq_some_iff.mp h; obtain ⟨v, A560, h⟩ := h; have A56 := Aside0.mk A560; have HH := Aside0.mk h; clear h A110 A150 A210 A300 A560; go_enter Try.func36, Try.ntmps36; go_wp2_with fail; refine (impl_ValidTurns.calls _ _ l0 true _ HR0.out HC0.out A11.out).mono ?_; rintro e w1 ⟨rfl, hb⟩; have HB1 := Aside0.mk hb; clear hb; go_wp2_with fail; refine (impl_ValidTurns.calls _ _ l1 true _ (Kd.C_below HR1.out HB1.out) HC1.out A15.out).mono ?_; rintro e w2 ⟨rfl, hb⟩; have HB2 := Aside0.mk (below_step HB1.out hb); clear hb HB1; go_wp2_with fail; refine (impl_Turn_82.calls _ 2 [l0, l1] cc _ (cat_C _ (Kd.C_below HR0.out HB2.out) (Kd.C_below HR1.out HB2.out) HC0.out HC1.out) (by simp) A21.out).mono ?_; rintro e w3 ⟨v3, rfl, ho, hb⟩; have HB3 := Aside0.mk (below_then HB2.out HB2.out.size (below_then (px_alloc _ _) (by simp) hb)); clear hb HB2; obtain ⟨A3, c3, e3⟩ := Kd.R_slice ho; subst e3; have HRc := Aside0.mk (Kd.R_reads' ho).2.2; have hbig : cc.length ≤ 9223372036854775807 := (Kd.R_reads' ho).2.2.2.1; clear ho; have eg := px_enters Try.func84 (by kernel_rfl) rfl; go_wp2_with fail; go_loopg [6, 23] cc.length (fun gg s6 s23 wr => ∃ (kk : Nat) (acc : List S107), kk ≤ cc.length ∧ cc.length - kk ≤ gg ∧ s23 = .int .i64 kk ∧ Aside0 (Kd.R k107 107 wr w3.heap.size (fun _ => True) s6 acc) ∧ Aside0 (Below w3.heap.size w3 wr) ∧ Aside0 (thenL k l0 l1 cc (cc.length - kk) kk acc = some out))
   case atStart => exact ⟨0, [], Nat.zero_le _, by omega, rfl, ⟨Kd.R_nil _ _ _ _ _⟩, ⟨Below.refl _ _⟩, A30⟩
   case round =>
    obtain ⟨kk, acc, hkk, hg, rfl, HO, BW, HL⟩ := hrel
    by_cases hlt : kk < cc.length
    ·have hltz : (kk : Int) < (cc.length : Int) := by omega
     have hz0 : (0 : Int) ≤ (kk : Int) := by omega
     obtain ⟨d, hd⟩ : ∃ d, cc.length - kk = d + 1 := ⟨cc.length - kk - 1, by omega⟩
     have hl := HL.out; rw [hd, thenL] at hl; obtain ⟨ad, e, hx0, hx1⟩ := at_T107 (Kd.C_below HRc.out BW.out) (kk : Int) hz0 hltz
     cases e
     simp only [Int.toNat_natCast] at hx0 hx1; have E : rd_T107 cc (kk : Int) = cc.getD kk z107 := rfl; rw [E] at hx0 hx1; generalize cc.getD kk z107 = y at hx0 hx1 hl; have HH2 := Aside0.mk hl; have HD := Aside0.mk hd; clear hl E hd; go_upto_region 7 with (first | ((with_reducible refine gate_dst (N := 8) rfl ?_); refine zx (N := 8) (cs := #[.string ⟨#[]⟩, .string ⟨#[]⟩]) (t := 107) ?_; intro gb8 hg8 w4 hbox hb; have BK8 := Aside0.mk hbox; have GE8 := Aside0.mk ((by rw [hg8]; exact BW.out.size : w3.heap.size ≤ gb8)); replace HO := Aside0.mk (Kd.R_below (Kd.R_elderB HO.out gb8 (by rw [hg8]; exact Nat.le_refl _)) hb); replace BW := Aside0.mk (below_then BW.out BW.out.size hb); clear hb hbox hg8; have hce0 : w4.cell? ⟨gb8, 0, none⟩ = some (.string ⟨#[]⟩) := (blk_cell BK8.out 0).trans rfl; have hfe0 : w4.frozen? ⟨gb8, 0, none⟩ = false := blk_frozen BK8.out 0; have hce1 : w4.cell? ⟨gb8, 1, none⟩ = some (.string ⟨#[]⟩) := (blk_cell BK8.out 1).trans rfl; have hfe1 : w4.frozen? ⟨gb8, 1, none⟩ = false := blk_frozen BK8.out 1))
     have n0_ : Aside0 (Kd.R k107 107 ((w4.setCell ⟨gb8, 0, none⟩ (.string y.f0)).setCell ⟨gb8, 1, none⟩ (.string y.f1)) w3.heap.size (fun _ => True) _ acc) := ⟨Kd.R_mono (Kd.R_far (p := ⟨gb8, 1, none⟩) (Kd.R_far (p := ⟨gb8, 0, none⟩) HO.out (fun _ hk => hk.2) (.string y.f0)) (fun _ hk => hk.2) (.string y.f1)) (fun _ _ => trivial)⟩
     have n1_ : Aside0 (((w4.setCell ⟨gb8, 0, none⟩ (.string y.f0)).setCell ⟨gb8, 1, none⟩ (.string y.f1)).heap[gb8]? = some (.cells #[.string y.f0, .string y.f1] 107 (0, 0))) := ⟨by refine blk_put (cs := #[.string y.f0, .string ⟨#[]⟩]) ?_ 1 _ rfl; refine blk_put (cs := #[.string ⟨#[]⟩, .string ⟨#[]⟩]) ?_ 0 _ rfl; exact BK8.out⟩
     have n2_ : Aside0 (Below w3.heap.size w3 ((w4.setCell ⟨gb8, 0, none⟩ (.string y.f0)).setCell ⟨gb8, 1, none⟩ (.string y.f1))) := ⟨zB BW⟩
     clear HO BK8 BW hce0 hce1 hfe0 hfe1 hx0 hx1; generalize ((w4.setCell ⟨gb8, 0, none⟩ (.string y.f0)).setCell ⟨gb8, 1, none⟩ (.string y.f1)) = w5 at n0_ n1_ n2_ ⊢; have HO := n0_; have BK8 := n1_; have BW := n2_; clear n0_ n1_ n2_; have HB5 := Aside0.mk (below_then HB3.out HB3.out.size BW.out); have hcf_0 : w5.cell? ⟨gb8, 0, none⟩ = some (.string y.f0) := (blk_cell BK8.out 0).trans rfl; have hff_0 := blk_frozen BK8.out 0; have hl := HH2.out; clear HH2
     cases hq : (decide (l0.length ≤ kk) && l0.any (fun u : S107 => u.f0.toList == y.f0.toList)) with
     | true =>
      rw [hq, if_pos rfl] at hl; obtain ⟨g1, g2⟩ := (Bool.and_eq_true _ _ ▸ hq : _ ∧ _)
      have g1 := of_decide_eq_true g1; have HL2 := Aside0.mk hl; have HANY := Aside0.mk g2; clear hl hq g2; have gz : (l0.length : Int) ≤ (kk : Int) := by omega
      go_wp2_with fail; refine (cf83.calls (fun x : S107 => x.f0.toList == y.f0.toList) 84 _ eg A0 c0 l0 _ (then_pred84 y.f0 y.f1 gb8 _ hcf_0) (Kd.C_below HR0.out HB5.out)).mono ?_; rintro e w6 ⟨rfl, hb⟩; rw [HANY.out]; replace HO := Aside0.mk (Kd.R_below HO.out hb); replace BW := Aside0.mk (below_then BW.out BW.out.size hb); clear hb hcf_0 hff_0; go_wp2; go_roundg (cc.length - (kk + 1))
      case measure => have := HD.out; omega
      case rel => exact ⟨kk + 1, acc, by omega, by omega, by go_num, HO, BW, ⟨by have := HL2.out; rwa [show cc.length - (kk + 1) = d by have := HD.out; omega]⟩⟩
     | false =>
      rw [hq, if_neg (by decide)] at hl; replace hl := Option.bind_eq_some_iff.mp hl; obtain ⟨t1, B10, hl⟩ := hl; have B1 := Aside0.mk B10; replace hl := Option.bind_eq_some_iff.mp hl; obtain ⟨t2, B20, hl⟩ := hl; have B2 := Aside0.mk B20; have HL2 := Aside0.mk hl; have HQ := Aside0.mk hq; clear hl hq B10 B20
      by_cases g1 : l0.length ≤ kk
      ·have HANY : Aside0 (l0.any (fun u : S107 => u.f0.toList == y.f0.toList) = false) := ⟨by have := HQ.out; rw [decide_eq_true g1, Bool.true_and] at this; exact this⟩
       have gz : (l0.length : Int) ≤ (kk : Int) := by omega
       go_wp2_with fail; refine (cf83.calls (fun x : S107 => x.f0.toList == y.f0.toList) 84 _ eg A0 c0 l0 _ (then_pred84 y.f0 y.f1 gb8 _ hcf_0) (Kd.C_below HR0.out HB5.out)).mono ?_; rintro e w6 ⟨rfl, hb⟩; rw [HANY.out]; replace HO := Aside0.mk (Kd.R_below (zo HO) hb); replace BK8 := Aside0.mk (blk_below (g := gb8) (o := .cells #[.string y.f0, .string y.f1] 107 (0, 0)) (zb BK8) hb); replace BW := Aside0.mk (below_step (zB BW) hb); replace HB5 := Aside0.mk (below_step (zB HB5) hb); clear hb; have hcf_w6 : w6.cell? ⟨gb8, 0, none⟩ = some (.string y.f0) := (blk_cell BK8.out 0).trans rfl; have hff_w6 : w6.frozen? ⟨gb8, 0, none⟩ = false := blk_frozen BK8.out 0
       cases hc : (t2.toList == y.f0.toList) with
       | true =>
        have hl := HL2.out; rw [hc, if_pos rfl] at hl; have HL3 := Aside0.mk hl; clear hl; have hc' : (t2.toList != y.f0.toList) = false := by rw [bne, hc]; rfl
        go_wp2_with (first | ((with_reducible refine gate_callee (f := 85) rfl ?_); refine goesL_ (some 41) rfl rfl Try.func85 (by kernel_rfl) rfl #[.slice A0 l0.length c0, .string y.f0] rfl zl ?_; (with_reducible refine (impl_turn.calls k _ _ l0 y.f0 t1 _ ?side1 ?side2 B1.out).mono ?_); (case side1 => exact (Kd.C_below HR0.out (zB HB5))); (case side2 => exact HC0.out); rintro e w7 ⟨rfl, hb⟩; refine ⟨_, rfl, ?_⟩; replace HO := Aside0.mk (Kd.R_below (zo HO) hb); replace BK8 := Aside0.mk (blk_below (g := gb8) (o := .cells #[.string y.f0, .string y.f1] 107 (0, 0)) (zb BK8) hb); replace BW := Aside0.mk (below_step (zB BW) hb); replace HB5 := Aside0.mk (below_step (zB HB5) hb); clear hb; have hcf_w7 : w7.cell? ⟨gb8, 0, none⟩ = some (.string y.f0) := (blk_cell BK8.out 0).trans rfl; have hff_w7 : w7.frozen? ⟨gb8, 0, none⟩ = false := blk_frozen BK8.out 0) | ((with_reducible refine gate_callee (f := 85) rfl ?_); refine goesL_ (some 42) rfl rfl Try.func85 (by kernel_rfl) rfl #[.slice A1 l1.length c1, .string t1] rfl zl ?_; (with_reducible refine (impl_turn.calls k _ _ l1 t1 t2 _ ?side1 ?side2 B2.out).mono ?_); (case side1 => exact (Kd.C_below HR1.out (zB HB5))); (case side2 => exact HC1.out); rintro e w8 ⟨rfl, hb⟩; refine ⟨_, rfl, ?_⟩; replace HO := Aside0.mk (Kd.R_below (zo HO) hb); replace BK8 := Aside0.mk (blk_below (g := gb8) (o := .cells #[.string y.f0, .string y.f1] 107 (0, 0)) (zb BK8) hb); replace BW := Aside0.mk (below_step (zB BW) hb); replace HB5 := Aside0.mk (below_step (zB HB5) hb); clear hb; have hcf_w8 : w8.cell? ⟨gb8, 0, none⟩ = some (.string y.f0) := (blk_cell BK8.out 0).trans rfl; have hff_w8 : w8.frozen? ⟨gb8, 0, none⟩ = false := blk_frozen BK8.out 0)); go_roundg (cc.length - (kk + 1))
        case measure => have := HD.out; omega
        case rel => exact ⟨kk + 1, acc, by omega, by omega, by go_num, ⟨zo HO⟩, ⟨zB BW⟩, ⟨by have := HL3.out; rwa [show cc.length - (kk + 1) = d by have := HD.out; omega]⟩⟩
       | false =>
        have hl := HL2.out; rw [hc, if_neg (by decide)] at hl
        by_cases hm : acc.length < 4398046511104
        rotate_left
        ·rw [if_neg hm] at hl; cases hl
        rw [if_pos hm] at hl; have HL3 := Aside0.mk hl; have LM := Aside0.mk hm; clear hl hm; have hc' : (t2.toList != y.f0.toList) = true := by rw [bne, hc]; rfl
        go_wp2_with (first | ((with_reducible refine gate_callee (f := 85) rfl ?_); refine goesL_ (some 41) rfl rfl Try.func85 (by kernel_rfl) rfl #[.slice A0 l0.length c0, .string y.f0] rfl zl ?_; (with_reducible refine (impl_turn.calls k _ _ l0 y.f0 t1 _ ?side1 ?side2 B1.out).mono ?_); (case side1 => exact (Kd.C_below HR0.out (zB HB5))); (case side2 => exact HC0.out); rintro e w7 ⟨rfl, hb⟩; refine ⟨_, rfl, ?_⟩; replace HO := Aside0.mk (Kd.R_below (zo HO) hb); replace BK8 := Aside0.mk (blk_below (g := gb8) (o := .cells #[.string y.f0, .string y.f1] 107 (0, 0)) (zb BK8) hb); replace BW := Aside0.mk (below_step (zB BW) hb); replace HB5 := Aside0.mk (below_step (zB HB5) hb); clear hb; have hcf_w7 : w7.cell? ⟨gb8, 0, none⟩ = some (.string y.f0) := (blk_cell BK8.out 0).trans rfl; have hff_w7 : w7.frozen? ⟨gb8, 0, none⟩ = false := blk_frozen BK8.out 0) | ((with_reducible refine gate_callee (f := 85) rfl ?_); refine goesL_ (some 42) rfl rfl Try.func85 (by kernel_rfl) rfl #[.slice A1 l1.length c1, .string t1] rfl zl ?_; (with_reducible refine (impl_turn.calls k _ _ l1 t1 t2 _ ?side1 ?side2 B2.out).mono ?_); (case side1 => exact (Kd.C_below HR1.out (zB HB5))); (case side2 => exact HC1.out); rintro e w8 ⟨rfl, hb⟩; refine ⟨_, rfl, ?_⟩; replace HO := Aside0.mk (Kd.R_below (zo HO) hb); replace BK8 := Aside0.mk (blk_below (g := gb8) (o := .cells #[.string y.f0, .string y.f1] 107 (0, 0)) (zb BK8) hb); replace BW := Aside0.mk (below_step (zB BW) hb); replace HB5 := Aside0.mk (below_step (zB HB5) hb); clear hb; have hcf_w8 : w8.cell? ⟨gb8, 0, none⟩ = some (.string y.f0) := (blk_cell BK8.out 0).trans rfl; have hff_w8 : w8.frozen? ⟨gb8, 0, none⟩ = false := blk_frozen BK8.out 0) | ((with_reducible refine gate_builtin (b := .append) (xs := #[.tmp 47, .tmp 52]) rfl ?_); at_builtin; refine Kd.R_append k107 (w0 := w3) w3.heap.size rfl (.tmp 47) (.tmp 52) 55 107 (.agg #[(.string ⟨#[]⟩), (.string ⟨#[]⟩)]) 32 rfl Try.underlying55 info107 rfl (by decide) (by omega) _ acc (⟨y.f0, t2⟩ : S107) [.string y.f0, .string t2] (fun _ => True) (fun _ => False) rfl rfl ?aP (fun _ hk => hk.elim) ?aF ?aO ?aB ?aS ?aL ?_; (case aP => exact k107_mkM _ _ _ (⟨y.f0, t2⟩ : S107)); (case aB => exact (zB BW)); (case aF => exact (fun _ _ => trivial)); (case aO => exact (zo HO)); (case aS => exact BW.out.size); (case aL => have := LM.out; omega); intro v9 w9 ho hb hg hat; replace HO := Aside0.mk ho; replace BW := Aside0.mk hb; clear ho hb hg hat)); go_roundg (cc.length - (kk + 1))
        case measure => have := HD.out; omega
        case rel => exact ⟨kk + 1, acc ++ [⟨y.f0, t2⟩], by omega, by omega, by go_num, ⟨zo HO⟩, ⟨zB BW⟩, ⟨by have := HL3.out; rwa [show cc.length - (kk + 1) = d by have := HD.out; omega]⟩⟩
      ·have gz : ¬ (l0.length : Int) ≤ (kk : Int) := by omega
       cases hc : (t2.toList == y.f0.toList) with
       | true =>
        have hl := HL2.out; rw [hc, if_pos rfl] at hl; have HL3 := Aside0.mk hl; clear hl; have hc' : (t2.toList != y.f0.toList) = false := by rw [bne, hc]; rfl
        go_wp2_with (first | ((with_reducible refine gate_callee (f := 85) rfl ?_); refine goesL_ (some 41) rfl rfl Try.func85 (by kernel_rfl) rfl #[.slice A0 l0.length c0, .string y.f0] rfl zl ?_; (with_reducible refine (impl_turn.calls k _ _ l0 y.f0 t1 _ ?side1 ?side2 B1.out).mono ?_); (case side1 => exact (Kd.C_below HR0.out (zB HB5))); (case side2 => exact HC0.out); rintro e w7 ⟨rfl, hb⟩; refine ⟨_, rfl, ?_⟩; replace HO := Aside0.mk (Kd.R_below (zo HO) hb); replace BK8 := Aside0.mk (blk_below (g := gb8) (o := .cells #[.string y.f0, .string y.f1] 107 (0, 0)) (zb BK8) hb); replace BW := Aside0.mk (below_step (zB BW) hb); replace HB5 := Aside0.mk (below_step (zB HB5) hb); clear hb; have hcf_w7 : w7.cell? ⟨gb8, 0, none⟩ = some (.string y.f0) := (blk_cell BK8.out 0).trans rfl; have hff_w7 : w7.frozen? ⟨gb8, 0, none⟩ = false := blk_frozen BK8.out 0) | ((with_reducible refine gate_callee (f := 85) rfl ?_); refine goesL_ (some 42) rfl rfl Try.func85 (by kernel_rfl) rfl #[.slice A1 l1.length c1, .string t1] rfl zl ?_; (with_reducible refine (impl_turn.calls k _ _ l1 t1 t2 _ ?side1 ?side2 B2.out).mono ?_); (case side1 => exact (Kd.C_below HR1.out (zB HB5))); (case side2 => exact HC1.out); rintro e w8 ⟨rfl, hb⟩; refine ⟨_, rfl, ?_⟩; replace HO := Aside0.mk (Kd.R_below (zo HO) hb); replace BK8 := Aside0.mk (blk_below (g := gb8) (o := .cells #[.string y.f0, .string y.f1] 107 (0, 0)) (zb BK8) hb); replace BW := Aside0.mk (below_step (zB BW) hb); replace HB5 := Aside0.mk (below_step (zB HB5) hb); clear hb; have hcf_w8 : w8.cell? ⟨gb8, 0, none⟩ = some (.string y.f0) := (blk_cell BK8.out 0).trans rfl; have hff_w8 : w8.frozen? ⟨gb8, 0, none⟩ = false := blk_frozen BK8.out 0)); go_roundg (cc.length - (kk + 1))
        case measure => have := HD.out; omega
        case rel => exact ⟨kk + 1, acc, by omega, by omega, by go_num, ⟨zo HO⟩, ⟨zB BW⟩, ⟨by have := HL3.out; rwa [show cc.length - (kk + 1) = d by have := HD.out; omega]⟩⟩
       | false =>
        have hl := HL2.out; rw [hc, if_neg (by decide)] at hl
        by_cases hm : acc.length < 4398046511104
        rotate_left
        ·rw [if_neg hm] at hl; cases hl
        rw [if_pos hm] at hl; have HL3 := Aside0.mk hl; have LM := Aside0.mk hm; clear hl hm; have hc' : (t2.toList != y.f0.toList) = true := by rw [bne, hc]; rfl
        go_wp2_with (first | ((with_reducible refine gate_callee (f := 85) rfl ?_); refine goesL_ (some 41) rfl rfl Try.func85 (by kernel_rfl) rfl #[.slice A0 l0.length c0, .string y.f0] rfl zl ?_; (with_reducible refine (impl_turn.calls k _ _ l0 y.f0 t1 _ ?side1 ?side2 B1.out).mono ?_); (case side1 => exact (Kd.C_below HR0.out (zB HB5))); (case side2 => exact HC0.out); rintro e w7 ⟨rfl, hb⟩; refine ⟨_, rfl, ?_⟩; replace HO := Aside0.mk (Kd.R_below (zo HO) hb); replace BK8 := Aside0.mk (blk_below (g := gb8) (o := .cells #[.string y.f0, .string y.f1] 107 (0, 0)) (zb BK8) hb); replace BW := Aside0.mk (below_step (zB BW) hb); replace HB5 := Aside0.mk (below_step (zB HB5) hb); clear hb; have hcf_w7 : w7.cell? ⟨gb8, 0, none⟩ = some (.string y.f0) := (blk_cell BK8.out 0).trans rfl; have hff_w7 : w7.frozen? ⟨gb8, 0, none⟩ = false := blk_frozen BK8.out 0) | ((with_reducible refine gate_callee (f := 85) rfl ?_); refine goesL_ (some 42) rfl rfl Try.func85 (by kernel_rfl) rfl #[.slice A1 l1.length c1, .string t1] rfl zl ?_; (with_reducible refine (impl_turn.calls k _ _ l1 t1 t2 _ ?side1 ?side2 B2.out).mono ?_); (case side1 => exact (Kd.C_below HR1.out (zB HB5))); (case side2 => exact HC1.out); rintro e w8 ⟨rfl, hb⟩; refine ⟨_, rfl, ?_⟩; replace HO := Aside0.mk (Kd.R_below (zo HO) hb); replace BK8 := Aside0.mk (blk_below (g := gb8) (o := .cells #[.string y.f0, .string y.f1] 107 (0, 0)) (zb BK8) hb); replace BW := Aside0.mk (below_step (zB BW) hb); replace HB5 := Aside0.mk (below_step (zB HB5) hb); clear hb; have hcf_w8 : w8.cell? ⟨gb8, 0, none⟩ = some (.string y.f0) := (blk_cell BK8.out 0).trans rfl; have hff_w8 : w8.frozen? ⟨gb8, 0, none⟩ = false := blk_frozen BK8.out 0) | ((with_reducible refine gate_builtin (b := .append) (xs := #[.tmp 47, .tmp 52]) rfl ?_); at_builtin; refine Kd.R_append k107 (w0 := w3) w3.heap.size rfl (.tmp 47) (.tmp 52) 55 107 (.agg #[(.string ⟨#[]⟩), (.string ⟨#[]⟩)]) 32 rfl Try.underlying55 info107 rfl (by decide) (by omega) _ acc (⟨y.f0, t2⟩ : S107) [.string y.f0, .string t2] (fun _ => True) (fun _ => False) rfl rfl ?aP (fun _ hk => hk.elim) ?aF ?aO ?aB ?aS ?aL ?_; (case aP => exact k107_mkM _ _ _ (⟨y.f0, t2⟩ : S107)); (case aB => exact (zB BW)); (case aF => exact (fun _ _ => trivial)); (case aO => exact (zo HO)); (case aS => exact BW.out.size); (case aL => have := LM.out; omega); intro v9 w9 ho hb hg hat; replace HO := Aside0.mk ho; replace BW := Aside0.mk hb; clear ho hb hg hat)); go_roundg (cc.length - (kk + 1))
        case measure => have := HD.out; omega
        case rel => exact ⟨kk + 1, acc ++ [⟨y.f0, t2⟩], by omega, by omega, by go_num, ⟨zo HO⟩, ⟨zB BW⟩, ⟨by have := HL3.out; rwa [show cc.length - (kk + 1) = d by have := HD.out; omega]⟩⟩
    ·have hke : kk = cc.length := by omega
     subst hke; have hl := HL.out; rw [Nat.sub_self, thenL] at hl; obtain rfl := Option.some.inj hl; clear hl HL; have hltz : ¬ (cc.length : Int) < (cc.length : Int) := by omega
     have HB5 := Aside0.mk (below_then HB3.out HB3.out.size BW.out); replace HO := Aside0.mk (Kd.R_lower HO.out HB3.out.size); obtain ⟨A6, c6, e6⟩ := Kd.R_slice HO.out; subst e6
     cases v with
     | false =>
      obtain ⟨rfl, rfl⟩ : [] = r1 ∧ false = r2 := by simpa using HH.out
      clear HH; go_wp2_with (first | ((with_reducible refine gate_callee (f := 46) rfl ?_); refine goesL_ (some 56) rfl rfl Try.func46 (by kernel_rfl) rfl #[.slice A6 acc.length c6] rfl zl ?_; (with_reducible refine (impl_ValidTurns.calls _ _ acc false _ ?side1 ?side2 A56.out).mono ?_); (case side1 => exact (Kd.R_reads' HO.out).2.2); (case side2 => exact (Kd.R_reads' HO.out).2.1); rintro e w6 ⟨rfl, hb⟩; refine ⟨_, rfl, ?_⟩; replace HO := Aside0.mk (Kd.R_below (zo HO) hb); replace HB5 := Aside0.mk (below_step (zB HB5) hb); clear hb)); go_ret2; exact ⟨_, rfl, Kd.R_nil _ _ _ _ _, zB HB5⟩
     | true =>
      obtain ⟨rfl, rfl⟩ : acc = r1 ∧ true = r2 := by simpa using HH.out
      clear HH; go_upto_region 14 with (first | ((with_reducible refine gate_callee (f := 46) rfl ?_); refine goesL_ (some 56) rfl rfl Try.func46 (by kernel_rfl) rfl #[.slice A6 acc.length c6] rfl zl ?_; (with_reducible refine (impl_ValidTurns.calls _ _ acc true _ ?side1 ?side2 A56.out).mono ?_); (case side1 => exact (Kd.R_reads' HO.out).2.2); (case side2 => exact (Kd.R_reads' HO.out).2.1); rintro e w6 ⟨rfl, hb⟩; refine ⟨_, rfl, ?_⟩; replace HO := Aside0.mk (Kd.R_below (zo HO) hb); replace HB5 := Aside0.mk (below_step (zB HB5) hb); clear hb))
      go_wp2_with fail; refine (impl_Turn_86.calls (fun _ => True) _ acc acc w _ (zB HB5) (zo HO) rfl).mono ?_; rintro e w7 ⟨v7, rfl, ho, hb, _⟩; have HO7 := Aside0.mk (Kd.R_mono ho (ok' := fun _ => True) (fun _ _ => trivial)); have HB7 := Aside0.mk hb; clear ho hb; go_wp2; go_ret2; exact ⟨_, rfl, HO7.out, HB7.out⟩

end Go.Proofs.Ytfcpbgedgedalaa.Q

namespace Go.Proofs.Ytfcpbgedgedalaa.Q
open Go.RowKit Go.Proofs.YtfcpbgedgedalaaL.PrintWords Go.Proofs.YtfcpbgedgedalaaL.PrintLast Go.Proofs.YtfcpbgedgedalaaL.PrintMore
attribute [local go_sem] max2_int min2_int max_two min_two max_three min_three max_four min_four   -- for this text's walks alone
set_option linter.unusedVariables false
set_option linter.unusedSimpArgs false

/-! ### laws_eqTurn: function 87 -/
def laws_eqTurn.f (a0_0 : ByteArray) (a0_1 : ByteArray) (a1_0 : ByteArray) (a1_1 : ByteArray) : Option (Bool) := if a0_0.toList = a1_0.toList then (if a0_1.toList = a1_1.toList then (some true) else (some false)) else (some false)
set_option maxHeartbeats 8000000 in
set_option maxRecDepth 100000 in
theorem laws_eqTurn.calls (a0_0 : ByteArray) (a0_1 : ByteArray) (a1_0 : ByteArray) (a1_1 : ByteArray) (r : Bool) (w : World) (h : laws_eqTurn.f a0_0 a0_1 a1_0 a1_1 = some r) :
  Calls Try.prog 87 #[.agg #[.string a0_0, .string a0_1], .agg #[.string a1_0, .string a1_1]] w fun e w' => e = .returned (.bool r) ∧ Below w.heap.size w w' := by
 have hu107 := Try.underlying107; have HB := Aside0.mk (Below.refl w.heap.size w); have H : (if a0_0.toList = a1_0.toList then (if a0_1.toList = a1_1.toList then (some true) else (some false)) else (some false)) = some r := h; clear h
 by_cases c3 : a0_0.toList = a1_0.toList
 ·rw [if_pos c3] at H; have c3b0 : (a0_0.toList == a1_0.toList) = true := beq_iff_eq.mpr c3; have c3b1 : (a0_0.toList != a1_0.toList) = false := bne_eq_false_iff_eq.mpr c3; clear c3
  by_cases c4 : a0_1.toList = a1_1.toList
  ·rw [if_pos c4] at H; have c4b0 : (a0_1.toList == a1_1.toList) = true := beq_iff_eq.mpr c4; have c4b1 : (a0_1.toList != a1_1.toList) = false := bne_eq_false_iff_eq.mpr c4; clear c4; obtain rfl := Option.some.inj H; go_enter Try.func87, Try.ntmps87; go_wp2_with (first | ((with_reducible refine gate_dst (N := 2) rfl ?_); refine zx (N := 2) (cs := #[.string a0_0, .string a0_1]) (t := 107) ?_; intro gb772 hg w5 hbox hb; have BK772 := Aside0.mk (hbox); have GW772 := Aside0.mk ((by rw [hg]; exact (below_size (zB HB)) : w.heap.size ≤ gb772)); have GE772 := GW772; replace HB := Aside0.mk (below_step (zB HB) hb); clear hb hbox hg) | ((with_reducible refine gate_dst (N := 3) rfl ?_); refine zx (N := 3) (cs := #[.string a1_0, .string a1_1]) (t := 107) ?_; intro gb773 hg w6 hbox hb; have BK773 := Aside0.mk (hbox); have GW773 := Aside0.mk ((by rw [hg]; exact (below_size (zB HB)) : w.heap.size ≤ gb773)); have GE773 := GW773; replace HB := Aside0.mk (below_step (zB HB) hb); have NB772_773 := Aside0.mk ((by rw [hg]; exact Nat.ne_of_lt (blk_lt (g := gb772) (o := .cells #[.string a0_0, .string a0_1] 107 (0, 0)) (zb BK772)) : gb772 ≠ gb773)); have NB773_772 := Aside0.mk NB772_773.out.symm; replace BK772 := Aside0.mk (blk_below (g := gb772) (o := .cells #[.string a0_0, .string a0_1] 107 (0, 0)) (zb BK772) hb); clear hb hbox hg; have hnb7 := NB772_773.out; have hnc7 := NB773_772.out; have hcz8_0 : w6.cell? ⟨gb772, 0, none⟩ = some (.string a0_0) := (blk_cell BK772.out 0).trans rfl; have hcz8_1 : w6.cell? ⟨gb772, 1, none⟩ = some (.string a0_1) := (blk_cell BK772.out 1).trans rfl; have hfz8_0 := blk_frozen BK772.out 0; have hfz8_1 := blk_frozen BK772.out 1; have hcz9_0 : w6.cell? ⟨gb773, 0, none⟩ = some (.string a1_0) := (blk_cell BK773.out 0).trans rfl; have hcz9_1 : w6.cell? ⟨gb773, 1, none⟩ = some (.string a1_1) := (blk_cell BK773.out 1).trans rfl; have hfz9_0 := blk_frozen BK773.out 0; have hfz9_1 := blk_frozen BK773.out 1)); go_ret; exact ⟨by first | rfl | (simp [errW_none, errW_some] <;> rfl) | (simp [*, errW_none, errW_some] <;> rfl), zB HB⟩
  ·rw [if_neg c4] at H; have c4b0 : (a0_1.toList == a1_1.toList) = false := beq_eq_false_iff_ne.mpr c4; have c4b1 : (a0_1.toList != a1_1.toList) = true := bne_iff_ne.mpr c4; obtain rfl := Option.some.inj H; go_enter Try.func87, Try.ntmps87; go_wp2_with (first | ((with_reducible refine gate_dst (N := 2) rfl ?_); refine zx (N := 2) (cs := #[.string a0_0, .string a0_1]) (t := 107) ?_; intro gb772 hg w10 hbox hb; have BK772 := Aside0.mk (hbox); have GW772 := Aside0.mk ((by rw [hg]; exact (below_size (zB HB)) : w.heap.size ≤ gb772)); have GE772 := GW772; replace HB := Aside0.mk (below_step (zB HB) hb); clear hb hbox hg) | ((with_reducible refine gate_dst (N := 3) rfl ?_); refine zx (N := 3) (cs := #[.string a1_0, .string a1_1]) (t := 107) ?_; intro gb773 hg w11 hbox hb; have BK773 := Aside0.mk (hbox); have GW773 := Aside0.mk ((by rw [hg]; exact (below_size (zB HB)) : w.heap.size ≤ gb773)); have GE773 := GW773; replace HB := Aside0.mk (below_step (zB HB) hb); have NB772_773 := Aside0.mk ((by rw [hg]; exact Nat.ne_of_lt (blk_lt (g := gb772) (o := .cells #[.string a0_0, .string a0_1] 107 (0, 0)) (zb BK772)) : gb772 ≠ gb773)); have NB773_772 := Aside0.mk NB772_773.out.symm; replace BK772 := Aside0.mk (blk_below (g := gb772) (o := .cells #[.string a0_0, .string a0_1] 107 (0, 0)) (zb BK772) hb); clear hb hbox hg; have hnb12 := NB772_773.out; have hnc12 := NB773_772.out; have hcz13_0 : w11.cell? ⟨gb772, 0, none⟩ = some (.string a0_0) := (blk_cell BK772.out 0).trans rfl; have hcz13_1 : w11.cell? ⟨gb772, 1, none⟩ = some (.string a0_1) := (blk_cell BK772.out 1).trans rfl; have hfz13_0 := blk_frozen BK772.out 0; have hfz13_1 := blk_frozen BK772.out 1; have hcz14_0 : w11.cell? ⟨gb773, 0, none⟩ = some (.string a1_0) := (blk_cell BK773.out 0).trans rfl; have hcz14_1 : w11.cell? ⟨gb773, 1, none⟩ = some (.string a1_1) := (blk_cell BK773.out 1).trans rfl; have hfz14_0 := blk_frozen BK773.out 0; have hfz14_1 := blk_frozen BK773.out 1)); go_ret; exact ⟨by first | rfl | (simp [errW_none, errW_some] <;> rfl) | (simp [*, errW_none, errW_some] <;> rfl), zB HB⟩
 ·rw [if_neg c3] at H; have c3b0 : (a0_0.toList == a1_0.toList) = false := beq_eq_false_iff_ne.mpr c3; have c3b1 : (a0_0.toList != a1_0.toList) = true := bne_iff_ne.mpr c3; obtain rfl := Option.some.inj H; go_enter Try.func87, Try.ntmps87; go_wp2_with (first | ((with_reducible refine gate_dst (N := 2) rfl ?_); refine zx (N := 2) (cs := #[.string a0_0, .string a0_1]) (t := 107) ?_; intro gb772 hg w15 hbox hb; have BK772 := Aside0.mk (hbox); have GW772 := Aside0.mk ((by rw [hg]; exact (below_size (zB HB)) : w.heap.size ≤ gb772)); have GE772 := GW772; replace HB := Aside0.mk (below_step (zB HB) hb); clear hb hbox hg) | ((with_reducible refine gate_dst (N := 3) rfl ?_); refine zx (N := 3) (cs := #[.string a1_0, .string a1_1]) (t := 107) ?_; intro gb773 hg w16 hbox hb; have BK773 := Aside0.mk (hbox); have GW773 := Aside0.mk ((by rw [hg]; exact (below_size (zB HB)) : w.heap.size ≤ gb773)); have GE773 := GW773; replace HB := Aside0.mk (below_step (zB HB) hb); have NB772_773 := Aside0.mk ((by rw [hg]; exact Nat.ne_of_lt (blk_lt (g := gb772) (o := .cells #[.string a0_0, .string a0_1] 107 (0, 0)) (zb BK772)) : gb772 ≠ gb773)); have NB773_772 := Aside0.mk NB772_773.out.symm; replace BK772 := Aside0.mk (blk_below (g := gb772) (o := .cells #[.string a0_0, .string a0_1] 107 (0, 0)) (zb BK772) hb); clear hb hbox hg; have hnb17 := NB772_773.out; have hnc17 := NB773_772.out; have hcz18_0 : w16.cell? ⟨gb772, 0, none⟩ = some (.string a0_0) := (blk_cell BK772.out 0).trans rfl; have hcz18_1 : w16.cell? ⟨gb772, 1, none⟩ = some (.string a0_1) := (blk_cell BK772.out 1).trans rfl; have hfz18_0 := blk_frozen BK772.out 0; have hfz18_1 := blk_frozen BK772.out 1; have hcz19_0 : w16.cell? ⟨gb773, 0, none⟩ = some (.string a1_0) := (blk_cell BK773.out 0).trans rfl; have hcz19_1 : w16.cell? ⟨gb773, 1, none⟩ = some (.string a1_1) := (blk_cell BK773.out 1).trans rfl; have hfz19_0 := blk_frozen BK773.out 0; have hfz19_1 := blk_frozen BK773.out 1)); go_ret; exact ⟨by first | rfl | (simp [errW_none, errW_some] <;> rfl) | (simp [*, errW_none, errW_some] <;> rfl), zB HB⟩

end Go.Proofs.Ytfcpbgedgedalaa.Q

namespace Go.Proofs.Ytfcpbgedgedalaa.Q
open Go.RowKit Go.Proofs.YtfcpbgedgedalaaL.PrintWords Go.Proofs.YtfcpbgedgedalaaL.PrintLast Go.Proofs.YtfcpbgedgedalaaL.PrintMore
attribute [local go_sem] max2_int min2_int max_two min_two max_three min_three max_four min_four   -- for this text's walks alone
set_option linter.unusedVariables false
set_option linter.unusedSimpArgs false

/-! ### laws_eqTurnS: function 37 -/
def laws_eqTurnS.l0 : Nat → List (S107) → List (S107) → Int → Option (Bool)
 | 0, _, _, _ => none
 | k + 1, x0, x1, x5 => if x5 < (x0.length : Int) then (if 0 ≤ x5 then (if x5 < (x1.length : Int) then ((laws_eqTurn.f ((rd_T107 x0 x5).f0) ((rd_T107 x0 x5).f1) ((rd_T107 x1 x5).f0) ((rd_T107 x1 x5).f1)).bind fun t776 => (if t776 = true then (laws_eqTurnS.l0 k x0 x1 (wrap64 (x5 + 1))) else (some false))) else (none)) else (none)) else (some true)
def laws_eqTurnS.f (k : Nat) (l0 : List (S107)) (l1 : List (S107)) : Option (Bool) := if (l0.length : Int) = (l1.length : Int) then (laws_eqTurnS.l0 k l0 l1 0) else (some false)
theorem laws_eqTurnS.mono_l : ∀ k, (∀ y0 y1 y2, LeO (laws_eqTurnS.l0 k y0 y1 y2) (laws_eqTurnS.l0 (k + 1) y0 y1 y2))
 | 0 => fun _ _ _ r h => by simp [laws_eqTurnS.l0] at h
 | k + 1 => by
  have ih0 := laws_eqTurnS.mono_l k
  ·intro y0 y1 y2; unfold laws_eqTurnS.l0
   repeat' first
   | (with_reducible exact ih0 _ _ _)
   | (with_reducible exact LeO.refl _)
   | (with_reducible exact LeO.none _)
   | (with_reducible refine LeO.ite ?_ ?_)
   | (with_reducible refine LeO.bind ?_ (fun _ => ?_))
   | exact ih0 _ _ _
   | exact LeO.none _
   | refine LeO.ite ?_ ?_
   | refine LeO.bind ?_ (fun _ => ?_)
theorem laws_eqTurnS.mono : ∀ a0 a1 k, LeO (laws_eqTurnS.f k a0 a1) (laws_eqTurnS.f (k + 1) a0 a1) := by
 intro a0 a1 k; have ih0 := laws_eqTurnS.mono_l k; unfold laws_eqTurnS.f
 repeat' first
   | (with_reducible exact ih0 _ _ _)
   | (with_reducible exact LeO.refl _)
   | (with_reducible exact LeO.none _)
   | (with_reducible refine LeO.ite ?_ ?_)
   | (with_reducible refine LeO.bind ?_ (fun _ => ?_))
   | exact ih0 _ _ _
   | exact LeO.none _
   | refine LeO.ite ?_ ?_
   | refine LeO.bind ?_ (fun _ => ?_)
def laws_eqTurnS.T6 : Bool × List (List Nat × List Nat) := (true, [([], []), ([], []), ([0, 1], [0, 1]), ([2], [2]), ([], []), ([], []), ([4, 5], [4, 5]), ([6], [6]), ([3, 7], [3, 7]), ([8], [8])])
def laws_eqTurnS.B6 : List Nat := [0, 0, 3, 7, 0, 0, 48, 112, 255, 511]
theorem laws_eqTurnS.tab6 : rtab .any (opsOf Try.f37 6) = laws_eqTurnS.T6 := by kernel_rfl
theorem laws_eqTurnS.bits6 : waitsOk laws_eqTurnS.T6.2 laws_eqTurnS.B6 = true := by kernel_rfl
set_option maxHeartbeats 8000000 in
set_option maxRecDepth 100000 in
theorem laws_eqTurnS.calls (k : Nat) (A0 : Option Addr) (c0 : Nat) (l0 : List (S107)) (A1 : Option Addr) (c1 : Nat) (l1 : List (S107)) (r : Bool) (w : World) (hr0 : Kd.C k107 w A0 l0.length l0) (hc0 : l0.length ≤ c0) (hr1 : Kd.C k107 w A1 l1.length l1) (hc1 : l1.length ≤ c1) (h : laws_eqTurnS.f k l0 l1 = some r) :
  Calls Try.prog 37 #[.slice A0 l0.length c0, .slice A1 l1.length c1] w fun e w' => e = .returned (.bool r) ∧ Below w.heap.size w w' := by
 have hu107 := Try.underlying107; have HR0 := Aside0.mk hr0; have HC0 := Aside0.mk hc0; clear hr0 hc0; have HR1 := Aside0.mk hr1; have HC1 := Aside0.mk hc1; clear hr1 hc1; have HB := Aside0.mk (Below.refl w.heap.size w); have H : (if (l0.length : Int) = (l1.length : Int) then (laws_eqTurnS.l0 k l0 l1 0) else (some false)) = some r := h; clear h
 by_cases c3 : (l0.length : Int) = (l1.length : Int)
 ·rw [if_pos c3] at H; have c3b0 : ((l0.length : Int) == (l1.length : Int)) = true := beq_iff_eq.mpr c3; have c3b1 : ((l0.length : Int) != (l1.length : Int)) = false := bne_eq_false_iff_eq.mpr c3; have c3b2 : (l0.length == l1.length) = true := by first | simpa using c3 | (simp at c3 ⊢; omega)
  clear c3; have H' := Aside0.mk H; clear H; go_enter Try.func37, Try.ntmps37; go_wp2; go_loopg [5] k (fun kq v5 w' => ∃ (x5_1 : Int), v5 = .int .i64 x5_1 ∧ Aside0 (laws_eqTurnS.l0 kq l0 l1 x5_1 = some r) ∧ Aside0 (kq ≤ k) ∧ Aside0 (Below w.heap.size w w'))
  case atStart => exact ⟨(0), zr, H', ⟨Nat.le_refl _⟩, ⟨zB HB⟩⟩
  case round =>
   clear H'; (try clear c1); (try clear p2); (try clear c3); (try clear c3b0); (try clear c3b1); (try clear c3b2); obtain ⟨x5_1, rfl, HA, HK1, HB⟩ := hrel
   cases gk with
   | zero => exact absurd HA.out (by simp [laws_eqTurnS.l0])
   | succ k1 =>
    have H := HA.out; clear HA; simp only [laws_eqTurnS.l0] at H
    by_cases c4 : x5_1 < (l0.length : Int)
    ·rw [if_pos c4] at H; have c4b0 : decide (x5_1 < (l0.length : Int)) = true := decide_eq_true c4; clear c4
     by_cases c5 : 0 ≤ x5_1
     ·rw [if_pos c5] at H; have c5b0 : decide (0 ≤ x5_1) = true := decide_eq_true c5; clear c5
      by_cases c6 : x5_1 < (l1.length : Int)
      ·rw [if_pos c6] at H; have c6b0 : decide (x5_1 < (l1.length : Int)) = true := decide_eq_true c6; clear c6; replace H := Option.bind_eq_some_iff.mp H; obtain ⟨t776, A70, H⟩ := H
       (try dsimp only at H)
       have A7 := Aside0.mk A70; clear A70
       by_cases c8 : t776 = true
       ·subst c8; rw [if_pos rfl] at H; have H' := Aside0.mk H; clear H
        try go_wp2
        replace HB := Aside0.mk (below_drew1 HB.out); have p774 : 0 ≤ (x5_1 : Int) := of_decide_eq_true za; have q774 : x5_1 < (l0.length : Int) := of_decide_eq_true za; obtain ⟨ad774, e774, hx774_0, hx774_1⟩ := at_T107 HR0.out x5_1 p774 q774; have hw774_1 := hx774_1; have hw774_0 := hx774_0
        cases e774
        replace hx774_0 := (HB.out.cell (World.block_lt_of_cell? w _ hx774_0)).trans hx774_0; replace hx774_1 := (HB.out.cell (World.block_lt_of_cell? w _ hx774_1)).trans hx774_1; replace p774 := eq_true p774; replace q774 := eq_true q774; have p775 : 0 ≤ (x5_1 : Int) := of_decide_eq_true za; have q775 : x5_1 < (l1.length : Int) := of_decide_eq_true za; obtain ⟨ad775, e775, hx775_0, hx775_1⟩ := at_T107 HR1.out x5_1 p775 q775; have hw775_1 := hx775_1; have hw775_0 := hx775_0
        cases e775
        replace hx775_0 := (HB.out.cell (World.block_lt_of_cell? w _ hx775_0)).trans hx775_0; replace hx775_1 := (HB.out.cell (World.block_lt_of_cell? w _ hx775_1)).trans hx775_1; replace p775 := eq_true p775; replace q775 := eq_true q775; refine start_ (n := 10) (S := fun w' => w'.cell? (ad774.add ((x5_1).toNat * 2)) = some (.string ((rd_T107 l0 x5_1).f0)) ∧ w'.cell? ⟨(ad774.add ((x5_1).toNat * 2)).block, (ad774.add ((x5_1).toNat * 2)).off + 1, none⟩ = some (.string ((rd_T107 l0 x5_1).f1)) ∧ w'.cell? (ad775.add ((x5_1).toNat * 2)) = some (.string ((rd_T107 l1 x5_1).f0)) ∧ w'.cell? ⟨(ad775.add ((x5_1).toNat * 2)).block, (ad775.add ((x5_1).toNat * 2)).off + 1, none⟩ = some (.string ((rd_T107 l1 x5_1).f1))) (ds := []) #[false, false, false, false, false, false, false, false, false, false] (by kernel_rfl) rfl rfl ⟨((HB.out.cell (World.block_lt_of_cell? w _ hw774_0)).trans hw774_0), ((HB.out.cell (World.block_lt_of_cell? w _ hw774_1)).trans hw774_1), ((HB.out.cell (World.block_lt_of_cell? w _ hw775_0)).trans hw775_0), ((HB.out.cell (World.block_lt_of_cell? w _ hw775_1)).trans hw775_1)⟩ (fun hHeld => ?_); refine with_tabW laws_eqTurnS.tab6 laws_eqTurnS.bits6 (fun HT_ HW_ => ?_); generalize wr.drew = w9 at HB hx774_0 hx774_1 hx775_0 hx775_1 hHeld ⊢; refine pure_ (i := 0) (N := some 17) (v := ?_) (a' := ?_) #[true, false, false, false, false, false, false, false, false, false] rfl rfl (any_of HT_.out (by kernel_rfl)) (fun _ _ _ h => h) (Or.inl ⟨by rfl, ?_⟩) ?_ ?_; rotate_left
        ·intro w'; go_simp; with_reducible rfl
        rotate_left
        ·simp only [Act.put, List.setIfInBounds_toArray, List.set_cons_zero, List.set_cons_succ, i64_w, i32_w]; rfl
        refine pure_ (i := 1) (N := some 18) (v := ?_) (a' := ?_) #[true, true, false, false, false, false, false, false, false, false] rfl rfl (any_of HT_.out (by kernel_rfl)) (fun _ _ _ h => h) (Or.inl ⟨by rfl, ?_⟩) ?_ ?_; rotate_left
        ·intro w'; go_simp; with_reducible rfl
        rotate_left
        ·simp only [Act.put, List.setIfInBounds_toArray, List.set_cons_zero, List.set_cons_succ, i64_w, i32_w]; rfl
        refine pure_ (i := 2) (N := some 19) (v := ?_) (a' := ?_) #[true, true, true, false, false, false, false, false, false, false] rfl rfl (any_of HT_.out (by kernel_rfl)) (fun _ _ _ h => h) (Or.inl ⟨by rfl, ?_⟩) ?_ ?_; rotate_left
        ·intro w'; go_simp; with_reducible rfl
        rotate_left
        ·simp only [Act.put, List.setIfInBounds_toArray, List.set_cons_zero, List.set_cons_succ, i64_w, i32_w]; rfl
        refine pure_ (i := 4) (N := some 21) (v := ?_) (a' := ?_) #[true, true, true, false, true, false, false, false, false, false] rfl rfl (any_of HT_.out (by kernel_rfl)) (fun _ _ _ h => h) (Or.inl ⟨by rfl, ?_⟩) ?_ ?_; rotate_left
        ·intro w'; go_simp; with_reducible rfl
        rotate_left
        ·simp only [Act.put, List.setIfInBounds_toArray, List.set_cons_zero, List.set_cons_succ, i64_w, i32_w]; rfl
        refine pure_ (i := 5) (N := some 22) (v := ?_) (a' := ?_) #[true, true, true, false, true, true, false, false, false, false] rfl rfl (any_of HT_.out (by kernel_rfl)) (fun _ _ _ h => h) (Or.inl ⟨by rfl, ?_⟩) ?_ ?_; rotate_left
        ·intro w'; go_simp; with_reducible rfl
        rotate_left
        ·simp only [Act.put, List.setIfInBounds_toArray, List.set_cons_zero, List.set_cons_succ, i64_w, i32_w]; rfl
        refine pure_ (i := 6) (N := some 23) (v := ?_) (a' := ?_) #[true, true, true, false, true, true, true, false, false, false] rfl rfl (any_of HT_.out (by kernel_rfl)) (fun _ _ _ h => h) (Or.inl ⟨by rfl, ?_⟩) ?_ ?_; rotate_left
        ·intro w'; go_simp; with_reducible rfl
        rotate_left
        ·simp only [Act.put, List.setIfInBounds_toArray, List.set_cons_zero, List.set_cons_succ, i64_w, i32_w]; rfl
        refine take_ (i := 3) (N := some 20) (v := ?_) (a' := ?_) #[true, true, true, true, true, true, true, false, false, false] rfl rfl (take_ofW HT_.out HW_.out (by kernel_rfl)) (fun _ _ _ h => h) (Or.inl ⟨by rfl, ?_⟩) hHeld ?_ ?_; rotate_left
        ·rintro w' ⟨s0, s1, s2, s3⟩; go_simp; with_reducible rfl
        rotate_left
        ·simp only [Act.put, List.setIfInBounds_toArray, List.set_cons_zero, List.set_cons_succ, i64_w, i32_w]; rfl
        refine take_ (i := 7) (N := some 24) (v := ?_) (a' := ?_) #[true, true, true, true, true, true, true, true, false, false] rfl rfl (take_ofW HT_.out HW_.out (by kernel_rfl)) (fun _ _ _ h => h) (Or.inl ⟨by rfl, ?_⟩) hHeld ?_ ?_; rotate_left
        ·rintro w' ⟨s0, s1, s2, s3⟩; go_simp; with_reducible rfl
        rotate_left
        ·simp only [Act.put, List.setIfInBounds_toArray, List.set_cons_zero, List.set_cons_succ, i64_w, i32_w]; rfl
        refine one_ (i := 8) (N := some 25) #[true, true, true, true, true, true, true, true, true, false] rfl rfl (one_of HT_.out (by kernel_rfl)) (by decide) (fun K hK => ?_); refine goes_ Try.func87 (by kernel_rfl) rfl #[.agg #[.string ((rd_T107 l0 x5_1).f0), .string ((rd_T107 l0 x5_1).f1)], .agg #[.string ((rd_T107 l1 x5_1).f0), .string ((rd_T107 l1 x5_1).f1)]] (by rfl) rfl rfl zl ?_; with_reducible refine (laws_eqTurn.calls ((rd_T107 l0 x5_1).f0) ((rd_T107 l0 x5_1).f1) ((rd_T107 l1 x5_1).f0) ((rd_T107 l1 x5_1).f1) true _ A7.out).mono ?_; rintro e w10 ⟨rfl, hb⟩; refine ⟨_, rfl, ?_⟩; replace HB := Aside0.mk (below_step (zB HB) hb); (try clear hb); (try clear hb2); (try clear hk); (try clear hi); refine hK.out _ _ ⟨((HB.out.cell (World.block_lt_of_cell? w _ hw774_0)).trans hw774_0), ((HB.out.cell (World.block_lt_of_cell? w _ hw774_1)).trans hw774_1), ((HB.out.cell (World.block_lt_of_cell? w _ hw775_0)).trans hw775_0), ((HB.out.cell (World.block_lt_of_cell? w _ hw775_1)).trans hw775_1)⟩ (fun hHeld => ?_); clear hK K; refine norm_ (a' := ?_) ?_ ?_; rotate_left
        ·show Act.put _ (some 25) _ = _
         simp only [Act.put, List.setIfInBounds_toArray, List.set_cons_zero, List.set_cons_succ, i64_w, i32_w]; rfl
        refine pure_ (i := 9) (N := some 26) (v := ?_) (a' := ?_) #[true, true, true, true, true, true, true, true, true, true] rfl rfl (any_of HT_.out (by kernel_rfl)) (fun _ _ _ h => h) (Or.inl ⟨by rfl, ?_⟩) ?_ ?_; rotate_left
        ·intro w'; go_simp; with_reducible rfl
        rotate_left
        ·simp only [Act.put, List.setIfInBounds_toArray, List.set_cons_zero, List.set_cons_succ, i64_w, i32_w]; rfl
        refine done_ (done_of HT_.out (by kernel_rfl)) ?_
        try go_wp2
        go_roundg k1
        case measure => have := HK1.out; omega
        case rel => exact ⟨(wrap64 (x5_1 + 1)), zr, H', ⟨by have := HK1.out; omega⟩, ⟨zB HB⟩⟩
       ·replace c8 := Bool.eq_false_iff.mpr c8; subst c8; rw [if_neg (show ¬ (false = true) by decide)] at H; obtain rfl := Option.some.inj H
        try go_wp2
        replace HB := Aside0.mk (below_drew1 HB.out); have p774 : 0 ≤ (x5_1 : Int) := of_decide_eq_true za; have q774 : x5_1 < (l0.length : Int) := of_decide_eq_true za; obtain ⟨ad774, e774, hx774_0, hx774_1⟩ := at_T107 HR0.out x5_1 p774 q774; have hw774_1 := hx774_1; have hw774_0 := hx774_0
        cases e774
        replace hx774_0 := (HB.out.cell (World.block_lt_of_cell? w _ hx774_0)).trans hx774_0; replace hx774_1 := (HB.out.cell (World.block_lt_of_cell? w _ hx774_1)).trans hx774_1; replace p774 := eq_true p774; replace q774 := eq_true q774; have p775 : 0 ≤ (x5_1 : Int) := of_decide_eq_true za; have q775 : x5_1 < (l1.length : Int) := of_decide_eq_true za; obtain ⟨ad775, e775, hx775_0, hx775_1⟩ := at_T107 HR1.out x5_1 p775 q775; have hw775_1 := hx775_1; have hw775_0 := hx775_0
        cases e775
        replace hx775_0 := (HB.out.cell (World.block_lt_of_cell? w _ hx775_0)).trans hx775_0; replace hx775_1 := (HB.out.cell (World.block_lt_of_cell? w _ hx775_1)).trans hx775_1; replace p775 := eq_true p775; replace q775 := eq_true q775; refine start_ (n := 10) (S := fun w' => w'.cell? (ad774.add ((x5_1).toNat * 2)) = some (.string ((rd_T107 l0 x5_1).f0)) ∧ w'.cell? ⟨(ad774.add ((x5_1).toNat * 2)).block, (ad774.add ((x5_1).toNat * 2)).off + 1, none⟩ = some (.string ((rd_T107 l0 x5_1).f1)) ∧ w'.cell? (ad775.add ((x5_1).toNat * 2)) = some (.string ((rd_T107 l1 x5_1).f0)) ∧ w'.cell? ⟨(ad775.add ((x5_1).toNat * 2)).block, (ad775.add ((x5_1).toNat * 2)).off + 1, none⟩ = some (.string ((rd_T107 l1 x5_1).f1))) (ds := []) #[false, false, false, false, false, false, false, false, false, false] (by kernel_rfl) rfl rfl ⟨((HB.out.cell (World.block_lt_of_cell? w _ hw774_0)).trans hw774_0), ((HB.out.cell (World.block_lt_of_cell? w _ hw774_1)).trans hw774_1), ((HB.out.cell (World.block_lt_of_cell? w _ hw775_0)).trans hw775_0), ((HB.out.cell (World.block_lt_of_cell? w _ hw775_1)).trans hw775_1)⟩ (fun hHeld => ?_); refine with_tabW laws_eqTurnS.tab6 laws_eqTurnS.bits6 (fun HT_ HW_ => ?_); generalize wr.drew = w11 at HB hx774_0 hx774_1 hx775_0 hx775_1 hHeld ⊢; refine pure_ (i := 0) (N := some 17) (v := ?_) (a' := ?_) #[true, false, false, false, false, false, false, false, false, false] rfl rfl (any_of HT_.out (by kernel_rfl)) (fun _ _ _ h => h) (Or.inl ⟨by rfl, ?_⟩) ?_ ?_; rotate_left
        ·intro w'; go_simp; with_reducible rfl
        rotate_left
        ·simp only [Act.put, List.setIfInBounds_toArray, List.set_cons_zero, List.set_cons_succ, i64_w, i32_w]; rfl
        refine pure_ (i := 1) (N := some 18) (v := ?_) (a' := ?_) #[true, true, false, false, false, false, false, false, false, false] rfl rfl (any_of HT_.out (by kernel_rfl)) (fun _ _ _ h => h) (Or.inl ⟨by rfl, ?_⟩) ?_ ?_; rotate_left
        ·intro w'; go_simp; with_reducible rfl
        rotate_left
        ·simp only [Act.put, List.setIfInBounds_toArray, List.set_cons_zero, List.set_cons_succ, i64_w, i32_w]; rfl
        refine pure_ (i := 2) (N := some 19) (v := ?_) (a' := ?_) #[true, true, true, false, false, false, false, false, false, false] rfl rfl (any_of HT_.out (by kernel_rfl)) (fun _ _ _ h => h) (Or.inl ⟨by rfl, ?_⟩) ?_ ?_; rotate_left
        ·intro w'; go_simp; with_reducible rfl
        rotate_left
        ·simp only [Act.put, List.setIfInBounds_toArray, List.set_cons_zero, List.set_cons_succ, i64_w, i32_w]; rfl
        refine pure_ (i := 4) (N := some 21) (v := ?_) (a' := ?_) #[true, true, true, false, true, false, false, false, false, false] rfl rfl (any_of HT_.out (by kernel_rfl)) (fun _ _ _ h => h) (Or.inl ⟨by rfl, ?_⟩) ?_ ?_; rotate_left
        ·intro w'; go_simp; with_reducible rfl
        rotate_left
        ·simp only [Act.put, List.setIfInBounds_toArray, List.set_cons_zero, List.set_cons_succ, i64_w, i32_w]; rfl
        refine pure_ (i := 5) (N := some 22) (v := ?_) (a' := ?_) #[true, true, true, false, true, true, false, false, false, false] rfl rfl (any_of HT_.out (by kernel_rfl)) (fun _ _ _ h => h) (Or.inl ⟨by rfl, ?_⟩) ?_ ?_; rotate_left
        ·intro w'; go_simp; with_reducible rfl
        rotate_left
        ·simp only [Act.put, List.setIfInBounds_toArray, List.set_cons_zero, List.set_cons_succ, i64_w, i32_w]; rfl
        refine pure_ (i := 6) (N := some 23) (v := ?_) (a' := ?_) #[true, true, true, false, true, true, true, false, false, false] rfl rfl (any_of HT_.out (by kernel_rfl)) (fun _ _ _ h => h) (Or.inl ⟨by rfl, ?_⟩) ?_ ?_; rotate_left
        ·intro w'; go_simp; with_reducible rfl
        rotate_left
        ·simp only [Act.put, List.setIfInBounds_toArray, List.set_cons_zero, List.set_cons_succ, i64_w, i32_w]; rfl
        refine take_ (i := 3) (N := some 20) (v := ?_) (a' := ?_) #[true, true, true, true, true, true, true, false, false, false] rfl rfl (take_ofW HT_.out HW_.out (by kernel_rfl)) (fun _ _ _ h => h) (Or.inl ⟨by rfl, ?_⟩) hHeld ?_ ?_; rotate_left
        ·rintro w' ⟨s0, s1, s2, s3⟩; go_simp; with_reducible rfl
        rotate_left
        ·simp only [Act.put, List.setIfInBounds_toArray, List.set_cons_zero, List.set_cons_succ, i64_w, i32_w]; rfl
        refine take_ (i := 7) (N := some 24) (v := ?_) (a' := ?_) #[true, true, true, true, true, true, true, true, false, false] rfl rfl (take_ofW HT_.out HW_.out (by kernel_rfl)) (fun _ _ _ h => h) (Or.inl ⟨by rfl, ?_⟩) hHeld ?_ ?_; rotate_left
        ·rintro w' ⟨s0, s1, s2, s3⟩; go_simp; with_reducible rfl
        rotate_left
        ·simp only [Act.put, List.setIfInBounds_toArray, List.set_cons_zero, List.set_cons_succ, i64_w, i32_w]; rfl
        refine one_ (i := 8) (N := some 25) #[true, true, true, true, true, true, true, true, true, false] rfl rfl (one_of HT_.out (by kernel_rfl)) (by decide) (fun K hK => ?_); refine goes_ Try.func87 (by kernel_rfl) rfl #[.agg #[.string ((rd_T107 l0 x5_1).f0), .string ((rd_T107 l0 x5_1).f1)], .agg #[.string ((rd_T107 l1 x5_1).f0), .string ((rd_T107 l1 x5_1).f1)]] (by rfl) rfl rfl zl ?_; with_reducible refine (laws_eqTurn.calls ((rd_T107 l0 x5_1).f0) ((rd_T107 l0 x5_1).f1) ((rd_T107 l1 x5_1).f0) ((rd_T107 l1 x5_1).f1) false _ A7.out).mono ?_; rintro e w12 ⟨rfl, hb⟩; refine ⟨_, rfl, ?_⟩; replace HB := Aside0.mk (below_step (zB HB) hb); (try clear hb); (try clear hb2); (try clear hk); (try clear hi); refine hK.out _ _ ⟨((HB.out.cell (World.block_lt_of_cell? w _ hw774_0)).trans hw774_0), ((HB.out.cell (World.block_lt_of_cell? w _ hw774_1)).trans hw774_1), ((HB.out.cell (World.block_lt_of_cell? w _ hw775_0)).trans hw775_0), ((HB.out.cell (World.block_lt_of_cell? w _ hw775_1)).trans hw775_1)⟩ (fun hHeld => ?_); clear hK K; refine norm_ (a' := ?_) ?_ ?_; rotate_left
        ·show Act.put _ (some 25) _ = _
         simp only [Act.put, List.setIfInBounds_toArray, List.set_cons_zero, List.set_cons_succ, i64_w, i32_w]; rfl
        refine pure_ (i := 9) (N := some 26) (v := ?_) (a' := ?_) #[true, true, true, true, true, true, true, true, true, true] rfl rfl (any_of HT_.out (by kernel_rfl)) (fun _ _ _ h => h) (Or.inl ⟨by rfl, ?_⟩) ?_ ?_; rotate_left
        ·intro w'; go_simp; with_reducible rfl
        rotate_left
        ·simp only [Act.put, List.setIfInBounds_toArray, List.set_cons_zero, List.set_cons_succ, i64_w, i32_w]; rfl
        refine done_ (done_of HT_.out (by kernel_rfl)) ?_
        try go_wp2
        go_ret; exact ⟨by first | rfl | (simp [errW_none, errW_some] <;> rfl) | (simp [*, errW_none, errW_some] <;> rfl), zB HB⟩
      ·rw [if_neg c6] at H; exact absurd H (by simp)
     ·rw [if_neg c5] at H; exact absurd H (by simp)
    ·rw [if_neg c4] at H; have c4b0 : decide (x5_1 < (l0.length : Int)) = false := decide_eq_false c4; clear c4; obtain rfl := Option.some.inj H; go_wp2; go_ret; exact ⟨by first | rfl | (simp [errW_none, errW_some] <;> rfl) | (simp [*, errW_none, errW_some] <;> rfl), zB HB⟩
 ·rw [if_neg c3] at H; have c3b0 : ((l0.length : Int) == (l1.length : Int)) = false := beq_eq_false_iff_ne.mpr c3; have c3b1 : ((l0.length : Int) != (l1.length : Int)) = true := bne_iff_ne.mpr c3; have c3b2 : (l0.length == l1.length) = false := by first | simpa using c3 | (simp at c3 ⊢; omega)
  obtain rfl := Option.some.inj H; go_enter Try.func37, Try.ntmps37; go_wp2; go_ret; exact ⟨by first | rfl | (simp [errW_none, errW_some] <;> rfl) | (simp [*, errW_none, errW_some] <;> rfl), zB HB⟩

end Go.Proofs.Ytfcpbgedgedalaa.Q

namespace Go.Proofs.Ytfcpbgedgedalaa.Q
open Go.RowKit Go.Proofs.YtfcpbgedgedalaaL.PrintWords Go.Proofs.YtfcpbgedgedalaaL.PrintLast Go.Proofs.YtfcpbgedgedalaaL.PrintMore
attribute [local go_sem] max2_int min2_int max_two min_two max_three min_three max_four min_four   -- for this text's walks alone
set_option linter.unusedVariables false
set_option linter.unusedSimpArgs false

/-! ### laws_markText: function 88 -/
def laws_markText.l0 : Nat → Int → ByteArray → Option (ByteArray)
 | 0, _, _ => none
 | k + 1, x0, x3 => if x0 > 0 then ((some (([(wrap64 (48 + (Int.tmod x0 10))) % 256] : List Int) : List Int)).bind fun y777 => (if (strOfNums y777).size + x3.size ≤ 9223372036854775807 then (laws_markText.l0 k (wrap64 (Int.tdiv x0 10)) ((strOfNums y777) ++ x3)) else (none))) else (if 1 + x3.size ≤ 9223372036854775807 then (some ((⟨#[109]⟩ : ByteArray) ++ x3)) else (none))
def laws_markText.f (k : Nat) (a0 : Int) : Option (ByteArray) := if a0 ≤ 0 then (some (⟨#[109, 48]⟩ : ByteArray)) else (laws_markText.l0 k a0 (⟨#[]⟩ : ByteArray))
theorem laws_markText.mono_l : ∀ k, (∀ y0 y1, LeO (laws_markText.l0 k y0 y1) (laws_markText.l0 (k + 1) y0 y1))
 | 0 => fun _ _ r h => by simp [laws_markText.l0] at h
 | k + 1 => by
  have ih0 := laws_markText.mono_l k
  ·intro y0 y1; unfold laws_markText.l0
   repeat' first
   | (with_reducible exact ih0 _ _)
   | (with_reducible exact LeO.refl _)
   | (with_reducible exact LeO.none _)
   | (with_reducible refine LeO.ite ?_ ?_)
   | (with_reducible refine LeO.bind ?_ (fun _ => ?_))
   | exact ih0 _ _
   | exact LeO.none _
   | refine LeO.ite ?_ ?_
   | refine LeO.bind ?_ (fun _ => ?_)
theorem laws_markText.mono : ∀ a0 k, LeO (laws_markText.f k a0) (laws_markText.f (k + 1) a0) := by
 intro a0 k; have ih0 := laws_markText.mono_l k; unfold laws_markText.f
 repeat' first
   | (with_reducible exact ih0 _ _)
   | (with_reducible exact LeO.refl _)
   | (with_reducible exact LeO.none _)
   | (with_reducible refine LeO.ite ?_ ?_)
   | (with_reducible refine LeO.bind ?_ (fun _ => ?_))
   | exact ih0 _ _
   | exact LeO.none _
   | refine LeO.ite ?_ ?_
   | refine LeO.bind ?_ (fun _ => ?_)
set_option maxHeartbeats 8000000 in
set_option maxRecDepth 100000 in
theorem laws_markText.calls (k : Nat) (a0 : Int) (r : ByteArray) (w : World) (h : laws_markText.f k a0 = some r) :
  Calls Try.prog 88 #[.int .i64 a0] w fun e w' => e = .returned (.string r) ∧ Below w.heap.size w w' := by
 have HB := Aside0.mk (Below.refl w.heap.size w); have H : (if a0 ≤ 0 then (some (⟨#[109, 48]⟩ : ByteArray)) else (laws_markText.l0 k a0 (⟨#[]⟩ : ByteArray))) = some r := h; clear h
 by_cases c2 : a0 ≤ 0
 ·rw [if_pos c2] at H; have c2b0 : decide (a0 ≤ 0) = true := decide_eq_true c2; clear c2; obtain rfl := Option.some.inj H; go_enter Try.func88, Try.ntmps88; go_wp2; go_ret; exact ⟨by first | rfl | (simp [errW_none, errW_some] <;> rfl) | (simp [*, errW_none, errW_some] <;> rfl), zB HB⟩
 ·rw [if_neg c2] at H; have c2b0 : decide (a0 ≤ 0) = false := decide_eq_false c2; clear c2; have H' := Aside0.mk H; clear H; go_enter Try.func88, Try.ntmps88; go_wp2; go_loopg [0, 3] k (fun kq v0 v3 w' => ∃ (x0_1 : Int) (x3_1 : ByteArray), v0 = .int .i64 x0_1 ∧ v3 = .string x3_1 ∧ Aside0 (laws_markText.l0 kq x0_1 x3_1 = some r) ∧ Aside0 (kq ≤ k) ∧ Aside0 (Below w.heap.size w w'))
  case atStart => exact ⟨(a0), ((⟨#[]⟩ : ByteArray)), zr, zr, H', ⟨Nat.le_refl _⟩, ⟨zB HB⟩⟩
  case round =>
   clear H'; (try clear c2); (try clear c2b0); (try clear p2); obtain ⟨x0_1, x3_1, rfl, rfl, HA, HK1, HB⟩ := hrel
   cases gk with
   | zero => exact absurd HA.out (by simp [laws_markText.l0])
   | succ k1 =>
    have H := HA.out; clear HA; simp only [laws_markText.l0] at H
    by_cases c3 : x0_1 > 0
    ·rw [if_pos c3] at H; have c3b0 : decide (0 < x0_1) = true := decide_eq_true c3; clear c3; obtain ⟨y777, hy777⟩ : ∃ y_ : List Int, y_ = (([(wrap64 (48 + (Int.tmod x0_1 10))) % 256] : List Int)) := ⟨_, rfl⟩
     replace H : (if (strOfNums y777).size + x3_1.size ≤ 9223372036854775807 then (laws_markText.l0 k1 (wrap64 (Int.tdiv x0_1 10)) ((strOfNums y777) ++ x3_1)) else (none)) = some r := by first | (rw [hy777]; with_reducible exact H) | (have H2_ := (Option.bind_some _ _).symm.trans H; rw [hy777]; with_reducible exact H2_) | (have H2_ := (Option.bind_some _ _).symm.trans H; with_reducible exact H2_) | with_reducible exact H | (rw [hy777]; exact H) | exact H
     have Ny777 := Aside0.mk hy777; clear hy777
     by_cases c4 : (strOfNums y777).size + x3_1.size ≤ 9223372036854775807
     ·rw [if_pos c4] at H; have c4b0 := eq_true c4; have c4b1 : decide ((strOfNums y777).size + x3_1.size ≤ 9223372036854775807) = true := decide_eq_true c4
      try have c4b2 : (9223372036854775807 < (strOfNums y777).size + x3_1.size) = False := eq_false (Nat.not_lt.2 c4)
      have H' := Aside0.mk H; clear H; go_wp2_with (first | ((with_reducible refine gate_dst (N := 12) rfl ?_); refine Kd.R_lit (Kd.int .u8) _ 5 ?hg (N := 12) ?hd (xs := ([(wrap64 (48 + (Int.tmod x0_1 10))) % 256] : List Int)) (inner := [.int .u8 ((wrap64 (48 + (Int.tmod x0_1 10))) % 256)]) (ok := fun _ => True) (okp := fun _ => True) ?hr ?hp (fun _ hk => hk) trivial (Below.refl _ _) (Nat.le_refl _) (by simp) ?_; (case hd => rfl); (case hg => rfl); (case hr => first | (go_simp; done) | (go_simp; rfl)); (case hp => exact (Reps.one (show Kd.M (Kd.int .u8) _ _ _ ((wrap64 (48 + (Int.tmod x0_1 10))) % 256) [.int .u8 ((wrap64 (48 + (Int.tmod x0_1 10))) % 256)] from rfl) (Reps.none _ _))); intro v778 w5 ho6 hb hg_ hnew_; clear hg_ hnew_; (first | rw [← Ny777.out] at ho6 | (simp only [Int.reduceToNat] at ho6; rw [← Ny777.out] at ho6)); have HO779 := Aside0.mk (Kd.R_lower ho6 (below_size (zB HB))); replace HB := Aside0.mk (below_step (zB HB) hb); clear hb ho6; have hcv7 := own_string (P := Try.prog) Try.underlying22 Try.underlying5 Try.underlying9 (Kd.own_of_R HO779.out))); go_roundg k1
      case measure => have := HK1.out; omega
      case rel => exact ⟨(wrap64 (Int.tdiv x0_1 10)), ((strOfNums y777) ++ x3_1), zr, zr, H', ⟨by have := HK1.out; omega⟩, ⟨zB HB⟩⟩
     ·rw [if_neg c4] at H; exact absurd H (by simp)
    ·rw [if_neg c3] at H; have c3b0 : decide (0 < x0_1) = false := decide_eq_false c3; clear c3
     by_cases c8 : 1 + x3_1.size ≤ 9223372036854775807
     ·rw [if_pos c8] at H; have c8b0 := eq_true c8; have c8b1 : decide (1 + x3_1.size ≤ 9223372036854775807) = true := decide_eq_true c8
      try have c8b2 : (9223372036854775807 < 1 + x3_1.size) = False := eq_false (Nat.not_lt.2 c8)
      obtain rfl := Option.some.inj H; go_wp2; go_ret; exact ⟨by first | rfl | (simp [errW_none, errW_some] <;> rfl) | (simp [*, errW_none, errW_some] <;> rfl), zB HB⟩
     ·rw [if_neg c8] at H; exact absurd H (by simp)

/-! ### laws_markTurnS: function 38 -/
def laws_markTurnS.l0 : Nat → List (S107) → Int → Int → Option (Int × (List (S107)))
 | 0, _, _, _ => none
 | k + 1, x0, x1, x5 => if x5 < (x0.length : Int) then ((laws_markText.f k x1).bind fun t780 => (if 0 ≤ x5 then ((some (x0.set (x5 : Int).toNat (⟨t780, (rd_T107 x0 x5).f1⟩ : S107) : List (S107))).bind fun y781 => ((laws_markText.f k (wrap64 (x1 + 1))).bind fun t782 => (laws_markTurnS.l0 k (y781.set (x5 : Int).toNat (⟨(rd_T107 y781 x5).f0, t782⟩ : S107)) (wrap64 ((wrap64 (x1 + 1)) + 1)) (wrap64 (x5 + 1))))) else (none))) else (some (x1, x0))
def laws_markTurnS.f (k : Nat) (l0 : List (S107)) (a1 : Int) : Option (Int × (List (S107))) := laws_markTurnS.l0 k l0 a1 0
theorem laws_markTurnS.mono_l : ∀ k, (∀ y0 y1 y2, LeO (laws_markTurnS.l0 k y0 y1 y2) (laws_markTurnS.l0 (k + 1) y0 y1 y2))
 | 0 => fun _ _ _ r h => by simp [laws_markTurnS.l0] at h
 | k + 1 => by
  have ih0 := laws_markTurnS.mono_l k
  ·intro y0 y1 y2; unfold laws_markTurnS.l0
   repeat' first
   | (with_reducible exact ih0 _ _ _)
   | (with_reducible exact laws_markText.mono _ _)
   | (with_reducible exact LeO.refl _)
   | (with_reducible exact LeO.none _)
   | (with_reducible refine LeO.ite ?_ ?_)
   | (with_reducible refine LeO.bind ?_ (fun _ => ?_))
   | exact ih0 _ _ _
   | exact laws_markText.mono _ _
   | exact LeO.none _
   | refine LeO.ite ?_ ?_
   | refine LeO.bind ?_ (fun _ => ?_)
theorem laws_markTurnS.mono : ∀ a0 a1 k, LeO (laws_markTurnS.f k a0 a1) (laws_markTurnS.f (k + 1) a0 a1) := by
 intro a0 a1 k; have ih0 := laws_markTurnS.mono_l k; unfold laws_markTurnS.f
 repeat' first
   | (with_reducible exact ih0 _ _ _)
   | (with_reducible exact laws_markText.mono _ _)
   | (with_reducible exact LeO.refl _)
   | (with_reducible exact LeO.none _)
   | (with_reducible refine LeO.ite ?_ ?_)
   | (with_reducible refine LeO.bind ?_ (fun _ => ?_))
   | exact ih0 _ _ _
   | exact laws_markText.mono _ _
   | exact LeO.none _
   | refine LeO.ite ?_ ?_
   | refine LeO.bind ?_ (fun _ => ?_)
set_option maxHeartbeats 8000000 in
set_option maxRecDepth 100000 in
theorem laws_markTurnS.calls (k : Nat) (P0_ : Nat → Prop) (u9000_ : Value) (l0 : List (S107)) (a1 : Int) (r1 : Int) (r2 : List (S107)) (w0 w : World) (hB : Below w0.heap.size w0 w) (ho0 : Kd.R k107 107 w w0.heap.size P0_ u9000_ l0) (h : laws_markTurnS.f k l0 a1 = some (r1, r2)) :
  Calls Try.prog 38 #[u9000_, .int .i64 a1] w fun e w' => e = .returned (.int .i64 r1) ∧ Kd.R k107 107 w' w0.heap.size (fun k_ => (P0_ k_ ∨ w.heap.size ≤ k_)) u9000_ r2 ∧ Below w0.heap.size w0 w' ∧ Kept w w' (fun k_ => P0_ k_) := by
 have HO0 := Aside0.mk (show Kd.R k107 107 w w0.heap.size (fun k_ => (P0_ k_ ∨ w.heap.size ≤ k_)) u9000_ l0 from Kd.R_mono ho0 (fun k_ hk => (.inl hk))); have HK := Aside0.mk (Kept.refl w (fun k_ => P0_ k_)); have HW0 := Aside0.mk hB.size; have HB := Aside0.mk hB; clear hB; have H : (laws_markTurnS.l0 k l0 a1 0) = some (r1, r2) := h; clear h; have H' := Aside0.mk H; clear H; go_enter Try.func38, Try.ntmps38; go_wp2; go_loopg [1, 5] k (fun kq v1 v5 w' => ∃ (x0_1 : List (S107)) (x1_1 : Int) (x5_1 : Int), v1 = .int .i64 x1_1 ∧ v5 = .int .i64 x5_1 ∧ Aside0 (laws_markTurnS.l0 kq x0_1 x1_1 x5_1 = some (r1, r2)) ∧ Aside0 (kq ≤ k) ∧ Aside0 (Kd.R k107 107 w' w0.heap.size (fun k_ => (P0_ k_ ∨ w.heap.size ≤ k_)) u9000_ x0_1) ∧ Aside0 (Kept w w' (fun k_ => P0_ k_)) ∧ Aside0 (Below w0.heap.size w0 w'))
 case atStart => exact ⟨(l0), (a1), (0), zr, zr, H', ⟨Nat.le_refl _⟩, ⟨zo HO0⟩, ⟨by repeat (first | (with_reducible first | exact HK.out | apply Kept.alloc | apply Kept.drewN | apply Kept.drew) | exact HK.out)⟩, ⟨zB HB⟩⟩
 case round =>
  clear H'; (try clear p2); obtain ⟨x0_1, x1_1, x5_1, rfl, rfl, HA, HK1, HO_0, HK, HB⟩ := hrel
  cases gk with
  | zero => exact absurd HA.out (by simp [laws_markTurnS.l0])
  | succ k1 =>
   have H := HA.out; clear HA; simp only [laws_markTurnS.l0] at H
   by_cases c3 : x5_1 < (x0_1.length : Int)
   ·rw [if_pos c3] at H; have c3b0 : decide (x5_1 < (x0_1.length : Int)) = true := decide_eq_true c3; clear c3; replace H := Option.bind_eq_some_iff.mp H; obtain ⟨t780, A40, H⟩ := H
    (try dsimp only at H)
    have A4 := Aside0.mk A40; clear A40
    by_cases c5 : 0 ≤ x5_1
    ·rw [if_pos c5] at H; have c5b0 : decide (0 ≤ x5_1) = true := decide_eq_true c5; clear c5; obtain ⟨y781, hy781⟩ : ∃ y_ : List (S107), y_ = (x0_1.set (x5_1 : Int).toNat (⟨t780, (rd_T107 x0_1 x5_1).f1⟩ : S107)) := ⟨_, rfl⟩
     replace H : ((laws_markText.f k1 (wrap64 (x1_1 + 1))).bind fun t782 => (laws_markTurnS.l0 k1 (y781.set (x5_1 : Int).toNat (⟨(rd_T107 y781 x5_1).f0, t782⟩ : S107)) (wrap64 ((wrap64 (x1_1 + 1)) + 1)) (wrap64 (x5_1 + 1)))) = some (r1, r2) := by first | (rw [hy781]; with_reducible exact H) | (have H2_ := (Option.bind_some _ _).symm.trans H; rw [hy781]; with_reducible exact H2_) | (have H2_ := (Option.bind_some _ _).symm.trans H; with_reducible exact H2_) | with_reducible exact H | (rw [hy781]; exact H) | exact H
     have Ny781 := Aside0.mk hy781; clear hy781; replace H := Option.bind_eq_some_iff.mp H; obtain ⟨t782, A70, H⟩ := H
     (try dsimp only at H)
     have A7 := Aside0.mk A70; clear A70; obtain ⟨y783, hy783⟩ : ∃ y_ : List (S107), y_ = (y781.set (x5_1 : Int).toNat (⟨(rd_T107 y781 x5_1).f0, t782⟩ : S107)) := ⟨_, rfl⟩
     replace H : (laws_markTurnS.l0 k1 y783 (wrap64 ((wrap64 (x1_1 + 1)) + 1)) (wrap64 (x5_1 + 1))) = some (r1, r2) := by first | (rw [hy783]; with_reducible exact H) | (have H2_ := (Option.bind_some _ _).symm.trans H; rw [hy783]; with_reducible exact H2_) | (have H2_ := (Option.bind_some _ _).symm.trans H; with_reducible exact H2_) | with_reducible exact H | (rw [hy783]; exact H) | exact H
     have Ny783 := Aside0.mk hy783; clear hy783; have H' := Aside0.mk H; clear H; obtain ⟨Ao9, co9, eo9⟩ := Kd.R_slice HO_0.out; subst eo9; go_wp2_with (first | ((with_reducible refine gate_callee (f := 88) rfl ?_); refine goesL_ (some 15) rfl rfl Try.func88 (by kernel_rfl) rfl #[.int .i64 x1_1] rfl zl ?_; (with_reducible refine (laws_markText.calls k1 x1_1 t780 _ A4.out).mono ?_); rintro e w10 ⟨rfl, hb⟩; refine ⟨_, rfl, ?_⟩; replace HO_0 := Aside0.mk (Kd.R_below (zo HO_0) hb); replace HK := Aside0.mk (Kept.below (S := (fun k_ => P0_ k_)) (by repeat (first | (with_reducible first | exact HK.out | apply Kept.alloc | apply Kept.drewN | apply Kept.drew) | exact HK.out)) hb); replace HB := Aside0.mk (below_step (zB HB) hb); (try clear hb); (try clear hb2); (try clear hk); (try clear hi); have p6 : 0 ≤ (x5_1 : Int) := of_decide_eq_true za; have q6 : (x5_1 : Int) < ((x0_1.length : Int) : Int) := of_decide_eq_true za; obtain ⟨go6, co6, eo6, gb6, gl6, cl6, HG6⟩ := Kd.R_form HO_0.out (by omega); (first | cases eo6 | (injection eo6 with ea_ en_ ec_; (first | subst ea_ | (injection ea_ with ea_; subst ea_)); subst ec_; clear en_)); have GB6 := Aside0.mk gb6; have GG6 := Aside0.mk HG6; clear gb6 gl6 HG6; have HMgo6 := Aside0.mk (show (P0_ go6 ∨ w.heap.size ≤ go6) from (HO_0.out.1 _ rfl)); obtain ⟨ce6, hcl6, hM6, hcc6, hfr6⟩ := Kd.R_elem HO_0.out z107 (x5_1 : Int) p6 q6; obtain rfl := k107_openM hM6; have hx6_0 : w10.cell? ⟨go6, (x5_1 : Int).toNat * 2, none⟩ = some (.string ((rd_T107 x0_1 x5_1).f0)) := hcc6 0 _ rfl; have hx6_1 : w10.cell? ⟨go6, (x5_1 : Int).toNat * 2 + 1, none⟩ = some (.string ((rd_T107 x0_1 x5_1).f1)) := hcc6 1 _ rfl; have hf6_0 : w10.frozen? ⟨go6, (x5_1 : Int).toNat * 2, none⟩ = false := hfr6 0; have hf6_1 : w10.frozen? ⟨go6, (x5_1 : Int).toNat * 2 + 1, none⟩ = false := hfr6 1; clear hcl6 hcc6 hfr6 hM6; replace p6 := eq_true p6; replace q6 := eq_true q6; have HX11 := Aside0.mk (show Kd.R k107 107 w10 w0.heap.size (fun k_ => (P0_ k_ ∨ w.heap.size ≤ k_)) (.slice (some ⟨go6, 0, none⟩) x0_1.length co9) x0_1 from (zo HO_0)); obtain ⟨ce11, hcl11, hM11, hcc11, hfr11⟩ := Kd.R_elem HX11.out z107 (x5_1 : Int) (of_decide_eq_true za) (by have h_ : (x5_1 : Int) < ((x0_1.length : Int) : Int) := of_decide_eq_true za; first | exact h_ | (have e_ := (Kd.R_reads' HO_0.out).1; omega) | simpa using h_); obtain rfl := k107_openM hM11; have HP11 := Kd.R_seg HX11.out (x5_1 : Int) (of_decide_eq_true za) (by have h_ : (x5_1 : Int) < ((x0_1.length : Int) : Int) := of_decide_eq_true za; first | exact h_ | (have e_ := (Kd.R_reads' HO_0.out).1; omega) | simpa using h_) (seg := [.string t780]) (j := 0) hcl11 hcc11 (show 1 ≤ 2 from by decide) (x' := (⟨t780, (rd_T107 x0_1 x5_1).f1⟩ : S107)) (k107_mkM _ _ _ (⟨t780, (rd_T107 x0_1 x5_1).f1⟩ : S107) ) (fun _ hk => hk); have hx11_0 := hcc11 0 _ rfl; (try simp only [show (k107).sz = 2 from rfl, Nat.mul_one, Nat.add_zero] at hx11_0); have hf11_0 := hfr11 0; (try simp only [show (k107).sz = 2 from rfl, Nat.mul_one, Nat.add_zero] at hf11_0); clear hcl11 hcc11 hfr11 hM11) | ((with_reducible refine gate_store (t := 9) (p := 17) rfl ?_); refine store_event (t := 9) (p := 17) (v := ?vo_w12) (w1 := (w10.setCell ⟨go6, (x5_1 : Int).toNat * 2, none⟩ (.string t780))) ?hg ?ho ?hn ?hr ?_; (case ho => rfl); (case hg => rfl); (case hn => rfl); (case hr => first | (go_simp; done) | (go_simp; rfl)); intro w12 hw; have hg : w10.grownBy w12 (some go6) := (by rw [hw]; exact HP11.2); have hp_ : Kd.R k107 107 w12 w0.heap.size (fun k_ => (P0_ k_ ∨ w.heap.size ≤ k_)) (.slice (some ⟨go6, 0, none⟩) x0_1.length co9) y781 := (by rw [hw, Ny781.out]; exact HP11.1); clear HP11; replace HB := Aside0.mk ((by rw [hw]; exact below_set (HB.out) GB6.out : Below w0.heap.size w0 w12)); replace HK := Aside0.mk (Kept.of_grown (S := (fun k_ => P0_ k_)) hg (by repeat (first | (with_reducible first | exact HK.out | apply Kept.alloc | apply Kept.drewN | apply Kept.drew) | exact HK.out)) (fun k_ e_ => (HO_0.out.1 k_ e_))); replace HO_0 := Aside0.mk (hp_); clear hg hw hp_) | ((with_reducible refine gate_callee (f := 88) rfl ?_); refine goesL_ (some 23) rfl rfl Try.func88 (by kernel_rfl) rfl #[.int .i64 (wrap64 (x1_1 + 1))] rfl zl ?_; (with_reducible refine (laws_markText.calls k1 (wrap64 (x1_1 + 1)) t782 _ A7.out).mono ?_); rintro e w13 ⟨rfl, hb⟩; refine ⟨_, rfl, ?_⟩; replace HO_0 := Aside0.mk (Kd.R_below (zo HO_0) hb); replace HK := Aside0.mk (Kept.below (S := (fun k_ => P0_ k_)) (by repeat (first | (with_reducible first | exact HK.out | apply Kept.alloc | apply Kept.drewN | apply Kept.drew) | exact HK.out)) hb); replace HB := Aside0.mk (below_step (zB HB) hb); (try clear hb); (try clear hb2); (try clear hk); (try clear hi); have p8 : 0 ≤ (x5_1 : Int) := of_decide_eq_true za; have q8 : (x5_1 : Int) < ((x0_1.length : Int) : Int) := of_decide_eq_true za; obtain ⟨ce8, hcl8, hM8, hcc8, hfr8⟩ := Kd.R_elem HO_0.out z107 (x5_1 : Int) p8 q8; obtain rfl := k107_openM hM8; have hx8_0 : w13.cell? ⟨go6, (x5_1 : Int).toNat * 2, none⟩ = some (.string ((rd_T107 y781 x5_1).f0)) := hcc8 0 _ rfl; have hx8_1 : w13.cell? ⟨go6, (x5_1 : Int).toNat * 2 + 1, none⟩ = some (.string ((rd_T107 y781 x5_1).f1)) := hcc8 1 _ rfl; have hf8_0 : w13.frozen? ⟨go6, (x5_1 : Int).toNat * 2, none⟩ = false := hfr8 0; have hf8_1 : w13.frozen? ⟨go6, (x5_1 : Int).toNat * 2 + 1, none⟩ = false := hfr8 1; clear hcl8 hcc8 hfr8 hM8; replace p8 := eq_true p8; replace q8 := eq_true q8; have HX14 := Aside0.mk (show Kd.R k107 107 w13 w0.heap.size (fun k_ => (P0_ k_ ∨ w.heap.size ≤ k_)) (.slice (some ⟨go6, 0, none⟩) x0_1.length co9) y781 from (zo HO_0)); obtain ⟨ce14, hcl14, hM14, hcc14, hfr14⟩ := Kd.R_elem HX14.out z107 (x5_1 : Int) (of_decide_eq_true za) (by have h_ : (x5_1 : Int) < ((x0_1.length : Int) : Int) := of_decide_eq_true za; first | exact h_ | (have e_ := (Kd.R_reads' HO_0.out).1; omega) | simpa using h_); obtain rfl := k107_openM hM14; have HP14 := Kd.R_seg HX14.out (x5_1 : Int) (of_decide_eq_true za) (by have h_ : (x5_1 : Int) < ((x0_1.length : Int) : Int) := of_decide_eq_true za; first | exact h_ | (have e_ := (Kd.R_reads' HO_0.out).1; omega) | simpa using h_) (seg := [.string t782]) (j := 1) hcl14 hcc14 (show 2 ≤ 2 from by decide) (x' := (⟨(rd_T107 y781 x5_1).f0, t782⟩ : S107)) (k107_mkM _ _ _ (⟨(rd_T107 y781 x5_1).f0, t782⟩ : S107) ) (fun _ hk => hk); have hx14_1 := hcc14 1 _ rfl; (try simp only [show (k107).sz = 2 from rfl, Nat.mul_one, Nat.add_zero] at hx14_1); have hf14_1 := hfr14 1; (try simp only [show (k107).sz = 2 from rfl, Nat.mul_one, Nat.add_zero] at hf14_1); clear hcl14 hcc14 hfr14 hM14) | ((with_reducible refine gate_store (t := 9) (p := 25) rfl ?_); refine store_event (t := 9) (p := 25) (v := ?vo_w15) (w1 := (w13.setCell ⟨go6, (x5_1 : Int).toNat * 2 + 1, none⟩ (.string t782))) ?hg ?ho ?hn ?hr ?_; (case ho => rfl); (case hg => rfl); (case hn => rfl); (case hr => first | (go_simp; done) | (go_simp; rfl)); intro w15 hw; have hg : w13.grownBy w15 (some go6) := (by rw [hw]; exact HP14.2); have hp_ : Kd.R k107 107 w15 w0.heap.size (fun k_ => (P0_ k_ ∨ w.heap.size ≤ k_)) (.slice (some ⟨go6, 0, none⟩) x0_1.length co9) y783 := (by rw [hw, Ny783.out]; exact HP14.1); clear HP14; replace HB := Aside0.mk ((by rw [hw]; exact below_set (HB.out) GB6.out : Below w0.heap.size w0 w15)); replace HK := Aside0.mk (Kept.of_grown (S := (fun k_ => P0_ k_)) hg (by repeat (first | (with_reducible first | exact HK.out | apply Kept.alloc | apply Kept.drewN | apply Kept.drew) | exact HK.out)) (fun k_ e_ => (HO_0.out.1 k_ e_))); replace HO_0 := Aside0.mk (hp_); clear hg hw hp_)); go_roundg k1
     case measure => have := HK1.out; omega
     case rel => exact ⟨(y783), (wrap64 ((wrap64 (x1_1 + 1)) + 1)), (wrap64 (x5_1 + 1)), zr, zr, H', ⟨by have := HK1.out; omega⟩, ⟨zo HO_0⟩, ⟨by repeat (first | (with_reducible first | exact HK.out | apply Kept.alloc | apply Kept.drewN | apply Kept.drew) | exact HK.out)⟩, ⟨zB HB⟩⟩
    ·rw [if_neg c5] at H; exact absurd H (by simp)
   ·rw [if_neg c3] at H; have c3b0 : decide (x5_1 < (x0_1.length : Int)) = false := decide_eq_false c3; clear c3; simp only [Option.some.injEq, Prod.mk.injEq] at H; obtain ⟨rfl, rfl⟩ := H; obtain ⟨Ao16, co16, eo16⟩ := Kd.R_slice HO_0.out; subst eo16; go_wp2; go_ret; exact ⟨by first | rfl | (simp [errW_none, errW_some] <;> rfl) | (simp [*, errW_none, errW_some] <;> rfl), by (with_reducible repeat (first | apply Kd.R_alloc | apply Kd.R_drewN | apply Kd.R_drew)); exact HO_0.out, by repeat (first | (with_reducible first | exact HB.out | apply below_alloc | apply pw_below_drewN | apply below_drew1) | exact HB.out), by repeat (first | (with_reducible first | exact HK.out | apply Kept.alloc | apply Kept.drewN | apply Kept.drew) | exact HK.out)⟩

end Go.Proofs.Ytfcpbgedgedalaa.Q
