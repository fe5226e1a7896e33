-- written by px.py and merge.py (programs of this claim's), over the kit's print. Not trusted: Lean checks it.
import Derived.Test.YtfcpbgedgedalaaQ0
namespace Go.Proofs.Ytfcpbgedgedalaa.Q
open Go.RowKit Go.Proofs.YtfcpbgedgedalaaL.PrintWords Go.Proofs.YtfcpbgedgedalaaL.PrintLast Go.Proofs.YtfcpbgedgedalaaL.PrintMore
attribute [local go_sem] max2_int min2_int max_two min_two max_three min_three max_four min_four   -- for this text's walks alone
set_option linter.unusedVariables false
set_option linter.unusedSimpArgs false

/-! ### impl_in: function 100 -/
def impl_in.f (a0 : Int) (a1 : Int) (a2 : Int) : Option (Bool) := if a0 ≥ a1 then (some (decide (a0 ≤ a2))) else (some false)
set_option maxHeartbeats 8000000 in
set_option maxRecDepth 100000 in
theorem impl_in.calls (a0 : Int) (a1 : Int) (a2 : Int) (r : Bool) (w : World) (h : impl_in.f a0 a1 a2 = some r) :
  Calls Try.prog 100 #[.int .i64 a0, .int .i64 a1, .int .i64 a2] w fun e w' => e = .returned (.bool r) ∧ Drawn0 w w' := by
 have H : (if a0 ≥ a1 then (some (decide (a0 ≤ a2))) else (some false)) = some r := h; clear h
 by_cases c4 : a0 ≥ a1
 ·rw [if_pos c4] at H; have c4b0 : decide (a1 ≤ a0) = true := decide_eq_true c4; clear c4; obtain rfl := Option.some.inj H; go_enter Try.func100, Try.ntmps100; go_wp2; go_ret; exact ⟨by first | rfl | (simp; done) | (simp [*]; done), by repeat (first | exact Drawn0.refl _ | apply Drawn0.step)⟩
 ·rw [if_neg c4] at H; have c4b0 : decide (a1 ≤ a0) = false := decide_eq_false c4; clear c4; obtain rfl := Option.some.inj H; go_enter Try.func100, Try.ntmps100; go_wp2; go_ret; exact ⟨by first | rfl | (simp; done) | (simp [*]; done), by repeat (first | exact Drawn0.refl _ | apply Drawn0.step)⟩

/-! ### impl_isName: function 93 -/
def impl_isName.l0 : Nat → ByteArray → Int → Option (Bool)
 | 0, _, _ => none
 | k + 1, x0, x3 => if x3 < (x0.size : Int) then (if 0 ≤ x3 then (if (bt x0 x3) < 97 then (some false) else (if (bt x0 x3) > 122 then (some false) else (impl_isName.l0 k x0 (wrap64 (x3 + 1))))) else (none)) else ((impl_in.f (x0.size : Int) 1 6).bind fun t275 => (some t275))
def impl_isName.f (k : Nat) (a0 : ByteArray) : Option (Bool) := impl_isName.l0 k a0 0
theorem impl_isName.mono_l : ∀ k, (∀ y0 y1, LeO (impl_isName.l0 k y0 y1) (impl_isName.l0 (k + 1) y0 y1))
 | 0 => fun _ _ r h => by simp [impl_isName.l0] at h
 | k + 1 => by
  have ih0 := impl_isName.mono_l k
  ·intro y0 y1; unfold impl_isName.l0
   repeat' first
   | (with_reducible exact ih0 _ _)
   | (with_reducible exact LeO.refl _)
   | (with_reducible exact LeO.none _)
   | (with_reducible refine LeO.ite ?_ ?_)
   | (with_reducible refine LeO.bind ?_ (fun _ => ?_))
   | exact ih0 _ _
   | exact LeO.none _
   | refine LeO.ite ?_ ?_
   | refine LeO.bind ?_ (fun _ => ?_)
theorem impl_isName.mono : ∀ a0 k, LeO (impl_isName.f k a0) (impl_isName.f (k + 1) a0) := by
 intro a0 k; have ih0 := impl_isName.mono_l k; unfold impl_isName.f
 repeat' first
   | (with_reducible exact ih0 _ _)
   | (with_reducible exact LeO.refl _)
   | (with_reducible exact LeO.none _)
   | (with_reducible refine LeO.ite ?_ ?_)
   | (with_reducible refine LeO.bind ?_ (fun _ => ?_))
   | exact ih0 _ _
   | exact LeO.none _
   | refine LeO.ite ?_ ?_
   | refine LeO.bind ?_ (fun _ => ?_)
set_option maxHeartbeats 8000000 in
set_option maxRecDepth 100000 in
theorem impl_isName.calls (k : Nat) (a0 : ByteArray) (r : Bool) (w : World) (h : impl_isName.f k a0 = some r) :
  Calls Try.prog 93 #[.string a0] w fun e w' => e = .returned (.bool r) ∧ Drawn0 w w' := by
 have H : (impl_isName.l0 k a0 0) = some r := h; clear h; have H' := Aside0.mk H; clear H; go_enter Try.func93, Try.ntmps93; go_wp2; go_loopg [3] k (fun kq v3 w' => ∃ (x3_1 : Int), v3 = .int .i64 x3_1 ∧ Aside0 (impl_isName.l0 kq a0 x3_1 = some r) ∧ Aside0 (kq ≤ k) ∧ Drawn0 w w')
 case atStart => exact ⟨(0), zr, H', ⟨Nat.le_refl _⟩, by repeat (first | exact Drawn0.refl _ | apply Drawn0.step)⟩
 case round =>
  clear H'; obtain ⟨x3_1, rfl, HA, HK1, ⟨m1, rfl⟩⟩ := hrel
  cases gk with
  | zero => exact absurd HA.out (by simp [impl_isName.l0])
  | succ k1 =>
   have H := HA.out; clear HA; simp only [impl_isName.l0] at H
   by_cases c2 : x3_1 < (a0.size : Int)
   ·rw [if_pos c2] at H; have c2b0 : decide (x3_1 < (a0.size : Int)) = true := decide_eq_true c2; clear c2
    by_cases c3 : 0 ≤ x3_1
    ·rw [if_pos c3] at H; have c3b0 : decide (0 ≤ x3_1) = true := decide_eq_true c3; clear c3
     by_cases c5 : (bt a0 x3_1) < 97
     ·rw [if_pos c5] at H; have c5b0 : decide ((bt a0 x3_1) < 97) = true := decide_eq_true c5; clear c5; obtain rfl := Option.some.inj H; have p4 : 0 ≤ (x3_1 : Int) := of_decide_eq_true za; have q4 : x3_1 < (a0.size : Int) := of_decide_eq_true za; have hx4 := bt_at a0 x3_1; replace p4 := eq_true p4; replace q4 := eq_true q4; go_wp2; go_ret; exact ⟨by first | rfl | (simp; done) | (simp [*]; done), by repeat (first | exact Drawn0.refl _ | apply Drawn0.step)⟩
     ·rw [if_neg c5] at H; have c5b0 : decide ((bt a0 x3_1) < 97) = false := decide_eq_false c5; clear c5
      by_cases c7 : (bt a0 x3_1) > 122
      ·rw [if_pos c7] at H; have c7b0 : decide (122 < (bt a0 x3_1)) = true := decide_eq_true c7; clear c7; obtain rfl := Option.some.inj H; have p4 : 0 ≤ (x3_1 : Int) := of_decide_eq_true za; have q4 : x3_1 < (a0.size : Int) := of_decide_eq_true za; have hx4 := bt_at a0 x3_1; replace p4 := eq_true p4; replace q4 := eq_true q4; have p6 : 0 ≤ (x3_1 : Int) := of_decide_eq_true za; have q6 : x3_1 < (a0.size : Int) := of_decide_eq_true za; have hx6 := bt_at a0 x3_1; replace p6 := eq_true p6; replace q6 := eq_true q6; go_wp2; go_ret; exact ⟨by first | rfl | (simp; done) | (simp [*]; done), by repeat (first | exact Drawn0.refl _ | apply Drawn0.step)⟩
      ·rw [if_neg c7] at H; have c7b0 : decide (122 < (bt a0 x3_1)) = false := decide_eq_false c7; clear c7; have H' := Aside0.mk H; clear H; have p4 : 0 ≤ (x3_1 : Int) := of_decide_eq_true za; have q4 : x3_1 < (a0.size : Int) := of_decide_eq_true za; have hx4 := bt_at a0 x3_1; replace p4 := eq_true p4; replace q4 := eq_true q4; have p6 : 0 ≤ (x3_1 : Int) := of_decide_eq_true za; have q6 : x3_1 < (a0.size : Int) := of_decide_eq_true za; have hx6 := bt_at a0 x3_1; replace p6 := eq_true p6; replace q6 := eq_true q6; go_wp2; go_roundg k1
       case measure => have := HK1.out; omega
       case rel => exact ⟨(wrap64 (x3_1 + 1)), zr, H', ⟨by have := HK1.out; omega⟩, by repeat (first | exact Drawn0.refl _ | apply Drawn0.step)⟩
    ·rw [if_neg c3] at H; exact absurd H (by simp)
   ·rw [if_neg c2] at H; have c2b0 : decide (x3_1 < (a0.size : Int)) = false := decide_eq_false c2; clear c2; replace H := Option.bind_eq_some_iff.mp H; obtain ⟨t275, A80, H⟩ := H
    (try dsimp only at H)
    have A8 := Aside0.mk A80; clear A80; obtain rfl := Option.some.inj H; go_wp2_with (first | ((with_reducible refine gate_callee (f := 100) rfl ?_); refine goesL_ (some 22) rfl rfl Try.func100 (by kernel_rfl) rfl #[.int .i64 (a0.size : Int), .int .i64 1, .int .i64 6] rfl zl ?_; (with_reducible refine (impl_in.calls (a0.size : Int) 1 6 t275 _ A8.out).mono ?_); rintro e w' ⟨rfl, ⟨nd, rfl⟩⟩; refine ⟨_, rfl, ?_⟩)); go_ret; exact ⟨by first | rfl | (simp; done) | (simp [*]; done), by repeat (first | exact Drawn0.refl _ | apply Drawn0.step)⟩

/-! ### impl_isValue: function 101 -/
def impl_isValue.f (a0 : Int) : Option (Bool) := (impl_in.f a0 (-99) 99).bind fun t276 => (some t276)
set_option maxHeartbeats 8000000 in
set_option maxRecDepth 100000 in
theorem impl_isValue.calls (a0 : Int) (r : Bool) (w : World) (h : impl_isValue.f a0 = some r) :
  Calls Try.prog 101 #[.int .i64 a0] w fun e w' => e = .returned (.bool r) ∧ Drawn0 w w' := by
 have H : ((impl_in.f a0 (-99) 99).bind fun t276 => (some t276)) = some r := h; clear h; replace H := Option.bind_eq_some_iff.mp H; obtain ⟨t276, A20, H⟩ := H
 (try dsimp only at H)
 have A2 := Aside0.mk A20; clear A20; obtain rfl := Option.some.inj H; go_enter Try.func101, Try.ntmps101; go_wp2_with (first | ((with_reducible refine gate_callee (f := 100) rfl ?_); refine goesL_ (some 4) rfl rfl Try.func100 (by kernel_rfl) rfl #[.int .i64 a0, .int .i64 (-99), .int .i64 99] rfl zl ?_; (with_reducible refine (impl_in.calls a0 (-99) 99 t276 _ A2.out).mono ?_); rintro e w' ⟨rfl, ⟨nd, rfl⟩⟩; refine ⟨_, rfl, ?_⟩)); go_ret; exact ⟨by first | rfl | (simp; done) | (simp [*]; done), by repeat (first | exact Drawn0.refl _ | apply Drawn0.step)⟩

/-! ### impl_Pair_valid: function 65 -/
def impl_Pair_valid.f (k : Nat) (a0_0 : ByteArray) (a0_1 : Int) : Option (Bool) := (impl_isName.f k a0_0).bind fun t278 => (if t278 = true then ((impl_isValue.f a0_1).bind fun t279 => (some t279)) else (some false))
theorem impl_Pair_valid.mono : ∀ a0 a1 k, LeO (impl_Pair_valid.f k a0 a1) (impl_Pair_valid.f (k + 1) a0 a1) := by
 intro a0 a1 k; unfold impl_Pair_valid.f
 repeat' first
   | (with_reducible exact impl_isName.mono _ _)
   | (with_reducible exact LeO.refl _)
   | (with_reducible exact LeO.none _)
   | (with_reducible refine LeO.ite ?_ ?_)
   | (with_reducible refine LeO.bind ?_ (fun _ => ?_))
   | exact impl_isName.mono _ _
   | exact LeO.none _
   | refine LeO.ite ?_ ?_
   | refine LeO.bind ?_ (fun _ => ?_)
set_option maxHeartbeats 8000000 in
set_option maxRecDepth 100000 in
theorem impl_Pair_valid.calls (k : Nat) (a0_0 : ByteArray) (a0_1 : Int) (r : Bool) (w : World) (h : impl_Pair_valid.f k a0_0 a0_1 = some r) :
  Calls Try.prog 65 #[.agg #[.string a0_0, .int .i64 a0_1]] w fun e w' => e = .returned (.bool r) ∧ Below w.heap.size w w' := by
 have hu33 := Try.underlying33; have HB := Aside0.mk (Below.refl w.heap.size w); have H : ((impl_isName.f k a0_0).bind fun t278 => (if t278 = true then ((impl_isValue.f a0_1).bind fun t279 => (some t279)) else (some false))) = some r := h; clear h; replace H := Option.bind_eq_some_iff.mp H; obtain ⟨t278, A20, H⟩ := H
 (try dsimp only at H)
 have A2 := Aside0.mk A20; clear A20
 by_cases c3 : t278 = true
 ·subst c3; rw [if_pos rfl] at H; replace H := Option.bind_eq_some_iff.mp H; obtain ⟨t279, A40, H⟩ := H
  (try dsimp only at H)
  have A4 := Aside0.mk A40; clear A40; obtain rfl := Option.some.inj H; go_enter Try.func65, Try.ntmps65; go_wp2_with (first | ((with_reducible refine gate_dst (N := 1) rfl ?_); refine zx (N := 1) (cs := #[.string a0_0, .int .i64 a0_1]) (t := 33) ?_; intro gb277 hg w5 hbox hb; have BK277 := Aside0.mk (hbox); have GW277 := Aside0.mk ((by rw [hg]; exact (below_size (zB HB)) : w.heap.size ≤ gb277)); have GE277 := GW277; replace HB := Aside0.mk (below_step (zB HB) hb); clear hb hbox hg; have hcz6_0 : w5.cell? ⟨gb277, 0, none⟩ = some (.string a0_0) := (blk_cell BK277.out 0).trans rfl; have hcz6_1 : w5.cell? ⟨gb277, 1, none⟩ = some (.int .i64 a0_1) := (blk_cell BK277.out 1).trans rfl; have hfz6_0 := blk_frozen BK277.out 0; have hfz6_1 := blk_frozen BK277.out 1) | ((with_reducible refine gate_callee (f := 93) rfl ?_); refine goesL_ (some 5) rfl rfl Try.func93 (by kernel_rfl) rfl #[.string a0_0] rfl zl ?_; (with_reducible refine (impl_isName.calls k a0_0 true _ A2.out).mono ?_); rintro e w' ⟨rfl, ⟨nd, rfl⟩⟩; refine ⟨_, rfl, ?_⟩) | (go_at_call 101; (with_reducible refine (impl_isValue.calls a0_1 t279 _ A4.out).mono ?_); rintro e w' ⟨rfl, ⟨nd, rfl⟩⟩)); go_ret; exact ⟨by first | rfl | (simp [errW_none, errW_some] <;> rfl) | (simp [*, errW_none, errW_some] <;> rfl), zB HB⟩
 ·replace c3 := Bool.eq_false_iff.mpr c3; subst c3; rw [if_neg (show ¬ (false = true) by decide)] at H; obtain rfl := Option.some.inj H; go_enter Try.func65, Try.ntmps65; go_wp2_with (first | ((with_reducible refine gate_dst (N := 1) rfl ?_); refine zx (N := 1) (cs := #[.string a0_0, .int .i64 a0_1]) (t := 33) ?_; intro gb277 hg w7 hbox hb; have BK277 := Aside0.mk (hbox); have GW277 := Aside0.mk ((by rw [hg]; exact (below_size (zB HB)) : w.heap.size ≤ gb277)); have GE277 := GW277; replace HB := Aside0.mk (below_step (zB HB) hb); clear hb hbox hg; have hcz8_0 : w7.cell? ⟨gb277, 0, none⟩ = some (.string a0_0) := (blk_cell BK277.out 0).trans rfl; have hcz8_1 : w7.cell? ⟨gb277, 1, none⟩ = some (.int .i64 a0_1) := (blk_cell BK277.out 1).trans rfl; have hfz8_0 := blk_frozen BK277.out 0; have hfz8_1 := blk_frozen BK277.out 1) | ((with_reducible refine gate_callee (f := 93) rfl ?_); refine goesL_ (some 5) rfl rfl Try.func93 (by kernel_rfl) rfl #[.string a0_0] rfl zl ?_; (with_reducible refine (impl_isName.calls k a0_0 false _ A2.out).mono ?_); rintro e w' ⟨rfl, ⟨nd, rfl⟩⟩; refine ⟨_, rfl, ?_⟩)); go_ret; exact ⟨by first | rfl | (simp [errW_none, errW_some] <;> rfl) | (simp [*, errW_none, errW_some] <;> rfl), zB HB⟩

end Go.Proofs.Ytfcpbgedgedalaa.Q

namespace Go.Proofs.Ytfcpbgedgedalaa.Q
open Go.RowKit Go.Proofs.YtfcpbgedgedalaaL.PrintWords Go.Proofs.YtfcpbgedgedalaaL.PrintLast Go.Proofs.YtfcpbgedgedalaaL.PrintMore
attribute [local go_sem] max2_int min2_int max_two min_two max_three min_three max_four min_four   -- for this text's walks alone
set_option linter.unusedVariables false
set_option linter.unusedSimpArgs false

/-! ### slices.IndexFunc at impl.Turn: function 132 -/
set_option maxHeartbeats 8000000 in
set_option maxRecDepth 100000 in
theorem ix132.calls (p : S107 → Bool) (g : Nat) (lb : Array Value) (eg : ∀ args w, (callFunc g args).run Try.prog w = .ok (.enter g args) w) (A0 : Option Addr) (c0 : Nat) (l0 : List (S107)) (w : World)
  (hp : PxPred Try.prog g lb (fun x : S107 => .agg #[.string x.f0, .string x.f1]) p w) (hr0 : Kd.C k107 w A0 l0.length l0) :
  Calls Try.prog 132 #[.slice A0 l0.length c0, .func (.func g) #[] lb] w fun e w' => e = .returned (.int .i64 (pxIdx p l0)) ∧ Below w.heap.size w w' := by
 have HR := Aside0.mk hr0; clear hr0; have hbig : l0.length ≤ 9223372036854775807 := HR.out.2.1; have hu107 := Try.underlying107; go_enter Try.func132, Try.ntmps132; go_wp2; go_loopg [5, 8] l0.length (fun gg _ s8 wr => ∃ kk : Nat, kk ≤ l0.length ∧ l0.length - kk ≤ gg ∧ s8 = .int .i64 kk ∧ Aside0 (Below w.heap.size w wr) ∧ Aside0 (∀ j, j < kk → p (l0.getD j z107) = false))
 case atStart => exact ⟨0, Nat.zero_le _, by omega, rfl, ⟨Below.refl _ w⟩, ⟨fun j hj => absurd hj (Nat.not_lt_zero _)⟩⟩
 case round =>
  obtain ⟨kk, hkk, hg, rfl, BW, A⟩ := hrel
  by_cases hlt : kk < l0.length
  ·have hltz : (kk : Int) < (l0.length : Int) := by omega
   have hz0 : (0 : Int) ≤ (kk : Int) := by omega
   obtain ⟨ad, e, hx0, hx1⟩ := at_T107 (Kd.C_below HR.out BW.out) (kk : Int) hz0 hltz; simp only [Int.toNat_natCast] at hx0 hx1
   cases e
   have hcall := hp wr (rd_T107 l0 (kk : Int)) BW.out; clear hp; have B := Aside0.mk (show rd_T107 l0 (kk : Int) = l0.getD kk z107 from rfl); generalize hy : rd_T107 l0 (kk : Int) = y at hx0 hx1 hcall B; clear hy
   cases hq : p y with
   | true =>
    rw [hq] at hcall; go_wp2_with fail; refine hcall.mono ?_; rintro e w' ⟨rfl, hb'⟩; clear hcall; go_wp2; go_ret; refine ⟨?_, below_then BW.out BW.out.size hb'⟩; rw [pxIdx_hit p l0 z107 kk hlt (by rw [← B.out]; exact hq) A.out]; rfl
   | false =>
    rw [hq] at hcall; go_wp2_with fail; refine hcall.mono ?_; rintro e w' ⟨rfl, hb'⟩; clear hcall; go_wp2; go_roundg (l0.length - (kk + 1))
    case measure => omega
    case rel =>
     refine ⟨kk + 1, by omega, by omega, by go_num, ⟨below_then BW.out BW.out.size hb'⟩, ⟨fun j hj => ?_⟩⟩
     by_cases e : j = kk
     ·subst e; rw [← B.out]; exact hq
     ·exact A.out j (by omega)
  ·have hltz : ¬ (kk : Int) < (l0.length : Int) := by omega
   have : kk = l0.length := by omega
   subst this; go_wp2; go_ret; refine ⟨?_, BW.out⟩; rw [pxIdx_miss p l0 z107 A.out]; rfl
/-! ### slices.ContainsFunc at impl.Turn: function 83 -/
set_option maxHeartbeats 8000000 in
set_option maxRecDepth 100000 in
theorem cf83.calls (p : S107 → Bool) (g : Nat) (lb : Array Value) (eg : ∀ args w, (callFunc g args).run Try.prog w = .ok (.enter g args) w) (A0 : Option Addr) (c0 : Nat) (l0 : List (S107)) (w : World)
  (hp : PxPred Try.prog g lb (fun x : S107 => .agg #[.string x.f0, .string x.f1]) p w) (hr0 : Kd.C k107 w A0 l0.length l0) :
  Calls Try.prog 83 #[.slice A0 l0.length c0, .func (.func g) #[] lb] w fun e w' => e = .returned (.bool (l0.any p)) ∧ Below w.heap.size w w' := by
 rw [← pxIdx_any p l0]; go_enter Try.func83, Try.ntmps83; go_wp2_with fail; refine (ix132.calls p g lb eg A0 c0 l0 w hp hr0).mono ?_; rintro e w' ⟨rfl, hb'⟩; clear hp hr0; go_wp2; go_ret; exact ⟨by first | rfl | simp, hb'⟩
theorem impl_isName.eqL (s : ByteArray) (hs : s.size ≤ 9223372036854775807) : ∀ (d k n : Nat), n ≤ s.size → s.size - n = d → d < k →
  impl_isName.l0 k s (n : Int) = some ((s.data.toList.drop n).all (fun c => decide (97 ≤ c.toNat) && decide (c.toNat ≤ 122)) && (decide (1 ≤ s.size) && decide (s.size ≤ 6))) := by
 intro d
 induction d with
 | zero =>
  intro k n hn hd hk; obtain ⟨k, rfl⟩ : ∃ m, k = m + 1 := ⟨k - 1, by omega⟩
  simp only [impl_isName.l0]; rw [if_neg (by omega), List.drop_of_length_le (by simp; omega)]; unfold impl_in.f
  by_cases h : (s.size : Int) ≥ 1
  ·have h' : 1 ≤ s.size := by omega
   have e : decide ((s.size : Int) ≤ 6) = decide (s.size ≤ 6) := by rw [decide_eq_decide]; omega
   simp [h, h', e]
  ·have h' : ¬ 1 ≤ s.size := by omega
   simp [h, h']
 | succ d ih =>
  intro k n hn hd hk; obtain ⟨k, rfl⟩ : ∃ m, k = m + 1 := ⟨k - 1, by omega⟩
  have hlt : n < s.size := by omega
  simp only [impl_isName.l0]; rw [if_pos (by omega), if_pos (by omega), bt_nat s n hlt, wrap_succ hlt hs, ih k (n + 1) (by omega) (by omega) (by omega), bt_drop s n hlt, List.all_cons]
  by_cases h1 : (s[n].toNat : Int) < 97
  ·have h1' : ¬ 97 ≤ s[n].toNat := by omega
   rw [if_pos h1]; simp [h1']
  ·have h1' : 97 ≤ s[n].toNat := by omega
   rw [if_neg h1]
   by_cases h2 : (s[n].toNat : Int) > 122
   ·have h2' : ¬ s[n].toNat ≤ 122 := by omega
    rw [if_pos h2]; simp [h2']
   ·have h2' : s[n].toNat ≤ 122 := by omega
    rw [if_neg h2]; simp [h1', h2']
theorem impl_isName.eq (s : ByteArray) (hs : s.size ≤ 9223372036854775807) (k : Nat) (hk : s.size < k) : impl_isName.f k s = some (pxName s) := by
 unfold impl_isName.f pxName; exact impl_isName.eqL s hs s.size k 0 (by omega) (by omega) hk
def pxTurnOk (l : List S107) (i : Nat) : Bool :=
 pxName (l.getD i z107).f0 && l.any (fun x => x.f0.toList == (l.getD i z107).f1.toList) && !((l.take i).any fun x => x.f0.toList == (l.getD i z107).f0.toList || x.f1.toList == (l.getD i z107).f1.toList)
/-- What ValidTurns computes. -/
def pxTurns (l : List S107) : Bool := (List.range l.length).all (pxTurnOk l) && decide (l.length ≤ 8)
theorem pxTurns_no (l : List S107) (i : Nat) (hi : i < l.length) (h : pxTurnOk l i = false) : pxTurns l = false := by
 unfold pxTurns
 have : (List.range l.length).all (pxTurnOk l) = false := by
  rw [List.all_eq_false]; exact ⟨i, List.mem_range.2 hi, by simp [h]⟩
 rw [this]; rfl
theorem pxTurns_end (l : List S107) (h : ∀ j, j < l.length → pxTurnOk l j = true) : pxTurns l = decide (l.length ≤ 8) := by
 unfold pxTurns
 have : (List.range l.length).all (pxTurnOk l) = true := by
  rw [List.all_eq_true]; intro j hj; exact h j (List.mem_range.1 hj)
 rw [this]; rfl
set_option maxHeartbeats 8000000 in
set_option maxRecDepth 100000 in
theorem impl_ValidTurns.pred1 (a b : ByteArray) (B : Nat) (w : World) (h1 : w.cell? ⟨B, 1, none⟩ = some (.string b)) :
  PxPred Try.prog 94 #[.pointer (some ⟨B, 0, none⟩)] (fun x : S107 => .agg #[.string x.f0, .string x.f1]) (fun x : S107 => x.f0.toList == b.toList) w := by
 intro W x hb; have h1' : W.cell? ⟨B, 1, none⟩ = some (.string b) := (hb.cell (p := ⟨B, 1, none⟩) (World.block_lt_of_cell? w _ h1)).trans h1; have hB' : B < W.heap.size := World.block_lt_of_cell? W _ h1'; clear h1
 show Calls Try.prog 94 #[.agg #[.string x.f0, .string x.f1], .pointer (some ⟨B, 0, none⟩)] W _
 have hu107 := Try.underlying107; go_enter Try.func94, Try.ntmps94; go_wp2; go_ret; exact ⟨rfl, px_alloc _ _⟩
set_option maxHeartbeats 8000000 in
set_option maxRecDepth 100000 in
theorem impl_ValidTurns.pred2 (a b : ByteArray) (B : Nat) (w : World) (h0 : w.cell? ⟨B, 0, none⟩ = some (.string a)) (h1 : w.cell? ⟨B, 1, none⟩ = some (.string b)) :
  PxPred Try.prog 95 #[.pointer (some ⟨B, 0, none⟩)] (fun x : S107 => .agg #[.string x.f0, .string x.f1]) (fun x : S107 => x.f0.toList == a.toList || x.f1.toList == b.toList) w := by
 intro W x hb; have h0' : W.cell? ⟨B, 0, none⟩ = some (.string a) := (hb.cell (p := ⟨B, 0, none⟩) (World.block_lt_of_cell? w _ h0)).trans h0; have h1' : W.cell? ⟨B, 1, none⟩ = some (.string b) := (hb.cell (p := ⟨B, 1, none⟩) (World.block_lt_of_cell? w _ h1)).trans h1; have hB' : B < W.heap.size := World.block_lt_of_cell? W _ h1'; clear h0 h1
 show Calls Try.prog 95 #[.agg #[.string x.f0, .string x.f1], .pointer (some ⟨B, 0, none⟩)] W _
 have hu107 := Try.underlying107
 cases hq : (x.f0.toList == a.toList)
 ·go_enter Try.func95, Try.ntmps95; go_wp2; go_ret; exact ⟨by first | rfl | simp [hq], px_alloc _ _⟩
 ·go_enter Try.func95, Try.ntmps95; go_wp2; go_ret; exact ⟨by first | rfl | simp [hq], px_alloc _ _⟩
set_option maxHeartbeats 8000000 in
set_option maxRecDepth 100000 in
theorem impl_ValidTurns.cfn (p : S107 → Bool) (g : Nat) (lb : Array Value) (eg : ∀ args w, (callFunc g args).run Try.prog w = .ok (.enter g args) w) (A0 : Option Addr) (c0 n : Nat) (l0 : List S107) (hn : l0.length = n) (w : World)
  (hp : PxPred Try.prog g lb (fun x : S107 => .agg #[.string x.f0, .string x.f1]) p w) (hr0 : Kd.C k107 w A0 l0.length l0) :
  Calls Try.prog 83 #[.slice A0 n c0, .func (.func g) #[] lb] w fun e w' => e = .returned (.bool (l0.any p)) ∧ Below w.heap.size w w' := by
 subst hn; exact cf83.calls p g lb eg A0 c0 l0 w hp hr0
/-! ### impl_ValidTurns: function 46 (a contract of our own) -/
def impl_ValidTurns.f (l0 : List (S107)) : Option (Bool) := if l0.all (fun x => decide (x.f0.size ≤ 9223372036854775807)) = true then some (pxTurns l0) else none
set_option maxHeartbeats 8000000 in
set_option maxRecDepth 100000 in
theorem impl_ValidTurns.calls (A0 : Option Addr) (c0 : Nat) (l0 : List (S107)) (r : Bool) (w : World) (hr0 : Kd.C k107 w A0 l0.length l0) (hc0 : l0.length ≤ c0) (h : impl_ValidTurns.f l0 = some r) :
  Calls Try.prog 46 #[.slice A0 l0.length c0] w fun e w' => e = .returned (.bool r) ∧ Below w.heap.size w w' := by
 have hl : ∀ j, j < l0.length → (l0.getD j z107).f0.size ≤ 9223372036854775807 := by
  intro j hj; unfold impl_ValidTurns.f at h; split at h
  ·rename_i hh
   rw [List.all_eq_true] at hh; rw [List.getD_eq_getElem?_getD, List.getElem?_eq_getElem hj]; simpa using hh _ (List.getElem_mem hj)
  ·cases h
 have hr : r = pxTurns l0 := by
  unfold impl_ValidTurns.f at h; split at h
  ·exact (Option.some.inj h).symm
  ·cases h
 have HG := Aside0.mk hr; clear h hr; have HR := Aside0.mk hr0; have HL := Aside0.mk hl; clear hr0 hl; have hbig : l0.length ≤ 9223372036854775807 := HR.out.2.1; have hu107 := Try.underlying107; have eg1 := px_enters Try.func94 (by kernel_rfl) rfl; have eg2 := px_enters Try.func95 (by kernel_rfl) rfl; go_enter Try.func46, Try.ntmps46; go_wp2; go_loopg [7] l0.length (fun gg s7 wr => ∃ kk : Nat, kk ≤ l0.length ∧ l0.length - kk ≤ gg ∧ s7 = .int .i64 kk ∧ Aside0 (Below w.heap.size w wr) ∧ Aside0 (∀ j, j < kk → pxTurnOk l0 j = true))
 case atStart => exact ⟨0, Nat.zero_le _, by omega, rfl, ⟨px_refl _⟩, ⟨fun j hj => absurd hj (Nat.not_lt_zero _)⟩⟩
 case round =>
  obtain ⟨kk, hkk, hg, rfl, BW, OK⟩ := hrel
  by_cases hlt : kk < l0.length
  ·have hltz : (kk : Int) < (l0.length : Int) := by omega
   have hz0 : (0 : Int) ≤ (kk : Int) := by omega
   obtain ⟨ad, e, hx0, hx1⟩ := at_T107 (Kd.C_below HR.out BW.out) (kk : Int) hz0 hltz; simp only [Int.toNat_natCast] at hx0 hx1
   cases e
   rw [show rd_T107 l0 (kk : Int) = l0.getD kk z107 from rfl] at hx0 hx1; have HT := Aside0.mk (show pxTurnOk l0 kk = (pxName (l0.getD kk z107).f0 && l0.any (fun x => x.f0.toList == (l0.getD kk z107).f1.toList) && !((l0.take kk).any fun x => x.f0.toList == (l0.getD kk z107).f0.toList || x.f1.toList == (l0.getD kk z107).f1.toList)) from rfl); have hsz := HL.out kk hlt; generalize l0.getD kk z107 = y at *; have HN := Aside0.mk (impl_isName.eq y.f0 hsz (y.f0.size + 1) (by omega)); clear hsz
   cases hq1 : pxName y.f0 with
   | false =>
    rw [hq1] at HT HN; clear hq1; have HNo := Aside0.mk (pxTurns_no l0 kk hlt HT.out); clear HT; go_wp2_with fail; refine (impl_isName.calls _ _ _ _ HN.out).mono ?_; rintro e w1 ⟨rfl, hd⟩; have hb := hd.below; clear hd; have HB := Aside0.mk (below_then BW.out BW.out.size (below_then (px_alloc _ _) (by simp) hb)); clear hb; go_wp2; go_ret; exact ⟨by rw [HG.out, HNo.out]; rfl, HB.out⟩
   | true =>
    rw [hq1] at HT HN; clear hq1; go_wp2_with fail; refine (impl_isName.calls _ _ _ _ HN.out).mono ?_; rintro e w1 ⟨rfl, hd⟩; have hb := hd.below; clear hd; have hc0 : w1.cell? ⟨wr.heap.size, 0, none⟩ = some (.string y.f0) := (hb.cell (p := ⟨wr.heap.size, 0, none⟩) (by simp)).trans (by go_simp); have hc1 : w1.cell? ⟨wr.heap.size, 1, none⟩ = some (.string y.f1) := (hb.cell (p := ⟨wr.heap.size, 1, none⟩) (by simp)).trans (by go_simp); have HB := Aside0.mk (below_then BW.out BW.out.size (below_then (px_alloc _ _) (by simp) hb)); clear hb; generalize hq2 : l0.any (fun x => x.f0.toList == y.f1.toList) = q2 at HT; have HQ2 := Aside0.mk hq2; clear hq2; go_wp2_with fail; refine (impl_ValidTurns.cfn (fun x : S107 => x.f0.toList == y.f1.toList) 94 _ eg1 _ c0 _ l0 rfl _ (impl_ValidTurns.pred1 y.f0 y.f1 _ _ hc1) (Kd.C_below HR.out HB.out)).mono ?_; rintro e w2 ⟨rfl, hb2⟩; rw [HQ2.out]; have hd0 : w2.cell? ⟨wr.heap.size, 0, none⟩ = some (.string y.f0) := (hb2.cell (p := ⟨wr.heap.size, 0, none⟩) (World.block_lt_of_cell? w1 _ hc0)).trans hc0; have hd1 : w2.cell? ⟨wr.heap.size, 1, none⟩ = some (.string y.f1) := (hb2.cell (p := ⟨wr.heap.size, 1, none⟩) (World.block_lt_of_cell? w1 _ hc1)).trans hc1; have HB2 := Aside0.mk (below_then HB.out HB.out.size hb2); clear hb2 hc0 hc1 HQ2
    cases q2 with
    | false =>
     have HNo := Aside0.mk (pxTurns_no l0 kk hlt HT.out); clear HT; go_wp2; go_ret; exact ⟨by rw [HG.out, HNo.out]; rfl, HB2.out⟩
    | true =>
     generalize hq3 : (l0.take kk).any (fun x => x.f0.toList == y.f0.toList || x.f1.toList == y.f1.toList) = q3 at HT; have HQ3 := Aside0.mk hq3; clear hq3; have hk1 : (kk : Int) ≤ (c0 : Int) := by omega
     go_wp2_with fail; refine (impl_ValidTurns.cfn (fun x : S107 => x.f0.toList == y.f0.toList || x.f1.toList == y.f1.toList) 95 _ eg2 _ c0 _ (l0.take kk) (by rw [List.length_take]; omega) _ (impl_ValidTurns.pred2 y.f0 y.f1 _ _ hd0 hd1) (Kd.C_take (Kd.C_below HR.out HB2.out) (by omega))).mono ?_; rintro e w3 ⟨rfl, hb3⟩; rw [HQ3.out]; have HB3 := Aside0.mk (below_then HB2.out HB2.out.size hb3); clear hb3 hd0 hd1 HQ3
     cases q3 with
     | true =>
      have HNo := Aside0.mk (pxTurns_no l0 kk hlt HT.out); clear HT; go_wp2; go_ret; exact ⟨by rw [HG.out, HNo.out]; rfl, HB3.out⟩
     | false =>
      go_wp2; go_roundg (l0.length - (kk + 1))
      case measure => omega
      case rel =>
       refine ⟨kk + 1, by omega, by omega, by go_num, HB3, ⟨fun j hj => ?_⟩⟩
       by_cases e : j = kk
       ·subst e; exact HT.out
       ·exact OK.out j (by omega)
  ·have : kk = l0.length := by omega
   subst this; have hltz : ¬ (l0.length : Int) < (l0.length : Int) := by omega
   have HE := Aside0.mk (pxTurns_end l0 OK.out); have HD := Aside0.mk (show decide ((l0.length : Int) ≤ 8) = decide (l0.length ≤ 8) by rw [decide_eq_decide]; omega); go_wp2; go_ret; exact ⟨by rw [HG.out, HE.out, ← HD.out]; first | rfl | (simp; done), BW.out⟩

end Go.Proofs.Ytfcpbgedgedalaa.Q

namespace Go.Proofs.Ytfcpbgedgedalaa.Q
open Go.RowKit Go.Proofs.YtfcpbgedgedalaaL.PrintWords Go.Proofs.YtfcpbgedgedalaaL.PrintLast Go.Proofs.YtfcpbgedgedalaaL.PrintMore
attribute [local go_sem] max2_int min2_int max_two min_two max_three min_three max_four min_four   -- for this text's walks alone
set_option linter.unusedVariables false
set_option linter.unusedSimpArgs false

/-! ### slices.Grow of nil at impl.Turn: function 131 -/
set_option maxHeartbeats 8000000 in
set_option maxRecDepth 100000 in
theorem gr131.calls (m : Int) (w : World) (h0 : 0 ≤ m) (hl : m.toNat * 32 ≤ 140737488355328) :
  Calls Try.prog 131 #[.slice none 0 0, .int .i64 m] w fun e w' => ∃ v0_ : Value, e = .returned v0_ ∧ Kd.R k107 107 w' w.heap.size (fun _ => True) v0_ [] ∧ Below w.heap.size w w' := by
 have HL := Aside0.mk hl; have hm : m ≤ 140737488355328 := by omega
 clear hl; have h1 : decide (m < 0) = false := by simp; omega
 by_cases hp : 0 < m
 ·go_enter Try.func131, Try.ntmps131; go_wp2_with (first | ((with_reducible refine gate_dst (N := 22) rfl ?_); refine Kd.R_append_zeros k107 (w0 := w) w.heap.size (by rfl) (.tmp 20) (.tmp 21) 55 3 107 (.agg #[(.string ⟨#[]⟩), (.string ⟨#[]⟩)]) 32 rfl Try.underlying55 Try.underlying3 info107 rfl (by decide) (by decide) (.slice none 0 0) ([] : List (S107)) z107 m (fun _ => True) rfl rfl (k107_mkM _ _ _ z107) (fun _ _ => trivial) (Kd.R_nil _ _ _ _ _) h0 (px_refl _) (Nat.le_refl _) ?aL ?_; (case aL => simpa using HL.out); intro v7 w7 ho7 hb7 hg_ hnew_; clear hg_ hnew_; obtain ⟨A7, c7, rfl⟩ := Kd.R_slice ho7; have hn7 := (Kd.R_reads' ho7).2.1; have HO7 := Aside0.mk ho7; have HB7 := Aside0.mk hb7; clear ho7 hb7)); go_ret; exact ⟨_, rfl, by simpa using Kd.R_take (m := 0) HO7.out (Nat.zero_le _), HB7.out⟩
 ·have : m = 0 := by omega
  subst this; go_enter Try.func131, Try.ntmps131; go_wp2; go_ret; exact ⟨_, rfl, Kd.R_nil _ _ _ _ _, px_refl _⟩
/-! ### impl_Turn_82: function 82 (a contract of our own) -/
def impl_Turn_82.f (l0 : List (List (S107))) : Option ((List (S107))) := if l0.flatten.length * 32 ≤ 140737488355328 then some l0.flatten else none
set_option maxHeartbeats 8000000 in
set_option maxRecDepth 100000 in
theorem impl_Turn_82.calls (A0 : Option Addr) (c0 : Nat) (l0 : List (List (S107))) (r : List (S107)) (w : World) (hr0 : Kd.C (Kd.slice 107 k107) w A0 l0.length l0) (hc0 : l0.length ≤ c0) (h : impl_Turn_82.f l0 = some r) :
  Calls Try.prog 82 #[.slice A0 l0.length c0] w fun e w' => ∃ v0_ : Value, e = .returned (v0_) ∧ Kd.R k107 107 w' w.heap.size (fun _ => True) v0_ r ∧ Below w.heap.size w w' := by
 have hl : l0.flatten.length * 32 ≤ 140737488355328 := by unfold impl_Turn_82.f at h; split at h; assumption; cases h
 have hr : r = l0.flatten := by unfold impl_Turn_82.f at h; rw [if_pos hl] at h; exact (Option.some.inj h).symm
 subst hr; clear h; have HR := Aside0.mk hr0; clear hr0; have hbig : l0.length ≤ 9223372036854775807 := HR.out.2.1; have hfb : l0.flatten.length ≤ 140737488355328 := by omega
 go_enter Try.func82, Try.ntmps82; go_wp2; go_loopg [3, 11] l0.length (fun gg v3 v11 wr => ∃ kk : Nat, kk ≤ l0.length ∧ l0.length - kk ≤ gg ∧ v3 = .int .i64 ((l0.take kk).flatten.length : Nat) ∧ v11 = .int .i64 kk ∧ Aside0 (Below w.heap.size w wr))
 case atStart => exact ⟨0, Nat.zero_le _, by omega, by simp, rfl, ⟨px_refl _⟩⟩
 case round =>
  obtain ⟨kk, hkk, hg, rfl, rfl, BW⟩ := hrel
  by_cases hlt : kk < l0.length
  ·have hltz : (kk : Int) < (l0.length : Int) := by omega
   have hz0 : (0 : Int) ≤ (kk : Int) := by omega
   obtain ⟨ad, A1, c1, e, hx0, hl1, hC1⟩ := at_L13 (Kd.C_below HR.out BW.out) (kk : Int) hz0 hltz; simp only [Int.toNat_natCast] at hx0
   cases e
   have hft := px_flat_take l0 kk hlt []; have hle := px_flat_le l0 (kk + 1); rw [hft, List.length_append] at hle; rw [show rd_L13 l0 (kk : Int) = l0.getD kk [] from rfl] at hx0 hl1; have HF := Aside0.mk (show (l0.take (kk + 1)).flatten.length = (l0.take kk).flatten.length + (l0.getD kk []).length by rw [hft, List.length_append]); clear hft hC1; generalize (l0.getD kk []).length = n1 at *; generalize (l0.take kk).flatten.length = n0 at *; have hb1 : (n0 : Int) + (n1 : Int) ≤ 140737488355328 := by omega
   have hb2 : decide ((n0 : Int) + (n1 : Int) < 0) = false := by simp; omega
   go_wp2; go_roundg (l0.length - (kk + 1))
   case measure => omega
   case rel => exact ⟨kk + 1, by omega, by omega, by rw [HF.out]; simp, by go_num, BW⟩
  ·have : kk = l0.length := by omega
   subst this; have HT := Aside0.mk (show (l0.take l0.length).flatten.length = l0.flatten.length by rw [List.take_length]); rw [HT.out]; generalize hfl : l0.flatten.length = fl at *; have HFL := Aside0.mk hfl; clear hfl; have hltz : ¬ (l0.length : Int) < (l0.length : Int) := by omega
   go_wp2_with fail; refine (gr131.calls (fl : Int) _ (by omega) (by simpa using hl)).mono ?_; rintro e w1 ⟨v1, rfl, hv1, hb1⟩; have HO1 := Aside0.mk hv1; have HB1 := Aside0.mk (below_then BW.out BW.out.size hb1); have HO1' := Aside0.mk (Kd.R_lower HO1.out BW.out.size); clear hv1 hb1 HO1; go_wp2; go_loopg [6, 27] l0.length (fun gg v6 v27 wr => ∃ kk : Nat, kk ≤ l0.length ∧ l0.length - kk ≤ gg ∧ v27 = .int .i64 kk ∧ Aside0 (Kd.R k107 107 wr w.heap.size (fun _ => True) v6 (l0.take kk).flatten) ∧ Aside0 (Below w.heap.size w wr))
   case atStart => exact ⟨0, Nat.zero_le _, by omega, rfl, ⟨HO1'.out⟩, HB1⟩
   case round =>
    clear HO1' HB1 BW; obtain ⟨kk, hkk, hg, rfl, HO, BW⟩ := hrel
    by_cases hlt : kk < l0.length
    ·have hltz : (kk : Int) < (l0.length : Int) := by omega
     have hz0 : (0 : Int) ≤ (kk : Int) := by omega
     obtain ⟨ad, A1, c1, e, hx0, hl1, hC1⟩ := at_L13 (Kd.C_below HR.out BW.out) (kk : Int) hz0 hltz; simp only [Int.toNat_natCast] at hx0
     cases e
     have hft := px_flat_take l0 kk hlt []; have hle := px_flat_le l0 (kk + 1); rw [hft, List.length_append] at hle; rw [show rd_L13 l0 (kk : Int) = l0.getD kk [] from rfl] at hx0 hl1 hC1; generalize l0.getD kk [] = y at *; have HF := Aside0.mk hft; have HLe := Aside0.mk hle; have HC1 := Aside0.mk hC1; clear hft hC1 hle; have hFL := HFL.out; clear HFL; go_wp2_with (first | ((with_reducible refine gate_dst (N := 33) rfl ?_); refine Kd.R_append_rows k107 (Rr := k107.K wr) (w0 := w) w.heap.size (by rfl) (.tmp 31) (.tmp 32) 55 107 (.agg #[(.string ⟨#[]⟩), (.string ⟨#[]⟩)]) 32 rfl Try.underlying55 info107 rfl (by decide) (by omega) _ (l0.take kk).flatten y _ _ _ (fun _ => True) (fun _ => False) rfl rfl HO.out HC1.out (fun x cs h => by rw [k107_open h]; exact k107_mkM _ _ _ _) (fun _ h => h.elim) (fun _ _ => trivial) BW.out BW.out.size ?aL ?_; (case aL => have := HLe.out; omega); intro v7 w7 ho7 hb7 hg_ hnew_; clear hg_ hnew_; have HO7 := Aside0.mk ho7; have HB7 := Aside0.mk hb7; clear ho7 hb7)); go_roundg (l0.length - (kk + 1))
     case measure => omega
     case rel => exact ⟨kk + 1, by omega, by omega, by go_num, ⟨by rw [HF.out]; exact HO7.out⟩, HB7⟩
    ·have : kk = l0.length := by omega
     subst this; have hltz : ¬ (l0.length : Int) < (l0.length : Int) := by omega
     go_wp2; go_ret; exact ⟨_, rfl, by have h := HO.out; rwa [List.take_length] at h, BW.out⟩

/-! ### impl_turn: function 85 -/
def impl_turn.l0 : Nat → ByteArray → List (S107) → Int → Int → Option (ByteArray)
 | 0, _, _, _, _ => none
 | k + 1, x1, x7, x8, x9 => if x9 < x8 then (if 0 ≤ x9 then (if x9 < (x7.length : Int) then (if ((rd_T107 x7 x9).f0).toList = x1.toList then (some ((rd_T107 x7 x9).f1)) else (impl_turn.l0 k x1 x7 x8 (wrap64 (x9 + 1)))) else (none)) else (none)) else (some x1)
def impl_turn.f (k : Nat) (l0 : List (S107)) (a1 : ByteArray) : Option (ByteArray) := impl_turn.l0 k a1 l0 (l0.length : Int) 0
theorem impl_turn.mono_l : ∀ k, (∀ y0 y1 y2 y3, LeO (impl_turn.l0 k y0 y1 y2 y3) (impl_turn.l0 (k + 1) y0 y1 y2 y3))
 | 0 => fun _ _ _ _ r h => by simp [impl_turn.l0] at h
 | k + 1 => by
  have ih0 := impl_turn.mono_l k
  ·intro y0 y1 y2 y3; unfold impl_turn.l0
   repeat' first
   | (with_reducible exact ih0 _ _ _ _)
   | (with_reducible exact LeO.refl _)
   | (with_reducible exact LeO.none _)
   | (with_reducible refine LeO.ite ?_ ?_)
   | (with_reducible refine LeO.bind ?_ (fun _ => ?_))
   | exact ih0 _ _ _ _
   | exact LeO.none _
   | refine LeO.ite ?_ ?_
   | refine LeO.bind ?_ (fun _ => ?_)
theorem impl_turn.mono : ∀ a0 a1 k, LeO (impl_turn.f k a0 a1) (impl_turn.f (k + 1) a0 a1) := by
 intro a0 a1 k; have ih0 := impl_turn.mono_l k; unfold impl_turn.f
 repeat' first
   | (with_reducible exact ih0 _ _ _ _)
   | (with_reducible exact LeO.refl _)
   | (with_reducible exact LeO.none _)
   | (with_reducible refine LeO.ite ?_ ?_)
   | (with_reducible refine LeO.bind ?_ (fun _ => ?_))
   | exact ih0 _ _ _ _
   | exact LeO.none _
   | refine LeO.ite ?_ ?_
   | refine LeO.bind ?_ (fun _ => ?_)
set_option maxHeartbeats 8000000 in
set_option maxRecDepth 100000 in
theorem impl_turn.calls (k : Nat) (A0 : Option Addr) (c0 : Nat) (l0 : List (S107)) (a1 : ByteArray) (r : ByteArray) (w : World) (hr0 : Kd.C k107 w A0 l0.length l0) (hc0 : l0.length ≤ c0) (h : impl_turn.f k l0 a1 = some r) :
  Calls Try.prog 85 #[.slice A0 l0.length c0, .string a1] w fun e w' => e = .returned (.string r) ∧ Below w.heap.size w w' := by
 have hu107 := Try.underlying107; have HR0 := Aside0.mk hr0; have HC0 := Aside0.mk hc0; clear hr0 hc0; have HB := Aside0.mk (Below.refl w.heap.size w); have H : (impl_turn.l0 k a1 l0 (l0.length : Int) 0) = some r := h; clear h; have H' := Aside0.mk H; clear H; go_enter Try.func85, Try.ntmps85; go_wp2; go_loopg [9] k (fun kq v9 w' => ∃ (x9_1 : Int), v9 = .int .i64 x9_1 ∧ Aside0 (impl_turn.l0 kq a1 l0 (l0.length : Int) x9_1 = some r) ∧ Aside0 (kq ≤ k) ∧ Aside0 (Below w.heap.size w w'))
 case atStart => exact ⟨(0), zr, H', ⟨Nat.le_refl _⟩, ⟨zB HB⟩⟩
 case round =>
  clear H'; (try clear p2); obtain ⟨x9_1, rfl, HA, HK1, HB⟩ := hrel
  cases gk with
  | zero => exact absurd HA.out (by simp [impl_turn.l0])
  | succ k1 =>
   have H := HA.out; clear HA; simp only [impl_turn.l0] at H
   by_cases c3 : x9_1 < (l0.length : Int)
   ·rw [if_pos c3] at H; have c3b0 : decide (x9_1 < (l0.length : Int)) = true := decide_eq_true c3; clear c3
    by_cases c4 : 0 ≤ x9_1
    ·rw [if_pos c4] at H; have c4b0 : decide (0 ≤ x9_1) = true := decide_eq_true c4; clear c4
     by_cases c5 : x9_1 < (l0.length : Int)
     ·rw [if_pos c5] at H; have c5b0 : decide (x9_1 < (l0.length : Int)) = true := decide_eq_true c5; clear c5
      by_cases c6 : ((rd_T107 l0 x9_1).f0).toList = a1.toList
      ·rw [if_pos c6] at H; have c6b0 : (((rd_T107 l0 x9_1).f0).toList == a1.toList) = true := beq_iff_eq.mpr c6; have c6b1 : (((rd_T107 l0 x9_1).f0).toList != a1.toList) = false := bne_eq_false_iff_eq.mpr c6; clear c6; obtain rfl := Option.some.inj H; have p770 : 0 ≤ (x9_1 : Int) := of_decide_eq_true za; have q770 : x9_1 < (l0.length : Int) := of_decide_eq_true za; obtain ⟨ad770, e770, hx770_0, hx770_1⟩ := at_T107 HR0.out x9_1 p770 q770
       cases e770
       replace hx770_0 := (HB.out.cell (World.block_lt_of_cell? w _ hx770_0)).trans hx770_0; replace hx770_1 := (HB.out.cell (World.block_lt_of_cell? w _ hx770_1)).trans hx770_1; replace p770 := eq_true p770; replace q770 := eq_true q770; go_wp2_with (first | ((with_reducible refine gate_dst (N := 6) rfl ?_); refine zx (N := 6) (cs := #[.string (⟨#[]⟩ : ByteArray), .string (⟨#[]⟩ : ByteArray)]) (t := 107) ?_; intro gb771 hg w7 hbox hb; have BK771 := Aside0.mk (hbox); have GW771 := Aside0.mk ((by rw [hg]; exact (below_size (zB HB)) : w.heap.size ≤ gb771)); have GE771 := GW771; replace HB := Aside0.mk (below_step (zB HB) hb); clear hb hbox hg; have hcz8_0 : w7.cell? ⟨gb771, 0, none⟩ = some (.string (⟨#[]⟩ : ByteArray)) := (blk_cell BK771.out 0).trans rfl; have hcz8_1 : w7.cell? ⟨gb771, 1, none⟩ = some (.string (⟨#[]⟩ : ByteArray)) := (blk_cell BK771.out 1).trans rfl; have hfz8_0 := blk_frozen BK771.out 0; have hfz8_1 := blk_frozen BK771.out 1)); go_ret; exact ⟨by first | rfl | (simp [errW_none, errW_some] <;> rfl) | (simp [*, errW_none, errW_some] <;> rfl), zB HB⟩
      ·rw [if_neg c6] at H; have c6b0 : (((rd_T107 l0 x9_1).f0).toList == a1.toList) = false := beq_eq_false_iff_ne.mpr c6; have c6b1 : (((rd_T107 l0 x9_1).f0).toList != a1.toList) = true := bne_iff_ne.mpr c6; have H' := Aside0.mk H; clear H; have p770 : 0 ≤ (x9_1 : Int) := of_decide_eq_true za; have q770 : x9_1 < (l0.length : Int) := of_decide_eq_true za; obtain ⟨ad770, e770, hx770_0, hx770_1⟩ := at_T107 HR0.out x9_1 p770 q770
       cases e770
       replace hx770_0 := (HB.out.cell (World.block_lt_of_cell? w _ hx770_0)).trans hx770_0; replace hx770_1 := (HB.out.cell (World.block_lt_of_cell? w _ hx770_1)).trans hx770_1; replace p770 := eq_true p770; replace q770 := eq_true q770; go_wp2_with (first | ((with_reducible refine gate_dst (N := 6) rfl ?_); refine zx (N := 6) (cs := #[.string (⟨#[]⟩ : ByteArray), .string (⟨#[]⟩ : ByteArray)]) (t := 107) ?_; intro gb771 hg w9 hbox hb; have BK771 := Aside0.mk (hbox); have GW771 := Aside0.mk ((by rw [hg]; exact (below_size (zB HB)) : w.heap.size ≤ gb771)); have GE771 := GW771; replace HB := Aside0.mk (below_step (zB HB) hb); clear hb hbox hg; have hcz10_0 : w9.cell? ⟨gb771, 0, none⟩ = some (.string (⟨#[]⟩ : ByteArray)) := (blk_cell BK771.out 0).trans rfl; have hcz10_1 : w9.cell? ⟨gb771, 1, none⟩ = some (.string (⟨#[]⟩ : ByteArray)) := (blk_cell BK771.out 1).trans rfl; have hfz10_0 := blk_frozen BK771.out 0; have hfz10_1 := blk_frozen BK771.out 1)); go_roundg k1
       case measure => have := HK1.out; omega
       case rel => exact ⟨(wrap64 (x9_1 + 1)), zr, H', ⟨by have := HK1.out; omega⟩, ⟨zB HB⟩⟩
     ·rw [if_neg c5] at H; exact absurd H (by simp)
    ·rw [if_neg c4] at H; exact absurd H (by simp)
   ·rw [if_neg c3] at H; have c3b0 : decide (x9_1 < (l0.length : Int)) = false := decide_eq_false c3; clear c3; obtain rfl := Option.some.inj H; go_wp2; go_ret; exact ⟨by first | rfl | (simp [errW_none, errW_some] <;> rfl) | (simp [*, errW_none, errW_some] <;> rfl), zB HB⟩

/-! ### impl_Turn_86: function 86 (a contract of our own) -/
def impl_Turn_86.f (l0 : List (S107)) : Option (List (S107)) := some l0
set_option maxHeartbeats 8000000 in
set_option maxRecDepth 100000 in
theorem impl_Turn_86.calls (P0_ : Nat → Prop) (u9000_ : Value) (l0 : List (S107)) (r : List (S107)) (w0 w : World) (hB : Below w0.heap.size w0 w) (ho0 : Kd.R k107 107 w w0.heap.size P0_ u9000_ l0) (h : impl_Turn_86.f l0 = some r) :
  Calls Try.prog 86 #[u9000_] w fun e w' => ∃ v0_ : Value, e = .returned (v0_) ∧ Kd.R k107 107 w' w0.heap.size (fun k_ => (P0_ k_ ∨ w.heap.size ≤ k_)) v0_ r ∧ Below w0.heap.size w0 w' ∧ Kept w w' (fun k_ => P0_ k_) := by
 obtain rfl := Option.some.inj h; clear h; obtain ⟨A0, c0, rfl⟩ := Kd.R_slice ho0; obtain ⟨_, hl, hC⟩ := Kd.R_reads' ho0; have hbig : l0.length ≤ 9223372036854775807 := hC.2.1; have HO := Aside0.mk ho0; have HB := Aside0.mk hB; clear ho0 hB hC; go_enter Try.func86, Try.ntmps86; go_wp2; go_ret; exact ⟨_, rfl, Kd.R_mono (Kd.R_clip HO.out (Nat.le_refl _) hl) (fun _ h => .inl h), HB.out, Kept.refl _ _⟩

end Go.Proofs.Ytfcpbgedgedalaa.Q

namespace Go.Proofs.Ytfcpbgedgedalaa.Q
open Go.RowKit Go.Proofs.YtfcpbgedgedalaaL.PrintWords Go.Proofs.YtfcpbgedgedalaaL.PrintLast Go.Proofs.YtfcpbgedgedalaaL.PrintMore
attribute [local go_sem] max2_int min2_int max_two min_two max_three min_three max_four min_four   -- for this text's walks alone
set_option linter.unusedVariables false
set_option linter.unusedSimpArgs false

def thenL (k : Nat) (l0 l1 cc : List S107) : Nat → Nat → List S107 → Option (List S107)
 | 0, _, acc => some acc
 | d + 1, i, acc => if (decide (l0.length ≤ i) && l0.any (fun u : S107 => u.f0.toList == (cc.getD i z107).f0.toList)) = true then thenL k l0 l1 cc d (i + 1) acc else
   (impl_turn.f k l0 (cc.getD i z107).f0).bind fun t1 => (impl_turn.f k l1 t1).bind fun t2 => if (t2.toList == (cc.getD i z107).f0.toList) = true then thenL k l0 l1 cc d (i + 1) acc else
    if acc.length < 4398046511104 then thenL k l0 l1 cc d (i + 1) (acc ++ [⟨(cc.getD i z107).f0, t2⟩]) else none
theorem cat_C {w : World} {A0 A1 : Option Addr} {c0 c1 : Nat} {l0 l1 : List S107} (e : TypeId) (h0 : Kd.C k107 w A0 l0.length l0) (h1 : Kd.C k107 w A1 l1.length l1) (g0 : l0.length ≤ c0) (g1 : l1.length ≤ c1) :
  Kd.C (Kd.slice 107 k107) (w.alloc (.cells #[.slice A0 l0.length c0, .slice A1 l1.length c1] e (0, 0))) (some ⟨w.heap.size, 0, none⟩) ([l0, l1] : List (List S107)).length [l0, l1] := by
 refine ⟨rfl, by simp, fun _ => ⟨_, rfl, fun j p hj => ?_⟩⟩
 match j, hj with
 | 0, hj =>
  cases hj
  refine ⟨[.slice A0 l0.length c0], rfl, ⟨A0, c0, rfl, g0, Kd.C_alloc h0 _⟩, fun i u hu => ?_⟩
  match i, hu with
  | 0, hu => cases hu; exact (blk_cell (blk_new w _) 0).trans rfl
 | 1, hj =>
  cases hj
  refine ⟨[.slice A1 l1.length c1], rfl, ⟨A1, c1, rfl, g1, Kd.C_alloc h1 _⟩, fun i u hu => ?_⟩
  match i, hu with
  | 0, hu => cases hu; exact (blk_cell (blk_new w _) 1).trans rfl
set_option maxHeartbeats 8000000 in
set_option maxRecDepth 100000 in
theorem then_pred84 (a1 a2 : ByteArray) (B : Nat) (w : World) (hc : w.cell? ⟨B, 0, none⟩ = some (.string a1)) :
  PxPred Try.prog 84 #[.pointer (some ⟨B, 0, none⟩)] (fun x : S107 => .agg #[.string x.f0, .string x.f1]) (fun x : S107 => x.f0.toList == a1.toList) w := by
 intro W x hb; have hc' := px_cell hb hc; have hB' : B < W.heap.size := World.block_lt_of_cell? W _ hc'; clear hc
 show Calls Try.prog 84 #[.agg #[.string x.f0, .string x.f1], .pointer (some ⟨B, 0, none⟩)] W _
 have hu107 := Try.underlying107; go_enter Try.func84, Try.ntmps84; go_wp2; go_ret; exact ⟨rfl, px_alloc _ _⟩
theorem thenL.mono (l0 l1 cc : List S107) : ∀ (d i : Nat) (acc : List S107) (k : Nat), LeO (thenL k l0 l1 cc d i acc) (thenL (k + 1) l0 l1 cc d i acc)
 | 0, _, _, _ => LeO.refl _
 | d + 1, i, acc, k => by
  rw [thenL, thenL]; exact LeO.ite (thenL.mono l0 l1 cc d _ _ _) (LeO.bind (impl_turn.mono _ _ _) (fun _ => LeO.bind (impl_turn.mono _ _ _) (fun _ => LeO.ite (thenL.mono l0 l1 cc d _ _ _) (LeO.ite (thenL.mono l0 l1 cc d _ _ _) (LeO.refl _)))))
/-! ### impl_ThenTurn: function 36 (a contract of our own) -/
def impl_ThenTurn.f (k : Nat) (l0 : List (S107)) (l1 : List (S107)) : Option ((List (S107)) × Bool) := (impl_ValidTurns.f l0).bind fun v0 => if v0 = true then ((impl_ValidTurns.f l1).bind fun v1 => if v1 = true then ((impl_Turn_82.f [l0, l1]).bind fun cc => (thenL k l0 l1 cc cc.length 0 []).bind fun out => (impl_ValidTurns.f out).bind fun v => if v = true then some (out, true) else some ([], false)) else some ([], false)) else some ([], false)
theorem impl_ThenTurn.mono : ∀ a0 a1 k, LeO (impl_ThenTurn.f k a0 a1) (impl_ThenTurn.f (k + 1) a0 a1) := fun a0 a1 k => LeO.bind (LeO.refl _) (fun _ => LeO.ite (LeO.bind (LeO.refl _) (fun _ => LeO.ite (LeO.bind (LeO.refl _) (fun _ => LeO.bind (thenL.mono _ _ _ _ _ _ _) (fun _ => LeO.refl _))) (LeO.refl _))) (LeO.refl _))
set_option maxHeartbeats 8000000 in
set_option maxRecDepth 100000 in
theorem impl_ThenTurn.calls (k : Nat) (A0 : Option Addr) (c0 : Nat) (l0 : List (S107)) (A1 : Option Addr) (c1 : Nat) (l1 : List (S107)) (r1 : List (S107)) (r2 : Bool) (w : World) (hr0 : Kd.C k107 w A0 l0.length l0) (hc0 : l0.length ≤ c0) (hr1 : Kd.C k107 w A1 l1.length l1) (hc1 : l1.length ≤ c1) (h : impl_ThenTurn.f k l0 l1 = some (r1, r2)) :
  Calls Try.prog 36 #[.slice A0 l0.length c0, .slice A1 l1.length c1] w fun e w' => ∃ v0_ : Value, e = .returned (.tuple #[v0_, .bool r2]) ∧ Kd.R k107 107 w' w.heap.size (fun _ => True) v0_ r1 ∧ Below w.heap.size w w' := by
 have hu107 := Try.underlying107; have HR0 := Aside0.mk hr0; have HC0 := Aside0.mk hc0; have HR1 := Aside0.mk hr1; have HC1 := Aside0.mk hc1; clear hr0 hc0 hr1 hc1; have HB := Aside0.mk (Below.refl w.heap.size w); unfold impl_ThenTurn.f at h; replace h := Option.bind_eq_some_iff.mp h; obtain ⟨v0, A110, h⟩ := h; have A11 := Aside0.mk A110
 cases v0 with
 | false =>
  obtain ⟨rfl, rfl⟩ : [] = r1 ∧ false = r2 := by simpa using h
  clear h A110; go_enter Try.func36, Try.ntmps36; go_wp2_with fail; refine (impl_ValidTurns.calls _ _ l0 false _ HR0.out HC0.out A11.out).mono ?_; rintro e w1 ⟨rfl, hb⟩; have HB1 := Aside0.mk hb; clear hb; go_wp2; go_ret2; exact ⟨_, rfl, Kd.R_nil _ _ _ _ _, HB1.out⟩
 | true =>
  rw [if_pos rfl] at h; replace h := Option.bind_eq_some_iff.mp h; obtain ⟨v1, A150, h⟩ := h; have A15 := Aside0.mk A150
  cases v1 with
  | false =>
   obtain ⟨rfl, rfl⟩ : [] = r1 ∧ false = r2 := by simpa using h
   clear h A110 A150; go_enter Try.func36, Try.ntmps36; go_wp2_with fail; refine (impl_ValidTurns.calls _ _ l0 true _ HR0.out HC0.out A11.out).mono ?_; rintro e w1 ⟨rfl, hb⟩; have HB1 := Aside0.mk hb; clear hb; go_wp2_with fail; refine (impl_ValidTurns.calls _ _ l1 false _ (Kd.C_below HR1.out HB1.out) HC1.out A15.out).mono ?_; rintro e w2 ⟨rfl, hb⟩; have HB2 := Aside0.mk (below_step HB1.out hb); clear hb; go_wp2; go_ret2; exact ⟨_, rfl, Kd.R_nil _ _ _ _ _, HB2.out⟩
  | true =>
   rw [if_pos rfl] at h; replace h := Option.bind_eq_some_iff.mp h; obtain ⟨cc, A210, h⟩ := h; have A21 := Aside0.mk A210; replace h := Option.bind_eq_some_iff.mp h; obtain ⟨out, A300, h⟩ := h; have A30 := Aside0.mk A300; replace h := Option.bind_eq_some_iff.mp h; obtain ⟨v, A560, h⟩ := h; have A56 := Aside0.mk A560; have HH := Aside0.mk h; clear h A110 A150 A210 A300 A560; go_enter Try.func36, Try.ntmps36; go_wp2_with fail; refine (impl_ValidTurns.calls _ _ l0 true _ HR0.out HC0.out A11.out).mono ?_; rintro e w1 ⟨rfl, hb⟩; have HB1 := Aside0.mk hb; clear hb; go_wp2_with fail; refine (impl_ValidTurns.calls _ _ l1 true _ (Kd.C_below HR1.out HB1.out) HC1.out A15.out).mono ?_; rintro e w2 ⟨rfl, hb⟩; have HB2 := Aside0.mk (below_step HB1.out hb); clear hb HB1; go_wp2_with fail; refine (impl_Turn_82.calls _ 2 [l0, l1] cc _ (cat_C _ (Kd.C_below HR0.out HB2.out) (Kd.C_below HR1.out HB2.out) HC0.out HC1.out) (by simp) A21.out).mono ?_; rintro e w3 ⟨v3, rfl, ho, hb⟩; have HB3 := Aside0.mk (below_then HB2.out HB2.out.size (below_then (px_alloc _ _) (by simp) hb)); clear hb HB2; obtain ⟨A3, c3, e3⟩ := Kd.R_slice ho; subst e3; have HRc := Aside0.mk (Kd.R_reads' ho).2.2; have hbig : cc.length ≤ 9223372036854775807 := (Kd.R_reads' ho).2.2.2.1; clear ho; have eg := px_enters Try.func84 (by kernel_rfl) rfl; go_wp2_with fail; go_loopg [6, 23] cc.length (fun gg s6 s23 wr => ∃ (kk : Nat) (acc : List S107), kk ≤ cc.length ∧ cc.length - kk ≤ gg ∧ s23 = .int .i64 kk ∧ Aside0 (Kd.R k107 107 wr w3.heap.size (fun _ => True) s6 acc) ∧ Aside0 (Below w3.heap.size w3 wr) ∧ Aside0 (thenL k l0 l1 cc (cc.length - kk) kk acc = some out))
   case atStart => exact ⟨0, [], Nat.zero_le _, by omega, rfl, ⟨Kd.R_nil _ _ _ _ _⟩, ⟨Below.refl _ _⟩, A30⟩
   case round =>
    obtain ⟨kk, acc, hkk, hg, rfl, HO, BW, HL⟩ := hrel
    by_cases hlt : kk < cc.length
    ·have hltz : (kk : Int) < (cc.length : Int) := by omega
     have hz0 : (0 : Int) ≤ (kk : Int) := by omega
     obtain ⟨d, hd⟩ : ∃ d, cc.length - kk = d + 1 := ⟨cc.length - kk - 1, by omega⟩
     have hl := HL.out; rw [hd, thenL] at hl; obtain ⟨ad, e, hx0, hx1⟩ := at_T107 (Kd.C_below HRc.out BW.out) (kk : Int) hz0 hltz
     cases e
     simp only [Int.toNat_natCast] at hx0 hx1; have E : rd_T107 cc (kk : Int) = cc.getD kk z107 := rfl; rw [E] at hx0 hx1; generalize cc.getD kk z107 = y at hx0 hx1 hl; have HH2 := Aside0.mk hl; have HD := Aside0.mk hd; clear hl E hd; go_upto_region 7 with (first | ((with_reducible refine gate_dst (N := 8) rfl ?_); refine zx (N := 8) (cs := #[.string ⟨#[]⟩, .string ⟨#[]⟩]) (t := 107) ?_; intro gb8 hg8 w4 hbox hb; have BK8 := Aside0.mk hbox; have GE8 := Aside0.mk ((by rw [hg8]; exact BW.out.size : w3.heap.size ≤ gb8)); replace HO := Aside0.mk (Kd.R_below (Kd.R_elderB HO.out gb8 (by rw [hg8]; exact Nat.le_refl _)) hb); replace BW := Aside0.mk (below_then BW.out BW.out.size hb); clear hb hbox hg8; have hce0 : w4.cell? ⟨gb8, 0, none⟩ = some (.string ⟨#[]⟩) := (blk_cell BK8.out 0).trans rfl; have hfe0 : w4.frozen? ⟨gb8, 0, none⟩ = false := blk_frozen BK8.out 0; have hce1 : w4.cell? ⟨gb8, 1, none⟩ = some (.string ⟨#[]⟩) := (blk_cell BK8.out 1).trans rfl; have hfe1 : w4.frozen? ⟨gb8, 1, none⟩ = false := blk_frozen BK8.out 1))
     have n0_ : Aside0 (Kd.R k107 107 ((w4.setCell ⟨gb8, 0, none⟩ (.string y.f0)).setCell ⟨gb8, 1, none⟩ (.string y.f1)) w3.heap.size (fun _ => True) _ acc) := ⟨Kd.R_mono (Kd.R_far (p := ⟨gb8, 1, none⟩) (Kd.R_far (p := ⟨gb8, 0, none⟩) HO.out (fun _ hk => hk.2) (.string y.f0)) (fun _ hk => hk.2) (.string y.f1)) (fun _ _ => trivial)⟩
     have n1_ : Aside0 (((w4.setCell ⟨gb8, 0, none⟩ (.string y.f0)).setCell ⟨gb8, 1, none⟩ (.string y.f1)).heap[gb8]? = some (.cells #[.string y.f0, .string y.f1] 107 (0, 0))) := ⟨by refine blk_put (cs := #[.string y.f0, .string ⟨#[]⟩]) ?_ 1 _ rfl; refine blk_put (cs := #[.string ⟨#[]⟩, .string ⟨#[]⟩]) ?_ 0 _ rfl; exact BK8.out⟩
     have n2_ : Aside0 (Below w3.heap.size w3 ((w4.setCell ⟨gb8, 0, none⟩ (.string y.f0)).setCell ⟨gb8, 1, none⟩ (.string y.f1))) := ⟨zB BW⟩
     clear HO BK8 BW hce0 hce1 hfe0 hfe1 hx0 hx1; generalize ((w4.setCell ⟨gb8, 0, none⟩ (.string y.f0)).setCell ⟨gb8, 1, none⟩ (.string y.f1)) = w5 at n0_ n1_ n2_ ⊢; have HO := n0_; have BK8 := n1_; have BW := n2_; clear n0_ n1_ n2_; have HB5 := Aside0.mk (below_then HB3.out HB3.out.size BW.out); have hcf_0 : w5.cell? ⟨gb8, 0, none⟩ = some (.string y.f0) := (blk_cell BK8.out 0).trans rfl; have hff_0 := blk_frozen BK8.out 0; have hl := HH2.out; clear HH2
     cases hq : (decide (l0.length ≤ kk) && l0.any (fun u : S107 => u.f0.toList == y.f0.toList)) with
     | true =>
      rw [hq, if_pos rfl] at hl; obtain ⟨g1, g2⟩ := (Bool.and_eq_true _ _ ▸ hq : _ ∧ _)
      have g1 := of_decide_eq_true g1; have HL2 := Aside0.mk hl; have HANY := Aside0.mk g2; clear hl hq g2; have gz : (l0.length : Int) ≤ (kk : Int) := by omega
      go_wp2_with fail; refine (cf83.calls (fun x : S107 => x.f0.toList == y.f0.toList) 84 _ eg A0 c0 l0 _ (then_pred84 y.f0 y.f1 gb8 _ hcf_0) (Kd.C_below HR0.out HB5.out)).mono ?_; rintro e w6 ⟨rfl, hb⟩; rw [HANY.out]; replace HO := Aside0.mk (Kd.R_below HO.out hb); replace BW := Aside0.mk (below_then BW.out BW.out.size hb); clear hb hcf_0 hff_0; go_wp2; go_roundg (cc.length - (kk + 1))
      case measure => have := HD.out; omega
      case rel => exact ⟨kk + 1, acc, by omega, by omega, by go_num, HO, BW, ⟨by have := HL2.out; rwa [show cc.length - (kk + 1) = d by have := HD.out; omega]⟩⟩
     | false =>
      rw [hq, if_neg (by decide)] at hl; replace hl := Option.bind_eq_some_iff.mp hl; obtain ⟨t1, B10, hl⟩ := hl; have B1 := Aside0.mk B10; replace hl := Option.bind_eq_some_iff.mp hl; obtain ⟨t2, B20, hl⟩ := hl; have B2 := Aside0.mk B20; have HL2 := Aside0.mk hl; have HQ := Aside0.mk hq; clear hl hq B10 B20
      by_cases g1 : l0.length ≤ kk
      ·have HANY : Aside0 (l0.any (fun u : S107 => u.f0.toList == y.f0.toList) = false) := ⟨by have := HQ.out; rw [decide_eq_true g1, Bool.true_and] at this; exact this⟩
       have gz : (l0.length : Int) ≤ (kk : Int) := by omega
       go_wp2_with fail; refine (cf83.calls (fun x : S107 => x.f0.toList == y.f0.toList) 84 _ eg A0 c0 l0 _ (then_pred84 y.f0 y.f1 gb8 _ hcf_0) (Kd.C_below HR0.out HB5.out)).mono ?_; rintro e w6 ⟨rfl, hb⟩; rw [HANY.out]; replace HO := Aside0.mk (Kd.R_below (zo HO) hb); replace BK8 := Aside0.mk (blk_below (g := gb8) (o := .cells #[.string y.f0, .string y.f1] 107 (0, 0)) (zb BK8) hb); replace BW := Aside0.mk (below_step (zB BW) hb); replace HB5 := Aside0.mk (below_step (zB HB5) hb); clear hb; have hcf_w6 : w6.cell? ⟨gb8, 0, none⟩ = some (.string y.f0) := (blk_cell BK8.out 0).trans rfl; have hff_w6 : w6.frozen? ⟨gb8, 0, none⟩ = false := blk_frozen BK8.out 0
       cases hc : (t2.toList == y.f0.toList) with
       | true =>
        have hl := HL2.out; rw [hc, if_pos rfl] at hl; have HL3 := Aside0.mk hl; clear hl; have hc' : (t2.toList != y.f0.toList) = false := by rw [bne, hc]; rfl
        go_wp2_with (first | ((with_reducible refine gate_callee (f := 85) rfl ?_); refine goesL_ (some 41) rfl rfl Try.func85 (by kernel_rfl) rfl #[.slice A0 l0.length c0, .string y.f0] rfl zl ?_; (with_reducible refine (impl_turn.calls k _ _ l0 y.f0 t1 _ ?side1 ?side2 B1.out).mono ?_); (case side1 => exact (Kd.C_below HR0.out (zB HB5))); (case side2 => exact HC0.out); rintro e w7 ⟨rfl, hb⟩; refine ⟨_, rfl, ?_⟩; replace HO := Aside0.mk (Kd.R_below (zo HO) hb); replace BK8 := Aside0.mk (blk_below (g := gb8) (o := .cells #[.string y.f0, .string y.f1] 107 (0, 0)) (zb BK8) hb); replace BW := Aside0.mk (below_step (zB BW) hb); replace HB5 := Aside0.mk (below_step (zB HB5) hb); clear hb; have hcf_w7 : w7.cell? ⟨gb8, 0, none⟩ = some (.string y.f0) := (blk_cell BK8.out 0).trans rfl; have hff_w7 : w7.frozen? ⟨gb8, 0, none⟩ = false := blk_frozen BK8.out 0) | ((with_reducible refine gate_callee (f := 85) rfl ?_); refine goesL_ (some 42) rfl rfl Try.func85 (by kernel_rfl) rfl #[.slice A1 l1.length c1, .string t1] rfl zl ?_; (with_reducible refine (impl_turn.calls k _ _ l1 t1 t2 _ ?side1 ?side2 B2.out).mono ?_); (case side1 => exact (Kd.C_below HR1.out (zB HB5))); (case side2 => exact HC1.out); rintro e w8 ⟨rfl, hb⟩; refine ⟨_, rfl, ?_⟩; replace HO := Aside0.mk (Kd.R_below (zo HO) hb); replace BK8 := Aside0.mk (blk_below (g := gb8) (o := .cells #[.string y.f0, .string y.f1] 107 (0, 0)) (zb BK8) hb); replace BW := Aside0.mk (below_step (zB BW) hb); replace HB5 := Aside0.mk (below_step (zB HB5) hb); clear hb; have hcf_w8 : w8.cell? ⟨gb8, 0, none⟩ = some (.string y.f0) := (blk_cell BK8.out 0).trans rfl; have hff_w8 : w8.frozen? ⟨gb8, 0, none⟩ = false := blk_frozen BK8.out 0)); go_roundg (cc.length - (kk + 1))
        case measure => have := HD.out; omega
        case rel => exact ⟨kk + 1, acc, by omega, by omega, by go_num, ⟨zo HO⟩, ⟨zB BW⟩, ⟨by have := HL3.out; rwa [show cc.length - (kk + 1) = d by have := HD.out; omega]⟩⟩
       | false =>
        have hl := HL2.out; rw [hc, if_neg (by decide)] at hl
        by_cases hm : acc.length < 4398046511104
        rotate_left
        ·rw [if_neg hm] at hl; cases hl
        rw [if_pos hm] at hl; have HL3 := Aside0.mk hl; have LM := Aside0.mk hm; clear hl hm; have hc' : (t2.toList != y.f0.toList) = true := by rw [bne, hc]; rfl
        go_wp2_with (first | ((with_reducible refine gate_callee (f := 85) rfl ?_); refine goesL_ (some 41) rfl rfl Try.func85 (by kernel_rfl) rfl #[.slice A0 l0.length c0, .string y.f0] rfl zl ?_; (with_reducible refine (impl_turn.calls k _ _ l0 y.f0 t1 _ ?side1 ?side2 B1.out).mono ?_); (case side1 => exact (Kd.C_below HR0.out (zB HB5))); (case side2 => exact HC0.out); rintro e w7 ⟨rfl, hb⟩; refine ⟨_, rfl, ?_⟩; replace HO := Aside0.mk (Kd.R_below (zo HO) hb); replace BK8 := Aside0.mk (blk_below (g := gb8) (o := .cells #[.string y.f0, .string y.f1] 107 (0, 0)) (zb BK8) hb); replace BW := Aside0.mk (below_step (zB BW) hb); replace HB5 := Aside0.mk (below_step (zB HB5) hb); clear hb; have hcf_w7 : w7.cell? ⟨gb8, 0, none⟩ = some (.string y.f0) := (blk_cell BK8.out 0).trans rfl; have hff_w7 : w7.frozen? ⟨gb8, 0, none⟩ = false := blk_frozen BK8.out 0) | ((with_reducible refine gate_callee (f := 85) rfl ?_); refine goesL_ (some 42) rfl rfl Try.func85 (by kernel_rfl) rfl #[.slice A1 l1.length c1, .string t1] rfl zl ?_; (with_reducible refine (impl_turn.calls k _ _ l1 t1 t2 _ ?side1 ?side2 B2.out).mono ?_); (case side1 => exact (Kd.C_below HR1.out (zB HB5))); (case side2 => exact HC1.out); rintro e w8 ⟨rfl, hb⟩; refine ⟨_, rfl, ?_⟩; replace HO := Aside0.mk (Kd.R_below (zo HO) hb); replace BK8 := Aside0.mk (blk_below (g := gb8) (o := .cells #[.string y.f0, .string y.f1] 107 (0, 0)) (zb BK8) hb); replace BW := Aside0.mk (below_step (zB BW) hb); replace HB5 := Aside0.mk (below_step (zB HB5) hb); clear hb; have hcf_w8 : w8.cell? ⟨gb8, 0, none⟩ = some (.string y.f0) := (blk_cell BK8.out 0).trans rfl; have hff_w8 : w8.frozen? ⟨gb8, 0, none⟩ = false := blk_frozen BK8.out 0) | ((with_reducible refine gate_builtin (b := .append) (xs := #[.tmp 47, .tmp 52]) rfl ?_); at_builtin; refine Kd.R_append k107 (w0 := w3) w3.heap.size rfl (.tmp 47) (.tmp 52) 55 107 (.agg #[(.string ⟨#[]⟩), (.string ⟨#[]⟩)]) 32 rfl Try.underlying55 info107 rfl (by decide) (by omega) _ acc (⟨y.f0, t2⟩ : S107) [.string y.f0, .string t2] (fun _ => True) (fun _ => False) rfl rfl ?aP (fun _ hk => hk.elim) ?aF ?aO ?aB ?aS ?aL ?_; (case aP => exact k107_mkM _ _ _ (⟨y.f0, t2⟩ : S107)); (case aB => exact (zB BW)); (case aF => exact (fun _ _ => trivial)); (case aO => exact (zo HO)); (case aS => exact BW.out.size); (case aL => have := LM.out; omega); intro v9 w9 ho hb hg hat; replace HO := Aside0.mk ho; replace BW := Aside0.mk hb; clear ho hb hg hat)); go_roundg (cc.length - (kk + 1))
        case measure => have := HD.out; omega
        case rel => exact ⟨kk + 1, acc ++ [⟨y.f0, t2⟩], by omega, by omega, by go_num, ⟨zo HO⟩, ⟨zB BW⟩, ⟨by have := HL3.out; rwa [show cc.length - (kk + 1) = d by have := HD.out; omega]⟩⟩
      ·have gz : ¬ (l0.length : Int) ≤ (kk : Int) := by omega
       cases hc : (t2.toList == y.f0.toList) with
       | true =>
        have hl := HL2.out; rw [hc, if_pos rfl] at hl; have HL3 := Aside0.mk hl; clear hl; have hc' : (t2.toList != y.f0.toList) = false := by rw [bne, hc]; rfl
        go_wp2_with (first | ((with_reducible refine gate_callee (f := 85) rfl ?_); refine goesL_ (some 41) rfl rfl Try.func85 (by kernel_rfl) rfl #[.slice A0 l0.length c0, .string y.f0] rfl zl ?_; (with_reducible refine (impl_turn.calls k _ _ l0 y.f0 t1 _ ?side1 ?side2 B1.out).mono ?_); (case side1 => exact (Kd.C_below HR0.out (zB HB5))); (case side2 => exact HC0.out); rintro e w7 ⟨rfl, hb⟩; refine ⟨_, rfl, ?_⟩; replace HO := Aside0.mk (Kd.R_below (zo HO) hb); replace BK8 := Aside0.mk (blk_below (g := gb8) (o := .cells #[.string y.f0, .string y.f1] 107 (0, 0)) (zb BK8) hb); replace BW := Aside0.mk (below_step (zB BW) hb); replace HB5 := Aside0.mk (below_step (zB HB5) hb); clear hb; have hcf_w7 : w7.cell? ⟨gb8, 0, none⟩ = some (.string y.f0) := (blk_cell BK8.out 0).trans rfl; have hff_w7 : w7.frozen? ⟨gb8, 0, none⟩ = false := blk_frozen BK8.out 0) | ((with_reducible refine gate_callee (f := 85) rfl ?_); refine goesL_ (some 42) rfl rfl Try.func85 (by kernel_rfl) rfl #[.slice A1 l1.length c1, .string t1] rfl zl ?_; (with_reducible refine (impl_turn.calls k _ _ l1 t1 t2 _ ?side1 ?side2 B2.out).mono ?_); (case side1 => exact (Kd.C_below HR1.out (zB HB5))); (case side2 => exact HC1.out); rintro e w8 ⟨rfl, hb⟩; refine ⟨_, rfl, ?_⟩; replace HO := Aside0.mk (Kd.R_below (zo HO) hb); replace BK8 := Aside0.mk (blk_below (g := gb8) (o := .cells #[.string y.f0, .string y.f1] 107 (0, 0)) (zb BK8) hb); replace BW := Aside0.mk (below_step (zB BW) hb); replace HB5 := Aside0.mk (below_step (zB HB5) hb); clear hb; have hcf_w8 : w8.cell? ⟨gb8, 0, none⟩ = some (.string y.f0) := (blk_cell BK8.out 0).trans rfl; have hff_w8 : w8.frozen? ⟨gb8, 0, none⟩ = false := blk_frozen BK8.out 0)); go_roundg (cc.length - (kk + 1))
        case measure => have := HD.out; omega
        case rel => exact ⟨kk + 1, acc, by omega, by omega, by go_num, ⟨zo HO⟩, ⟨zB BW⟩, ⟨by have := HL3.out; rwa [show cc.length - (kk + 1) = d by have := HD.out; omega]⟩⟩
       | false =>
        have hl := HL2.out; rw [hc, if_neg (by decide)] at hl
        by_cases hm : acc.length < 4398046511104
        rotate_left
        ·rw [if_neg hm] at hl; cases hl
        rw [if_pos hm] at hl; have HL3 := Aside0.mk hl; have LM := Aside0.mk hm; clear hl hm; have hc' : (t2.toList != y.f0.toList) = true := by rw [bne, hc]; rfl
        go_wp2_with (first | ((with_reducible refine gate_callee (f := 85) rfl ?_); refine goesL_ (some 41) rfl rfl Try.func85 (by kernel_rfl) rfl #[.slice A0 l0.length c0, .string y.f0] rfl zl ?_; (with_reducible refine (impl_turn.calls k _ _ l0 y.f0 t1 _ ?side1 ?side2 B1.out).mono ?_); (case side1 => exact (Kd.C_below HR0.out (zB HB5))); (case side2 => exact HC0.out); rintro e w7 ⟨rfl, hb⟩; refine ⟨_, rfl, ?_⟩; replace HO := Aside0.mk (Kd.R_below (zo HO) hb); replace BK8 := Aside0.mk (blk_below (g := gb8) (o := .cells #[.string y.f0, .string y.f1] 107 (0, 0)) (zb BK8) hb); replace BW := Aside0.mk (below_step (zB BW) hb); replace HB5 := Aside0.mk (below_step (zB HB5) hb); clear hb; have hcf_w7 : w7.cell? ⟨gb8, 0, none⟩ = some (.string y.f0) := (blk_cell BK8.out 0).trans rfl; have hff_w7 : w7.frozen? ⟨gb8, 0, none⟩ = false := blk_frozen BK8.out 0) | ((with_reducible refine gate_callee (f := 85) rfl ?_); refine goesL_ (some 42) rfl rfl Try.func85 (by kernel_rfl) rfl #[.slice A1 l1.length c1, .string t1] rfl zl ?_; (with_reducible refine (impl_turn.calls k _ _ l1 t1 t2 _ ?side1 ?side2 B2.out).mono ?_); (case side1 => exact (Kd.C_below HR1.out (zB HB5))); (case side2 => exact HC1.out); rintro e w8 ⟨rfl, hb⟩; refine ⟨_, rfl, ?_⟩; replace HO := Aside0.mk (Kd.R_below (zo HO) hb); replace BK8 := Aside0.mk (blk_below (g := gb8) (o := .cells #[.string y.f0, .string y.f1] 107 (0, 0)) (zb BK8) hb); replace BW := Aside0.mk (below_step (zB BW) hb); replace HB5 := Aside0.mk (below_step (zB HB5) hb); clear hb; have hcf_w8 : w8.cell? ⟨gb8, 0, none⟩ = some (.string y.f0) := (blk_cell BK8.out 0).trans rfl; have hff_w8 : w8.frozen? ⟨gb8, 0, none⟩ = false := blk_frozen BK8.out 0) | ((with_reducible refine gate_builtin (b := .append) (xs := #[.tmp 47, .tmp 52]) rfl ?_); at_builtin; refine Kd.R_append k107 (w0 := w3) w3.heap.size rfl (.tmp 47) (.tmp 52) 55 107 (.agg #[(.string ⟨#[]⟩), (.string ⟨#[]⟩)]) 32 rfl Try.underlying55 info107 rfl (by decide) (by omega) _ acc (⟨y.f0, t2⟩ : S107) [.string y.f0, .string t2] (fun _ => True) (fun _ => False) rfl rfl ?aP (fun _ hk => hk.elim) ?aF ?aO ?aB ?aS ?aL ?_; (case aP => exact k107_mkM _ _ _ (⟨y.f0, t2⟩ : S107)); (case aB => exact (zB BW)); (case aF => exact (fun _ _ => trivial)); (case aO => exact (zo HO)); (case aS => exact BW.out.size); (case aL => have := LM.out; omega); intro v9 w9 ho hb hg hat; replace HO := Aside0.mk ho; replace BW := Aside0.mk hb; clear ho hb hg hat)); go_roundg (cc.length - (kk + 1))
        case measure => have := HD.out; omega
        case rel => exact ⟨kk + 1, acc ++ [⟨y.f0, t2⟩], by omega, by omega, by go_num, ⟨zo HO⟩, ⟨zB BW⟩, ⟨by have := HL3.out; rwa [show cc.length - (kk + 1) = d by have := HD.out; omega]⟩⟩
    ·have hke : kk = cc.length := by omega
     subst hke; have hl := HL.out; rw [Nat.sub_self, thenL] at hl; obtain rfl := Option.some.inj hl; clear hl HL; have hltz : ¬ (cc.length : Int) < (cc.length : Int) := by omega
     have HB5 := Aside0.mk (below_then HB3.out HB3.out.size BW.out); replace HO := Aside0.mk (Kd.R_lower HO.out HB3.out.size); obtain ⟨A6, c6, e6⟩ := Kd.R_slice HO.out; subst e6
     cases v with
     | false =>
      obtain ⟨rfl, rfl⟩ : [] = r1 ∧ false = r2 := by simpa using HH.out
      clear HH; go_wp2_with (first | ((with_reducible refine gate_callee (f := 46) rfl ?_); refine goesL_ (some 56) rfl rfl Try.func46 (by kernel_rfl) rfl #[.slice A6 acc.length c6] rfl zl ?_; (with_reducible refine (impl_ValidTurns.calls _ _ acc false _ ?side1 ?side2 A56.out).mono ?_); (case side1 => exact (Kd.R_reads' HO.out).2.2); (case side2 => exact (Kd.R_reads' HO.out).2.1); rintro e w6 ⟨rfl, hb⟩; refine ⟨_, rfl, ?_⟩; replace HO := Aside0.mk (Kd.R_below (zo HO) hb); replace HB5 := Aside0.mk (below_step (zB HB5) hb); clear hb)); go_ret2; exact ⟨_, rfl, Kd.R_nil _ _ _ _ _, zB HB5⟩
     | true =>
      obtain ⟨rfl, rfl⟩ : acc = r1 ∧ true = r2 := by simpa using HH.out
      clear HH; go_upto_region 14 with (first | ((with_reducible refine gate_callee (f := 46) rfl ?_); refine goesL_ (some 56) rfl rfl Try.func46 (by kernel_rfl) rfl #[.slice A6 acc.length c6] rfl zl ?_; (with_reducible refine (impl_ValidTurns.calls _ _ acc true _ ?side1 ?side2 A56.out).mono ?_); (case side1 => exact (Kd.R_reads' HO.out).2.2); (case side2 => exact (Kd.R_reads' HO.out).2.1); rintro e w6 ⟨rfl, hb⟩; refine ⟨_, rfl, ?_⟩; replace HO := Aside0.mk (Kd.R_below (zo HO) hb); replace HB5 := Aside0.mk (below_step (zB HB5) hb); clear hb))
      go_wp2_with fail; refine (impl_Turn_86.calls (fun _ => True) _ acc acc w _ (zB HB5) (zo HO) rfl).mono ?_; rintro e w7 ⟨v7, rfl, ho, hb, _⟩; have HO7 := Aside0.mk (Kd.R_mono ho (ok' := fun _ => True) (fun _ _ => trivial)); have HB7 := Aside0.mk hb; clear ho hb; go_wp2; go_ret2; exact ⟨_, rfl, HO7.out, HB7.out⟩

end Go.Proofs.Ytfcpbgedgedalaa.Q

namespace Go.Proofs.Ytfcpbgedgedalaa.Q
open Go.RowKit Go.Proofs.YtfcpbgedgedalaaL.PrintWords Go.Proofs.YtfcpbgedgedalaaL.PrintLast Go.Proofs.YtfcpbgedgedalaaL.PrintMore
attribute [local go_sem] max2_int min2_int max_two min_two max_three min_three max_four min_four   -- for this text's walks alone
set_option linter.unusedVariables false
set_option linter.unusedSimpArgs false

/-- A state of type 129 at block g of W; what its slices lead to came in by w0. -/
def IsS129 (w0 W : World) (g : Nat) (f0 : List Int) (f1 : Int) : Prop := ∃ A0 c0, W.heap[g]? = some (.cells #[.slice A0 f0.length c0, .int .i64 f1] 129 (0, 0)) ∧ w0.heap.size ≤ g ∧ Kd.C (Kd.int .u8) w0 A0 f0.length f0
theorem IsS129.grown {w0 W : World} {g : Nat} {f0 : List Int} {f1 : Int} {W1 : World} {row : Option Nat} (h : IsS129 w0 W g f0 f1) (hw : W.grownBy W1 row) (hne : some g ≠ row) : IsS129 w0 W1 g f0 f1 := by
 obtain ⟨A0, c0, hb, hg, hr0⟩ := h; exact ⟨A0, c0, blk_grown hb hw hne, hg, hr0⟩
theorem IsS129.own_neN {w0 W : World} {g : Nat} {f0 : List Int} {f1 : Int} {α : Type} {d : Kd α} {e : Nat} {base : Nat} {ok : Nat → Prop} {v : Value} {xs : List α} (h : IsS129 w0 W g f0 f1) (ho : Kd.N d e W base ok v xs) (ht : e ≠ 129) : some g ≠ v.ownBlock := by
 obtain ⟨A0, c0, hb, hg, hr0⟩ := h; exact Kd.N_ne ho hb ht
theorem IsS129.fresh {w0 W : World} {g : Nat} {f0 : List Int} {f1 : Int} (h : IsS129 w0 W g f0 f1) : ∀ k, W.heap.size ≤ k → k ≠ g := by
 obtain ⟨A0, c0, hb, hg, hr0⟩ := h; exact Kd.freshB hb
theorem IsS129.kept {w0 W : World} {g : Nat} {f0 : List Int} {f1 : Int} {W1 : World} {S : Nat → Prop} (h : IsS129 w0 W g f0 f1) (hk : Kept W W1 S) (hne : ¬ S g) : IsS129 w0 W1 g f0 f1 := by
 obtain ⟨A0, c0, hb, hg, hr0⟩ := h; exact ⟨A0, c0, blk_kept hb hk hne, hg, hr0⟩
theorem IsS129.below {w0 W : World} {g : Nat} {f0 : List Int} {f1 : Int} {W1 : World} (h : IsS129 w0 W g f0 f1) (hw : Below W.heap.size W W1) : IsS129 w0 W1 g f0 f1 := h.grown (grown_of_below hw none) (by simp)
theorem IsS129.alloc {w0 W : World} {g : Nat} {f0 : List Int} {f1 : Int} (h : IsS129 w0 W g f0 f1) (o : Obj) : IsS129 w0 (W.alloc o) g f0 f1 := h.below (below_alloc (Below.refl _ _) o)
theorem IsS129.drewN {w0 W : World} {g : Nat} {f0 : List Int} {f1 : Int} (h : IsS129 w0 W g f0 f1) (m : Nat) : IsS129 w0 (W.drewN m) g f0 f1 := h
theorem IsS129.drew {w0 W : World} {g : Nat} {f0 : List Int} {f1 : Int} (h : IsS129 w0 W g f0 f1) : IsS129 w0 W.drew g f0 f1 := h
theorem IsS129.at_ {w0 W : World} {g : Nat} {f0 : List Int} {f1 : Int} {w' : World} {m : Nat} (hq : W.drewN m = w') (h : IsS129 w0 W g f0 f1) : IsS129 w0 w' g f0 f1 := by subst hq; exact IsS129.drewN h m
theorem IsS129.apart {w0 W : World} {g : Nat} {f0 : List Int} {f1 : Int} {α : Type} {d : Kd α} {e : Nat} {base : Nat} {ok : Nat → Prop} {v : Value} {xs : List α} (h : IsS129 w0 W g f0 f1) (ho : d.R e W base ok v xs) (ht : ∀ q, q ∈ e :: d.E → q ≠ 129) : d.R e W base (fun k => ok k ∧ k ≠ g) v xs := by
 obtain ⟨A0, c0, hb, hg, hr0⟩ := h; exact Kd.R_types ho hb ht
theorem IsS129.own_ne {w0 W : World} {g : Nat} {f0 : List Int} {f1 : Int} {α : Type} {d : Kd α} {e : Nat} {base : Nat} {ok : Nat → Prop} {v : Value} {xs : List α} (h : IsS129 w0 W g f0 f1) (ho : d.R e W base ok v xs) (ht : e ≠ 129) : some g ≠ v.ownBlock := by
 obtain ⟨A0, c0, hb, hg, hr0⟩ := h; exact Kd.R_ne ho hb ht
theorem IsS129.apartQ {w0 W : World} {g : Nat} {f0 : List Int} {f1 : Int} {α : Type} {d : Kd α} {e : Nat} {base : Nat} {ok : Nat → Prop} {v : Value} {xs : List α} (h : IsS129 w0 W g f0 f1) (ho : d.Q e W base ok v xs) (ht : ∀ q, q ∈ e :: d.E → q ≠ 129) : d.Q e W base (fun k => ok k ∧ k ≠ g) v xs := by
 obtain ⟨A0, c0, hb, hg, hr0⟩ := h; exact Kd.Q_types ho hb ht
theorem IsS129.own_neQ {w0 W : World} {g : Nat} {f0 : List Int} {f1 : Int} {α : Type} {d : Kd α} {e : Nat} {base : Nat} {ok : Nat → Prop} {v : Value} {xs : List α} (h : IsS129 w0 W g f0 f1) (ho : d.Q e W base ok v xs) (ht : e ≠ 129) : some g ≠ v.ownBlock := by
 obtain ⟨A0, c0, hb, hg, hr0⟩ := h; exact Kd.Q_ne ho hb ht
theorem IsS129.apartS {w0 W : World} {g : Nat} {f0 : List Int} {f1 : Int} {α : Type} {d : Kd α} {e : Nat} {base : Nat} {ok : Nat → Prop} {v : Value} {xs : List α} (h : IsS129 w0 W g f0 f1) (ho : d.S e W base ok v xs) (ht : ∀ q, q ∈ e :: d.E → q ≠ 129) : d.S e W base (fun k => ok k ∧ k ≠ g) v xs := by
 obtain ⟨A0, c0, hb, hg, hr0⟩ := h; exact Kd.S_types ho hb ht
theorem IsS129.own_neS {w0 W : World} {g : Nat} {f0 : List Int} {f1 : Int} {α : Type} {d : Kd α} {e : Nat} {base : Nat} {ok : Nat → Prop} {v : Value} {xs : List α} (h : IsS129 w0 W g f0 f1) (ho : d.S e W base ok v xs) (ht : e ≠ 129) : some g ≠ v.ownBlock := by
 obtain ⟨A0, c0, hb, hg, hr0⟩ := h; exact Kd.S_ne ho hb ht
theorem IsS129.lt {w0 W : World} {g : Nat} {f0 : List Int} {f1 : Int} (h : IsS129 w0 W g f0 f1) : g < W.heap.size := by
 obtain ⟨A0, c0, hb, hg, hr0⟩ := h; exact blk_lt hb
theorem IsS129.ge {w0 W : World} {g : Nat} {f0 : List Int} {f1 : Int} (h : IsS129 w0 W g f0 f1) : w0.heap.size ≤ g := by
 obtain ⟨A0, c0, hb, hg, hr0⟩ := h; exact hg
theorem IsS129.ne_blk {w0 W : World} {g : Nat} {f0 : List Int} {f1 : Int} {a : Nat} {cs : Array Value} {t : TypeId} {fr : Nat × Nat} (h : IsS129 w0 W g f0 f1) (hb2 : W.heap[a]? = some (.cells cs t fr)) (ht : t ≠ 129) : g ≠ a := by
 obtain ⟨A0, c0, hb, hg, hr0⟩ := h; rintro rfl; rw [hb] at hb2
 injection hb2 with hb2
 injection hb2 with _ ht2
 exact ht ht2.symm
theorem IsS129.far {w0 W : World} {g : Nat} {f0 : List Int} {f1 : Int} {p : Addr} (h : IsS129 w0 W g f0 f1) (hne : g ≠ p.block) (u : Value) : IsS129 w0 (W.setCell p u) g f0 f1 := by
 obtain ⟨A0, c0, hb, hg, hr0⟩ := h; exact ⟨A0, c0, blk_far hb hne u, hg, hr0⟩
theorem cellS129_0 {W : World} {g : Nat} {A0 : Option Addr} {c0 : Nat} {f0 : List Int} {f1 : Int} (h : W.heap[g]? = some (.cells #[.slice A0 f0.length c0, .int .i64 f1] 129 (0, 0))) : W.cell? ⟨g, 0, none⟩ = some (.slice A0 f0.length c0) := (blk_cell h 0).trans rfl
theorem cellS129_1 {W : World} {g : Nat} {A0 : Option Addr} {c0 : Nat} {f0 : List Int} {f1 : Int} (h : W.heap[g]? = some (.cells #[.slice A0 f0.length c0, .int .i64 f1] 129 (0, 0))) : W.cell? ⟨g, 1, none⟩ = some (.int .i64 f1) := (blk_cell h 1).trans rfl
theorem IsS129.set_1 {w0 W : World} {g : Nat} {f0 : List Int} {f1 : Int} (h : IsS129 w0 W g f0 f1) (x : Int) : IsS129 w0 (W.setCell ⟨g, 1, none⟩ (.int .i64 x)) g f0 x := by
 obtain ⟨A0, c0, hb, hg, hr0⟩ := h; exact ⟨A0, c0, by simpa using blk_set hb 1 (.int .i64 x), hg, hr0⟩
theorem IsS129.new (w0 W : World) (A0 : Option Addr) (c0 : Nat) (f0 : List Int) (f1 : Int) (hB : Below w0.heap.size w0 W) (hr0 : Kd.C (Kd.int .u8) w0 A0 f0.length f0) : IsS129 w0 (W.alloc (.cells #[.slice A0 f0.length c0, .int .i64 f1] 129)) W.heap.size f0 f1 := ⟨A0, c0, by simpa using heap_alloc_new W _, hB.size, hr0⟩

theorem zi129_4 {w0 W W' : World} {g : Nat} {f0 f0' : List Int} {f1 f1' : Int} (h : Aside0 (IsS129 w0 W g f0 f1)) (i : IsS129 w0 W g f0 f1 → IsS129 w0 W' g f0' f1' := by intro hh_; repeat (first | (with_reducible first | exact hh_ | apply IsS129.alloc | apply IsS129.drewN | apply IsS129.drew | apply IsS129.set_1 | refine IsS129.far ?_ (Aside0.out (by assumption)) _) | exact hh_)) : IsS129 w0 W' g f0' f1' := i h.out
theorem zj129_4 {B : Nat} {w W W' : World} (h : Aside0 (Below B w W)) (i : Below B w W → Below B w W' := by intro hh_; repeat (first | (with_reducible first | exact hh_ | apply below_alloc | apply pw_below_drewN | apply below_drew1 | refine below_set ?_ (IsS129.ge (Aside0.out (by assumption))) | refine below_set ?_ (Aside0.out (by assumption))) | exact hh_)) : Below B w W' := i h.out
/-! ### spec_reader_pick: function 90 -/
def spec_reader_pick.j0 : Nat → Int → Bool → List Int → Int → Option (Int × Int)
 | 0, _, _, _, _ => none
 | k + 1, x1, x24, x1000, x1001 => if x24 = true then (some (0, x1001)) else (if (wrap64 (x1001 - 1)) < (x1000.length : Int) then (if 0 ≤ (wrap64 (x1001 - 1)) then (if x1 = 0 then (none) else (some (Int.tmod (wrap64 (rd x1000 (wrap64 (x1001 - 1)))) x1, x1001))) else (none)) else (if (x1000.length : Int) = 0 then (none) else (if 0 ≤ (Int.tmod (wrap64 (x1001 - 1)) (x1000.length : Int)) then (if (Int.tmod (wrap64 (x1001 - 1)) (x1000.length : Int)) < (x1000.length : Int) then (if 0 ≤ (Int.tmod (wrap64 ((wrap64 ((wrap64 (x1001 - 1)) * 7)) + 3)) (x1000.length : Int)) then (if (Int.tmod (wrap64 ((wrap64 ((wrap64 (x1001 - 1)) * 7)) + 3)) (x1000.length : Int)) < (x1000.length : Int) then (if x1 = 0 then (none) else (some (Int.tmod (Go.bits .xor .i64 (wrap64 ((wrap64 ((wrap64 ((wrap64 ((wrap64 (rd x1000 (Int.tmod (wrap64 (x1001 - 1)) (x1000.length : Int)))) * 131)) + (wrap64 ((wrap64 (rd x1000 (Int.tmod (wrap64 ((wrap64 ((wrap64 (x1001 - 1)) * 7)) + 3)) (x1000.length : Int)))) * 1117)))) + (wrap64 ((wrap64 (x1001 - 1)) * 29)))) + (wrap64 ((wrap64 (Int.tdiv (wrap64 (x1001 - 1)) (x1000.length : Int))) * 53)))) (wrap64 (Int.tdiv (wrap64 ((wrap64 ((wrap64 ((wrap64 ((wrap64 (rd x1000 (Int.tmod (wrap64 (x1001 - 1)) (x1000.length : Int)))) * 131)) + (wrap64 ((wrap64 (rd x1000 (Int.tmod (wrap64 ((wrap64 ((wrap64 (x1001 - 1)) * 7)) + 3)) (x1000.length : Int)))) * 1117)))) + (wrap64 ((wrap64 (x1001 - 1)) * 29)))) + (wrap64 ((wrap64 (Int.tdiv (wrap64 (x1001 - 1)) (x1000.length : Int))) * 53)))) 64))) x1, x1001))) else (none)) else (none)) else (none)) else (none))))
def spec_reader_pick.f (k : Nat) (s0_0 : List Int) (s0_1 : Int) (a1 : Int) : Option (Int × Int) := if a1 < 1 then (spec_reader_pick.j0 k a1 true s0_0 (wrap64 (s0_1 + 1))) else (spec_reader_pick.j0 k a1 ((s0_0.length : Int) == 0) s0_0 (wrap64 (s0_1 + 1)))
theorem spec_reader_pick.mono_l : ∀ k, (∀ y0 y1 y2 y3, LeO (spec_reader_pick.j0 k y0 y1 y2 y3) (spec_reader_pick.j0 (k + 1) y0 y1 y2 y3))
 | 0 => fun _ _ _ _ r h => by simp [spec_reader_pick.j0] at h
 | k + 1 => by
  have ih0 := spec_reader_pick.mono_l k
  ·intro y0 y1 y2 y3; unfold spec_reader_pick.j0
   repeat' first
   | (with_reducible exact ih0 _ _ _ _)
   | (with_reducible exact LeO.refl _)
   | (with_reducible exact LeO.none _)
   | (with_reducible refine LeO.ite ?_ ?_)
   | (with_reducible refine LeO.bind ?_ (fun _ => ?_))
   | exact ih0 _ _ _ _
   | exact LeO.none _
   | refine LeO.ite ?_ ?_
   | refine LeO.bind ?_ (fun _ => ?_)
theorem spec_reader_pick.mono : ∀ a0 a1 a2 k, LeO (spec_reader_pick.f k a0 a1 a2) (spec_reader_pick.f (k + 1) a0 a1 a2) := by
 intro a0 a1 a2 k; have ih0 := spec_reader_pick.mono_l k; unfold spec_reader_pick.f
 repeat' first
   | (with_reducible exact ih0 _ _ _ _)
   | (with_reducible exact LeO.refl _)
   | (with_reducible exact LeO.none _)
   | (with_reducible refine LeO.ite ?_ ?_)
   | (with_reducible refine LeO.bind ?_ (fun _ => ?_))
   | exact ih0 _ _ _ _
   | exact LeO.none _
   | refine LeO.ite ?_ ?_
   | refine LeO.bind ?_ (fun _ => ?_)
set_option maxHeartbeats 8000000 in
set_option maxRecDepth 100000 in
theorem spec_reader_pick.calls (k : Nat) (g : Nat) (s0_0 : List Int) (s0_1 : Int) (a1 : Int) (r1 : Int) (r2 : Int) (w0 w : World) (hI : IsS129 w0 w g s0_0 s0_1) (hB : Below w0.heap.size w0 w) (h : spec_reader_pick.f k s0_0 s0_1 a1 = some (r1, r2)) :
  Calls Try.prog 90 #[.pointer (some ⟨g, 0, none⟩), .int .i64 a1] w fun e w' => e = .returned (.int .i64 r1) ∧ IsS129 w0 w' g s0_0 r2 ∧ Below w0.heap.size w0 w' ∧ KeepBut w w' g none := by
 have HI0 := Aside0.mk hI; have HK := Aside0.mk (KeepBut.refl w g none); have HL := Aside0.mk hB.size; clear hI; have HW0 := Aside0.mk hB.size; have HB := Aside0.mk hB; clear hB; have H : (if a1 < 1 then (spec_reader_pick.j0 k a1 true s0_0 (wrap64 (s0_1 + 1))) else (spec_reader_pick.j0 k a1 ((s0_0.length : Int) == 0) s0_0 (wrap64 (s0_1 + 1)))) = some (r1, r2) := h; clear h; have HC3 := Aside0.mk H; clear H; obtain ⟨ASz4_0, cSz4_0, HGz4, hgz4, HSz4_0⟩ := HI0.out; have hcz4_0 := cellS129_0 HGz4; have hcz4_1 := cellS129_1 HGz4; have hfz4_1 := blk_frozen HGz4 1; clear HGz4 hgz4; go_enter Try.func90, Try.ntmps90; go_upto_region 2 with (fail)
 repeat (go_quiet (fail); go_upto_region 2 with (fail))
 go_cut [24] (fun v24 wc => ∃ (kq : Nat) (x24_2 : Bool), v24 = .bool x24_2 ∧ Aside0 (spec_reader_pick.j0 kq a1 x24_2 s0_0 (wrap64 (s0_1 + 1)) = some (r1, r2)) ∧ Aside0 (kq ≤ k) ∧ Aside0 (IsS129 w0 wc g s0_0 (wrap64 (s0_1 + 1))) ∧ Aside0 (KeepBut w wc g none) ∧ Aside0 (Below w0.heap.size w0 wc))
 case first =>
  have H := HC3.out; clear HC3
  by_cases c5 : a1 < 1
  ·rw [if_pos c5] at H; have c5b0 : decide (a1 < 1) = true := decide_eq_true c5; clear c5
   (first | rw [c5b0] | (simp only [i64_w, i32_w]; rw [c5b0]) | skip)
   have H' := Aside0.mk H; clear H; go_wp2
   repeat (go_quiet (fail); try go_wp2)
   go_meet
   case rel => exact ⟨_, (true), zr, H', ⟨by first | omega | exact Nat.le_refl _⟩, ⟨by repeat (first | (with_reducible first | exact HI0.out | apply IsS129.alloc | apply IsS129.drewN | apply IsS129.drew | apply IsS129.set_1) | exact HI0.out)⟩, ⟨zk HK⟩, ⟨zj129_4 HB⟩⟩
  ·rw [if_neg c5] at H; have c5b0 : decide (a1 < 1) = false := decide_eq_false c5; clear c5
   (first | rw [c5b0] | (simp only [i64_w, i32_w]; rw [c5b0]) | skip)
   have H' := Aside0.mk H; clear H; obtain ⟨ASz6_0, cSz6_0, HGz6, hgz6, HSz6_0⟩ := HI0.out; have hcz6_0 := cellS129_0 HGz6; have hcz6_1 := cellS129_1 HGz6; have hfz6_1 := blk_frozen HGz6 1; clear HGz6 hgz6; go_wp2
   repeat (go_quiet (fail); try go_wp2)
   go_meet
   case rel => exact ⟨_, (((s0_0.length : Int) == 0)), zr, H', ⟨by first | omega | exact Nat.le_refl _⟩, ⟨by repeat (first | (with_reducible first | exact HI0.out | apply IsS129.alloc | apply IsS129.drewN | apply IsS129.drew | apply IsS129.set_1) | exact HI0.out)⟩, ⟨zk HK⟩, ⟨zj129_4 HB⟩⟩
 case rest =>
  clear HC3; (try clear p2); (try clear c5); (try clear c5b0); (try clear p6); (try clear hcz4_0); (try clear hcz4_1); (try clear hcz6_0); (try clear hcz6_1); (try clear hfz4_1); (try clear hfz6_1); obtain ⟨kq, x24_2, rfl, HA, HJ2, HI0, HK, HB⟩ := hcut
  cases kq with
  | zero => exact absurd HA.out (by simp [spec_reader_pick.j0])
  | succ kj2 =>
   have H := HA.out; clear HA; simp only [spec_reader_pick.j0] at H
   by_cases c7 : x24_2 = true
   ·subst c7; rw [if_pos rfl] at H; simp only [Option.some.injEq, Prod.mk.injEq] at H; obtain ⟨rfl, rfl⟩ := H; go_wp2
    repeat (go_quiet (fail); try go_wp2)
    go_ret; exact ⟨by first | rfl | (simp [errW_none, errW_some] <;> rfl) | (simp [*, errW_none, errW_some] <;> rfl), by repeat (first | (with_reducible first | exact HI0.out | apply IsS129.alloc | apply IsS129.drewN | apply IsS129.drew | apply IsS129.set_1) | exact HI0.out), by repeat (first | (with_reducible first | exact HB.out | apply below_alloc | apply pw_below_drewN | apply below_drew1 | refine below_set ?_ (IsS129.ge HI0.out)) | exact HB.out), zk HK⟩
   ·replace c7 := Bool.eq_false_iff.mpr c7; subst c7; rw [if_neg (show ¬ (false = true) by decide)] at H
    by_cases c8 : (wrap64 ((wrap64 (s0_1 + 1)) - 1)) < (s0_0.length : Int)
    ·rw [if_pos c8] at H; have c8b0 : decide ((wrap64 ((wrap64 (s0_1 + 1)) - 1)) < (s0_0.length : Int)) = true := decide_eq_true c8; clear c8; obtain ⟨ji9, hji9⟩ : ∃ j_ : Int, (wrap64 ((wrap64 (s0_1 + 1)) - 1)) = j_ := ⟨_, rfl⟩
     replace H : (if 0 ≤ (ji9) then (if a1 = 0 then (none) else (some (Int.tmod (wrap64 (rd s0_0 (ji9))) a1, (wrap64 (s0_1 + 1))))) else (none)) = some (r1, r2) := by first | (rw [hji9] at H; exact H) | (simp only [hji9] at H ⊢; exact H)
     (try rw [hji9] at c8b0)
     have hji9w : (IntKind.i64.wrap ((wrap64 (s0_1 + 1)) - 1)) = ji9 := (i64_w _).trans hji9
     by_cases c10 : 0 ≤ (ji9)
     ·rw [if_pos c10] at H; have c10b0 : decide (0 ≤ (ji9)) = true := decide_eq_true c10; clear c10
      by_cases c11 : a1 = 0
      ·rw [if_pos c11] at H; exact absurd H (by simp)
      ·rw [if_neg c11] at H; have c11b0 : (a1 == 0) = false := beq_eq_false_iff_ne.mpr c11; have c11b1 : (a1 != 0) = true := bne_iff_ne.mpr c11; simp only [Option.some.injEq, Prod.mk.injEq] at H; obtain ⟨rfl, rfl⟩ := H; obtain ⟨ASz12_0, cSz12_0, HGz12, hgz12, HSz12_0⟩ := HI0.out; have hcz12_0 := cellS129_0 HGz12; have hcz12_1 := cellS129_1 HGz12; have hfz12_1 := blk_frozen HGz12 1; clear HGz12 hgz12; have p101 : 0 ≤ ((ji9) : Int) := of_decide_eq_true za; have q101 : (ji9) < (s0_0.length : Int) := of_decide_eq_true za; obtain ⟨ad101, e101, hx101_0⟩ := Kd.at_int HSz12_0 (ji9) p101 q101
       cases e101
       replace hx101_0 := pw_cell_below HB.out hx101_0; replace p101 := eq_true p101; replace q101 := eq_true q101; go_wp2
       repeat (go_quiet (fail); try go_wp2)
       go_ret; exact ⟨by first | rfl | (simp [errW_none, errW_some] <;> rfl) | (simp only [← hji9]; first | rfl | (simp [errW_none, errW_some] <;> rfl)) | (simp [*, errW_none, errW_some] <;> rfl), by repeat (first | (with_reducible first | exact HI0.out | apply IsS129.alloc | apply IsS129.drewN | apply IsS129.drew | apply IsS129.set_1) | exact HI0.out), by repeat (first | (with_reducible first | exact HB.out | apply below_alloc | apply pw_below_drewN | apply below_drew1 | refine below_set ?_ (IsS129.ge HI0.out)) | exact HB.out), zk HK⟩
     ·rw [if_neg c10] at H; exact absurd H (by simp)
    ·rw [if_neg c8] at H; have c8b0 : decide ((wrap64 ((wrap64 (s0_1 + 1)) - 1)) < (s0_0.length : Int)) = false := decide_eq_false c8; clear c8
     by_cases c13 : (s0_0.length : Int) = 0
     ·rw [if_pos c13] at H; exact absurd H (by simp)
     ·rw [if_neg c13] at H; have c13b0 : ((s0_0.length : Int) == 0) = false := beq_eq_false_iff_ne.mpr c13; have c13b1 : ((s0_0.length : Int) != 0) = true := bne_iff_ne.mpr c13; have c13b2 : ¬ (s0_0 = []) := fun h_ => c13 (by rw [h_]; rfl)
      obtain ⟨ji14, hji14⟩ : ∃ j_ : Int, (Int.tmod (wrap64 ((wrap64 (s0_1 + 1)) - 1)) (s0_0.length : Int)) = j_ := ⟨_, rfl⟩
      replace H : (if 0 ≤ (ji14) then (if (ji14) < (s0_0.length : Int) then (if 0 ≤ (Int.tmod (wrap64 ((wrap64 ((wrap64 ((wrap64 (s0_1 + 1)) - 1)) * 7)) + 3)) (s0_0.length : Int)) then (if (Int.tmod (wrap64 ((wrap64 ((wrap64 ((wrap64 (s0_1 + 1)) - 1)) * 7)) + 3)) (s0_0.length : Int)) < (s0_0.length : Int) then (if a1 = 0 then (none) else (some (Int.tmod (Go.bits .xor .i64 (wrap64 ((wrap64 ((wrap64 ((wrap64 ((wrap64 (rd s0_0 (ji14))) * 131)) + (wrap64 ((wrap64 (rd s0_0 (Int.tmod (wrap64 ((wrap64 ((wrap64 ((wrap64 (s0_1 + 1)) - 1)) * 7)) + 3)) (s0_0.length : Int)))) * 1117)))) + (wrap64 ((wrap64 ((wrap64 (s0_1 + 1)) - 1)) * 29)))) + (wrap64 ((wrap64 (Int.tdiv (wrap64 ((wrap64 (s0_1 + 1)) - 1)) (s0_0.length : Int))) * 53)))) (wrap64 (Int.tdiv (wrap64 ((wrap64 ((wrap64 ((wrap64 ((wrap64 (rd s0_0 (ji14))) * 131)) + (wrap64 ((wrap64 (rd s0_0 (Int.tmod (wrap64 ((wrap64 ((wrap64 ((wrap64 (s0_1 + 1)) - 1)) * 7)) + 3)) (s0_0.length : Int)))) * 1117)))) + (wrap64 ((wrap64 ((wrap64 (s0_1 + 1)) - 1)) * 29)))) + (wrap64 ((wrap64 (Int.tdiv (wrap64 ((wrap64 (s0_1 + 1)) - 1)) (s0_0.length : Int))) * 53)))) 64))) a1, (wrap64 (s0_1 + 1))))) else (none)) else (none)) else (none)) else (none)) = some (r1, r2) := by first | (rw [hji14] at H; exact H) | (simp only [hji14] at H ⊢; exact H)
      by_cases c15 : 0 ≤ (ji14)
      ·rw [if_pos c15] at H; have c15b0 : decide (0 ≤ (ji14)) = true := decide_eq_true c15; clear c15
       by_cases c16 : (ji14) < (s0_0.length : Int)
       ·rw [if_pos c16] at H; have c16b0 : decide ((ji14) < (s0_0.length : Int)) = true := decide_eq_true c16; clear c16; obtain ⟨ji17, hji17⟩ : ∃ j_ : Int, (Int.tmod (wrap64 ((wrap64 ((wrap64 ((wrap64 (s0_1 + 1)) - 1)) * 7)) + 3)) (s0_0.length : Int)) = j_ := ⟨_, rfl⟩
        replace H : (if 0 ≤ (ji17) then (if (ji17) < (s0_0.length : Int) then (if a1 = 0 then (none) else (some (Int.tmod (Go.bits .xor .i64 (wrap64 ((wrap64 ((wrap64 ((wrap64 ((wrap64 (rd s0_0 (ji14))) * 131)) + (wrap64 ((wrap64 (rd s0_0 (ji17))) * 1117)))) + (wrap64 ((wrap64 ((wrap64 (s0_1 + 1)) - 1)) * 29)))) + (wrap64 ((wrap64 (Int.tdiv (wrap64 ((wrap64 (s0_1 + 1)) - 1)) (s0_0.length : Int))) * 53)))) (wrap64 (Int.tdiv (wrap64 ((wrap64 ((wrap64 ((wrap64 ((wrap64 (rd s0_0 (ji14))) * 131)) + (wrap64 ((wrap64 (rd s0_0 (ji17))) * 1117)))) + (wrap64 ((wrap64 ((wrap64 (s0_1 + 1)) - 1)) * 29)))) + (wrap64 ((wrap64 (Int.tdiv (wrap64 ((wrap64 (s0_1 + 1)) - 1)) (s0_0.length : Int))) * 53)))) 64))) a1, (wrap64 (s0_1 + 1))))) else (none)) else (none)) = some (r1, r2) := by first | (rw [hji17] at H; exact H) | (simp only [hji17] at H ⊢; exact H)
        by_cases c18 : 0 ≤ (ji17)
        ·rw [if_pos c18] at H; have c18b0 : decide (0 ≤ (ji17)) = true := decide_eq_true c18; clear c18
         by_cases c19 : (ji17) < (s0_0.length : Int)
         ·rw [if_pos c19] at H; have c19b0 : decide ((ji17) < (s0_0.length : Int)) = true := decide_eq_true c19; clear c19
          by_cases c20 : a1 = 0
          ·rw [if_pos c20] at H; exact absurd H (by simp)
          ·rw [if_neg c20] at H; have c20b0 : (a1 == 0) = false := beq_eq_false_iff_ne.mpr c20; have c20b1 : (a1 != 0) = true := bne_iff_ne.mpr c20; simp only [Option.some.injEq, Prod.mk.injEq] at H; obtain ⟨rfl, rfl⟩ := H; obtain ⟨ASz21_0, cSz21_0, HGz21, hgz21, HSz21_0⟩ := HI0.out; have hcz21_0 := cellS129_0 HGz21; have hcz21_1 := cellS129_1 HGz21; have hfz21_1 := blk_frozen HGz21 1; clear HGz21 hgz21; have p102 : 0 ≤ ((ji14) : Int) := of_decide_eq_true za; have q102 : (ji14) < (s0_0.length : Int) := of_decide_eq_true za; obtain ⟨ad102, e102, hx102_0⟩ := Kd.at_int HSz21_0 (ji14) p102 q102
           cases e102
           replace hx102_0 := pw_cell_below HB.out hx102_0; replace p102 := eq_true p102; replace q102 := eq_true q102; have p103 : 0 ≤ ((ji17) : Int) := of_decide_eq_true za; have q103 : (ji17) < (s0_0.length : Int) := of_decide_eq_true za; obtain ⟨ad103, e103, hx103_0⟩ := Kd.at_int HSz21_0 (ji17) p103 q103; obtain rfl : ad102 = ad103 := (by injection e103)
           replace hx103_0 := pw_cell_below HB.out hx103_0; replace p103 := eq_true p103; replace q103 := eq_true q103; go_wp2
           repeat (go_quiet (fail); try go_wp2)
           go_ret; exact ⟨by first | rfl | (simp [errW_none, errW_some] <;> rfl) | (simp only [← hji14, ← hji17]; first | rfl | (simp [errW_none, errW_some] <;> rfl)) | (simp [*, errW_none, errW_some] <;> rfl), by repeat (first | (with_reducible first | exact HI0.out | apply IsS129.alloc | apply IsS129.drewN | apply IsS129.drew | apply IsS129.set_1) | exact HI0.out), by repeat (first | (with_reducible first | exact HB.out | apply below_alloc | apply pw_below_drewN | apply below_drew1 | refine below_set ?_ (IsS129.ge HI0.out)) | exact HB.out), zk HK⟩
         ·rw [if_neg c19] at H; exact absurd H (by simp)
        ·rw [if_neg c18] at H; exact absurd H (by simp)
       ·rw [if_neg c16] at H; exact absurd H (by simp)
      ·rw [if_neg c15] at H; exact absurd H (by simp)

end Go.Proofs.Ytfcpbgedgedalaa.Q

namespace Go.Proofs.Ytfcpbgedgedalaa.Q
open Go.RowKit Go.Proofs.YtfcpbgedgedalaaL.PrintWords Go.Proofs.YtfcpbgedgedalaaL.PrintLast Go.Proofs.YtfcpbgedgedalaaL.PrintMore
attribute [local go_sem] max2_int min2_int max_two min_two max_three min_three max_four min_four   -- for this text's walks alone
set_option linter.unusedVariables false
set_option linter.unusedSimpArgs false

/-! ### spec_newReader: function 53 -/
def spec_newReader.f (l0 : List Int) : Option (List Int × Int) := if (l0.length : Int) > 2000 then (if 2000 ≤ (l0.length : Int) then (some (l0.take 2000, 0)) else (none)) else (some (l0, 0))
set_option maxHeartbeats 8000000 in
set_option maxRecDepth 100000 in
theorem spec_newReader.calls (A0 : Option Addr) (c0 : Nat) (l0 : List Int) (r1 : List Int) (r2 : Int) (w0 w : World) (hB : Below w0.heap.size w0 w) (hr0 : Kd.C (Kd.int .u8) w0 A0 l0.length l0) (hc0 : l0.length ≤ c0) (h : spec_newReader.f l0 = some (r1, r2)) :
  Calls Try.prog 53 #[.slice A0 l0.length c0] w fun e w' => ∃ g_ : Nat, e = .returned (.pointer (some ⟨g_, 0, none⟩)) ∧ IsS129 w0 w' g_ r1 r2 ∧ Below w0.heap.size w0 w' ∧ Below w.heap.size w w' := by
 have hu129 := Try.underlying129; have HR0 := Aside0.mk hr0; have HC0 := Aside0.mk hc0; clear hr0 hc0; have HBW := Aside0.mk (Below.refl w.heap.size w); have HW0 := Aside0.mk hB.size; have HB := Aside0.mk hB; clear hB; have H : (if (l0.length : Int) > 2000 then (if 2000 ≤ (l0.length : Int) then (some (l0.take 2000, 0)) else (none)) else (some (l0, 0))) = some (r1, r2) := h; clear h
 by_cases c2 : (l0.length : Int) > 2000
 ·rw [if_pos c2] at H; have c2b0 : decide (2000 < (l0.length : Int)) = true := decide_eq_true c2; have c2b1 : decide (2000 < l0.length) = true := decide_eq_true (by omega); clear c2
  by_cases c3 : 2000 ≤ (l0.length : Int)
  ·rw [if_pos c3] at H; have c3b0 := eq_true c3; have c3b1 : decide (2000 ≤ (l0.length : Int)) = true := decide_eq_true c3; clear c3; simp only [Option.some.injEq, Prod.mk.injEq] at H; obtain ⟨rfl, rfl⟩ := H; obtain ⟨i04, hi04, _, hsz4, _⟩ := info_parts info5; obtain ⟨hcut4, hA4, hC4⟩ := print_take_of (P := Try.prog) (Value.int .u8) 0 22 5 .i64 Try.underlying22 hi04 hsz4 A0 c0 l0 2000 (by omega) (of_decide_eq_true za) HC0.out; have HR267 := Aside0.mk (Kd.C_of_reads (h1 := fun _ => rfl) (hA4 _ (Kd.reads_of_C HR0.out))); have HC267 := Aside0.mk hC4; clear hA4 hC4 hi04 hsz4; go_enter Try.func53, Try.ntmps53; go_wp2_with (first | ((with_reducible refine gate_dst (N := 10) rfl ?_); refine zx (N := 10) (cs := #[.slice A0 (l0.take 2000).length c0, .int .i64 0]) (t := 129) ?_; intro gb268 hg w5 hbox hb; replace HB := Aside0.mk (below_step (zB HB) hb); have BK268 := Aside0.mk (hbox); have GW268 := Aside0.mk ((by rw [hg]; exact (below_size (zB HBW)) : w.heap.size ≤ gb268)); have GE268 := Aside0.mk (Nat.le_trans HW0.out GW268.out); replace HBW := Aside0.mk (below_step HBW.out hb); clear hb hbox hg)); go_ret; exact ⟨_, rfl, (show IsS129 w0 _ gb268 (l0.take 2000) 0 from ⟨_, _, by (with_reducible repeat (first | refine blk_drewN ?_ _ | refine blk_drew ?_ | refine blk_alloc ?_ _)); exact BK268.out, GE268.out, HR267.out⟩), by repeat (first | (with_reducible first | exact HB.out | apply below_alloc | apply pw_below_drewN | apply below_drew1 | refine below_set ?_ GE268.out) | exact HB.out), by repeat (first | (with_reducible first | exact HBW.out | apply below_alloc | apply pw_below_drewN | apply below_drew1 | refine below_set ?_ GW268.out) | exact HBW.out)⟩
  ·rw [if_neg c3] at H; exact absurd H (by simp)
 ·rw [if_neg c2] at H; have c2b0 : decide (2000 < (l0.length : Int)) = false := decide_eq_false c2; have c2b1 : decide (2000 < l0.length) = false := decide_eq_false (by omega); clear c2; simp only [Option.some.injEq, Prod.mk.injEq] at H; obtain ⟨rfl, rfl⟩ := H; go_enter Try.func53, Try.ntmps53; go_wp2_with (first | ((with_reducible refine gate_dst (N := 10) rfl ?_); refine zx (N := 10) (cs := #[.slice A0 l0.length c0, .int .i64 0]) (t := 129) ?_; intro gb269 hg w6 hbox hb; replace HB := Aside0.mk (below_step (zB HB) hb); have BK269 := Aside0.mk (hbox); have GW269 := Aside0.mk ((by rw [hg]; exact (below_size (zB HBW)) : w.heap.size ≤ gb269)); have GE269 := Aside0.mk (Nat.le_trans HW0.out GW269.out); replace HBW := Aside0.mk (below_step HBW.out hb); clear hb hbox hg)); go_ret; exact ⟨_, rfl, (show IsS129 w0 _ gb269 l0 0 from ⟨_, _, by (with_reducible repeat (first | refine blk_drewN ?_ _ | refine blk_drew ?_ | refine blk_alloc ?_ _)); exact BK269.out, GE269.out, HR0.out⟩), by repeat (first | (with_reducible first | exact HB.out | apply below_alloc | apply pw_below_drewN | apply below_drew1 | refine below_set ?_ GE269.out) | exact HB.out), by repeat (first | (with_reducible first | exact HBW.out | apply below_alloc | apply pw_below_drewN | apply below_drew1 | refine below_set ?_ GW269.out) | exact HBW.out)⟩

end Go.Proofs.Ytfcpbgedgedalaa.Q

namespace Go.Proofs.Ytfcpbgedgedalaa.Q
open Go.RowKit Go.Proofs.YtfcpbgedgedalaaL.PrintWords Go.Proofs.YtfcpbgedgedalaaL.PrintLast Go.Proofs.YtfcpbgedgedalaaL.PrintMore
attribute [local go_sem] max2_int min2_int max_two min_two max_three min_three max_four min_four   -- for this text's walks alone
set_option linter.unusedVariables false
set_option linter.unusedSimpArgs false

/-! ### spec_pairAt: function 106 -/
def spec_pairAt.l0 : Nat → List (S33) → ByteArray → Int → Option (Int)
 | 0, _, _, _ => none
 | k + 1, x0, x1, x5 => if x5 < (x0.length : Int) then (if 0 ≤ x5 then (if ((rd_T33 x0 x5).f0).toList = x1.toList then (some x5) else (spec_pairAt.l0 k x0 x1 (wrap64 (x5 + 1)))) else (none)) else (some (-1))
def spec_pairAt.f (k : Nat) (l0 : List (S33)) (a1 : ByteArray) : Option (Int) := spec_pairAt.l0 k l0 a1 0
theorem spec_pairAt.mono_l : ∀ k, (∀ y0 y1 y2, LeO (spec_pairAt.l0 k y0 y1 y2) (spec_pairAt.l0 (k + 1) y0 y1 y2))
 | 0 => fun _ _ _ r h => by simp [spec_pairAt.l0] at h
 | k + 1 => by
  have ih0 := spec_pairAt.mono_l k
  ·intro y0 y1 y2; unfold spec_pairAt.l0
   repeat' first
   | (with_reducible exact ih0 _ _ _)
   | (with_reducible exact LeO.refl _)
   | (with_reducible exact LeO.none _)
   | (with_reducible refine LeO.ite ?_ ?_)
   | (with_reducible refine LeO.bind ?_ (fun _ => ?_))
   | exact ih0 _ _ _
   | exact LeO.none _
   | refine LeO.ite ?_ ?_
   | refine LeO.bind ?_ (fun _ => ?_)
theorem spec_pairAt.mono : ∀ a0 a1 k, LeO (spec_pairAt.f k a0 a1) (spec_pairAt.f (k + 1) a0 a1) := by
 intro a0 a1 k; have ih0 := spec_pairAt.mono_l k; unfold spec_pairAt.f
 repeat' first
   | (with_reducible exact ih0 _ _ _)
   | (with_reducible exact LeO.refl _)
   | (with_reducible exact LeO.none _)
   | (with_reducible refine LeO.ite ?_ ?_)
   | (with_reducible refine LeO.bind ?_ (fun _ => ?_))
   | exact ih0 _ _ _
   | exact LeO.none _
   | refine LeO.ite ?_ ?_
   | refine LeO.bind ?_ (fun _ => ?_)
set_option maxHeartbeats 8000000 in
set_option maxRecDepth 100000 in
theorem spec_pairAt.calls (k : Nat) (A0 : Option Addr) (c0 : Nat) (l0 : List (S33)) (a1 : ByteArray) (r : Int) (w : World) (hr0 : Kd.C k33 w A0 l0.length l0) (hc0 : l0.length ≤ c0) (h : spec_pairAt.f k l0 a1 = some r) :
  Calls Try.prog 106 #[.slice A0 l0.length c0, .string a1] w fun e w' => e = .returned (.int .i64 r) ∧ Drawn0 w w' := by
 have HR0 := Aside0.mk hr0; have HC0 := Aside0.mk hc0; clear hr0 hc0; have H : (spec_pairAt.l0 k l0 a1 0) = some r := h; clear h; have H' := Aside0.mk H; clear H; go_enter Try.func106, Try.ntmps106; go_wp2; go_loopg [5] k (fun kq v5 w' => ∃ (x5_1 : Int), v5 = .int .i64 x5_1 ∧ Aside0 (spec_pairAt.l0 kq l0 a1 x5_1 = some r) ∧ Aside0 (kq ≤ k) ∧ Drawn0 w w')
 case atStart => exact ⟨(0), zr, H', ⟨Nat.le_refl _⟩, by repeat (first | exact Drawn0.refl _ | apply Drawn0.step)⟩
 case round =>
  clear H'; (try clear c1); (try clear p2); obtain ⟨x5_1, rfl, HA, HK1, ⟨m1, rfl⟩⟩ := hrel
  cases gk with
  | zero => exact absurd HA.out (by simp [spec_pairAt.l0])
  | succ k1 =>
   have H := HA.out; clear HA; simp only [spec_pairAt.l0] at H
   by_cases c3 : x5_1 < (l0.length : Int)
   ·rw [if_pos c3] at H; have c3b0 : decide (x5_1 < (l0.length : Int)) = true := decide_eq_true c3; clear c3
    by_cases c4 : 0 ≤ x5_1
    ·rw [if_pos c4] at H; have c4b0 : decide (0 ≤ x5_1) = true := decide_eq_true c4; clear c4
     by_cases c5 : ((rd_T33 l0 x5_1).f0).toList = a1.toList
     ·rw [if_pos c5] at H; have c5b0 : (((rd_T33 l0 x5_1).f0).toList == a1.toList) = true := beq_iff_eq.mpr c5; have c5b1 : (((rd_T33 l0 x5_1).f0).toList != a1.toList) = false := bne_eq_false_iff_eq.mpr c5; clear c5; obtain rfl := Option.some.inj H; have p104 : 0 ≤ (x5_1 : Int) := of_decide_eq_true za; have q104 : x5_1 < (l0.length : Int) := of_decide_eq_true za; obtain ⟨ad104, e104, hx104_0, hx104_1⟩ := at_T33 HR0.out x5_1 p104 q104
      cases e104
      replace p104 := eq_true p104; replace q104 := eq_true q104; go_wp2; go_ret; exact ⟨by first | rfl | (simp; done) | (simp [*]; done), by repeat (first | exact Drawn0.refl _ | apply Drawn0.step)⟩
     ·rw [if_neg c5] at H; have c5b0 : (((rd_T33 l0 x5_1).f0).toList == a1.toList) = false := beq_eq_false_iff_ne.mpr c5; have c5b1 : (((rd_T33 l0 x5_1).f0).toList != a1.toList) = true := bne_iff_ne.mpr c5; have H' := Aside0.mk H; clear H; have p104 : 0 ≤ (x5_1 : Int) := of_decide_eq_true za; have q104 : x5_1 < (l0.length : Int) := of_decide_eq_true za; obtain ⟨ad104, e104, hx104_0, hx104_1⟩ := at_T33 HR0.out x5_1 p104 q104
      cases e104
      replace p104 := eq_true p104; replace q104 := eq_true q104; go_wp2; go_roundg k1
      case measure => have := HK1.out; omega
      case rel => exact ⟨(wrap64 (x5_1 + 1)), zr, H', ⟨by have := HK1.out; omega⟩, by repeat (first | exact Drawn0.refl _ | apply Drawn0.step)⟩
    ·rw [if_neg c4] at H; exact absurd H (by simp)
   ·rw [if_neg c3] at H; have c3b0 : decide (x5_1 < (l0.length : Int)) = false := decide_eq_false c3; clear c3; obtain rfl := Option.some.inj H; go_wp2; go_ret; exact ⟨by first | rfl | (simp; done) | (simp [*]; done), by repeat (first | exact Drawn0.refl _ | apply Drawn0.step)⟩

end Go.Proofs.Ytfcpbgedgedalaa.Q
