-- written by px.py and merge.py (programs of this claim's), over the kit's print. Not trusted: Lean checks it.
import Derived.Test.YtlpmggokgcphiaaQ0
namespace Go.Proofs.Ytlpmggokgcphiaa.Q
open Go.RowKit Go.Proofs.YtlpmggokgcphiaaL.PrintWords Go.Proofs.YtlpmggokgcphiaaL.PrintLast Go.Proofs.YtlpmggokgcphiaaL.PrintMore
attribute [local go_sem] max2_int min2_int max_two min_two max_three min_three max_four min_four   -- for this text's walks alone
set_option linter.unusedVariables false
set_option linter.unusedSimpArgs false

/-! ### slices.IndexFunc at impl.Param: function 103 -/
set_option maxHeartbeats 8000000 in
set_option maxRecDepth 100000 in
theorem ix103.calls (p : S33 → Bool) (g : Nat) (lb : Array Value) (eg : ∀ args w, (callFunc g args).run Try.prog w = .ok (.enter g args) w) (A0 : Option Addr) (c0 : Nat) (l0 : List (S33)) (w : World)
  (hp : PxPred Try.prog g lb (fun x : S33 => .agg #[.string x.f0, .int .i64 x.f1, .bool x.f2, .int .i64 x.f3]) p w) (hr0 : Kd.C k33 w A0 l0.length l0) :
  Calls Try.prog 103 #[.slice A0 l0.length c0, .func (.func g) #[] lb] w fun e w' => e = .returned (.int .i64 (pxIdx p l0)) ∧ Below w.heap.size w w' := by
 have HR := Aside0.mk hr0; clear hr0; have hbig : l0.length ≤ 9223372036854775807 := HR.out.2.1; have hu33 := Try.underlying33; go_enter Try.func103, Try.ntmps103; go_wp2; go_loopg [5, 8] l0.length (fun gg _ s8 wr => ∃ kk : Nat, kk ≤ l0.length ∧ l0.length - kk ≤ gg ∧ s8 = .int .i64 kk ∧ Aside0 (Below w.heap.size w wr) ∧ Aside0 (∀ j, j < kk → p (l0.getD j z33) = false))
 case atStart => exact ⟨0, Nat.zero_le _, by omega, rfl, ⟨Below.refl _ w⟩, ⟨fun j hj => absurd hj (Nat.not_lt_zero _)⟩⟩
 case round =>
  obtain ⟨kk, hkk, hg, rfl, BW, A⟩ := hrel
  by_cases hlt : kk < l0.length
  ·have hltz : (kk : Int) < (l0.length : Int) := by omega
   have hz0 : (0 : Int) ≤ (kk : Int) := by omega
   obtain ⟨ad, e, hx0, hx1, hx2, hx3⟩ := at_T33 (Kd.C_below HR.out BW.out) (kk : Int) hz0 hltz; simp only [Int.toNat_natCast] at hx0 hx1 hx2 hx3
   cases e
   have hcall := hp wr (rd_T33 l0 (kk : Int)) BW.out; clear hp; have B := Aside0.mk (show rd_T33 l0 (kk : Int) = l0.getD kk z33 from rfl); generalize hy : rd_T33 l0 (kk : Int) = y at hx0 hx1 hx2 hx3 hcall B; clear hy
   cases hq : p y with
   | true =>
    rw [hq] at hcall; go_wp2_with fail; refine hcall.mono ?_; rintro e w' ⟨rfl, hb'⟩; clear hcall; go_wp2; go_ret; refine ⟨?_, below_then BW.out BW.out.size hb'⟩; rw [pxIdx_hit p l0 z33 kk hlt (by rw [← B.out]; exact hq) A.out]; rfl
   | false =>
    rw [hq] at hcall; go_wp2_with fail; refine hcall.mono ?_; rintro e w' ⟨rfl, hb'⟩; clear hcall; go_wp2; go_roundg (l0.length - (kk + 1))
    case measure => omega
    case rel =>
     refine ⟨kk + 1, by omega, by omega, by go_num, ⟨below_then BW.out BW.out.size hb'⟩, ⟨fun j hj => ?_⟩⟩
     by_cases e : j = kk
     ·subst e; rw [← B.out]; exact hq
     ·exact A.out j (by omega)
  ·have hltz : ¬ (kk : Int) < (l0.length : Int) := by omega
   have : kk = l0.length := by omega
   subst this; go_wp2; go_ret; refine ⟨?_, BW.out⟩; rw [pxIdx_miss p l0 z33 A.out]; rfl
set_option maxHeartbeats 8000000 in
set_option maxRecDepth 100000 in
theorem impl_find.pred104 (a1 : ByteArray) (B : Nat) (w : World) (hc : w.cell? ⟨B, 0, none⟩ = some (.string a1)) :
  PxPred Try.prog 104 #[.pointer (some ⟨B, 0, none⟩)] (fun x : S33 => .agg #[.string x.f0, .int .i64 x.f1, .bool x.f2, .int .i64 x.f3]) (fun x : S33 => x.f0.toList == a1.toList) w := by
 intro W x hb; have hc' := px_cell hb hc; have hB' : B < W.heap.size := World.block_lt_of_cell? W _ hc'; clear hc
 show Calls Try.prog 104 #[.agg #[.string x.f0, .int .i64 x.f1, .bool x.f2, .int .i64 x.f3], .pointer (some ⟨B, 0, none⟩)] W _
 have hu33 := Try.underlying33; go_enter Try.func104, Try.ntmps104; go_wp2; go_ret; exact ⟨rfl, px_alloc _ _⟩
/-! ### impl_find: function 58 (a contract of our own) -/
def impl_find.f (l0 : List (S33)) (a1 : ByteArray) : Option (Int) := some (pxIdx (fun x : S33 => x.f0.toList == a1.toList) l0)
set_option maxHeartbeats 8000000 in
set_option maxRecDepth 100000 in
theorem impl_find.calls (A0 : Option Addr) (c0 : Nat) (l0 : List (S33)) (a1 : ByteArray) (r : Int) (w : World) (hr0 : Kd.C k33 w A0 l0.length l0) (hc0 : l0.length ≤ c0) (h : impl_find.f l0 a1 = some r) :
  Calls Try.prog 58 #[.slice A0 l0.length c0, .string a1] w fun e w' => e = .returned (.int .i64 r) ∧ Below w.heap.size w w' := by
 have HR := Aside0.mk hr0; clear hr0; obtain rfl := Option.some.inj h; clear h; have eg := px_enters Try.func104 (by kernel_rfl) rfl; go_enter Try.func58, Try.ntmps58; go_wp2_with fail; refine (ix103.calls (fun x : S33 => x.f0.toList == a1.toList) 104 _ eg A0 c0 l0 _ (impl_find.pred104 a1 w.heap.size _ ?_) ?_).mono ?_
 ·go_simp
 ·exact Kd.C_below HR.out (px_alloc _ _)
 rintro e w' ⟨rfl, hb'⟩; go_wp2; go_ret; exact ⟨rfl, below_then (px_alloc _ _) (by simp) hb'⟩

/-! ### impl_in: function 60 -/
def impl_in.f (a0 : Int) (a1 : Int) (a2 : Int) : Option (Bool) := if a0 ≥ a1 then (some (decide (a0 ≤ a2))) else (some false)
set_option maxHeartbeats 8000000 in
set_option maxRecDepth 100000 in
theorem impl_in.calls (a0 : Int) (a1 : Int) (a2 : Int) (r : Bool) (w : World) (h : impl_in.f a0 a1 a2 = some r) :
  Calls Try.prog 60 #[.int .i64 a0, .int .i64 a1, .int .i64 a2] w fun e w' => e = .returned (.bool r) ∧ Drawn0 w w' := by
 have H : (if a0 ≥ a1 then (some (decide (a0 ≤ a2))) else (some false)) = some r := h; clear h
 by_cases c4 : a0 ≥ a1
 ·rw [if_pos c4] at H; have c4b0 : decide (a1 ≤ a0) = true := decide_eq_true c4; clear c4; obtain rfl := Option.some.inj H; go_enter Try.func60, Try.ntmps60; go_wp2; go_ret; exact ⟨by first | rfl | (simp; done) | (simp [*]; done), by repeat (first | exact Drawn0.refl _ | apply Drawn0.step)⟩
 ·rw [if_neg c4] at H; have c4b0 : decide (a1 ≤ a0) = false := decide_eq_false c4; clear c4; obtain rfl := Option.some.inj H; go_enter Try.func60, Try.ntmps60; go_wp2; go_ret; exact ⟨by first | rfl | (simp; done) | (simp [*]; done), by repeat (first | exact Drawn0.refl _ | apply Drawn0.step)⟩

/-! ### impl_isName: function 59 -/
def impl_isName.l0 : Nat → ByteArray → Int → Option (Bool)
 | 0, _, _ => none
 | k + 1, x0, x3 => if x3 < (x0.size : Int) then (if 0 ≤ x3 then (if (bt x0 x3) < 97 then (some false) else (if (bt x0 x3) > 122 then (some false) else (impl_isName.l0 k x0 (wrap64 (x3 + 1))))) else (none)) else ((impl_in.f (x0.size : Int) 1 6).bind fun t253 => (some t253))
def impl_isName.f (k : Nat) (a0 : ByteArray) : Option (Bool) := impl_isName.l0 k a0 0
theorem impl_isName.mono_l : ∀ k, (∀ y0 y1, LeO (impl_isName.l0 k y0 y1) (impl_isName.l0 (k + 1) y0 y1))
 | 0 => fun _ _ r h => by simp [impl_isName.l0] at h
 | k + 1 => by
  have ih0 := impl_isName.mono_l k
  ·intro y0 y1; unfold impl_isName.l0
   repeat' first
   | (with_reducible exact ih0 _ _)
   | (with_reducible exact LeO.refl _)
   | (with_reducible exact LeO.none _)
   | (with_reducible refine LeO.ite ?_ ?_)
   | (with_reducible refine LeO.bind ?_ (fun _ => ?_))
   | exact ih0 _ _
   | exact LeO.none _
   | refine LeO.ite ?_ ?_
   | refine LeO.bind ?_ (fun _ => ?_)
theorem impl_isName.mono : ∀ a0 k, LeO (impl_isName.f k a0) (impl_isName.f (k + 1) a0) := by
 intro a0 k; have ih0 := impl_isName.mono_l k; unfold impl_isName.f
 repeat' first
   | (with_reducible exact ih0 _ _)
   | (with_reducible exact LeO.refl _)
   | (with_reducible exact LeO.none _)
   | (with_reducible refine LeO.ite ?_ ?_)
   | (with_reducible refine LeO.bind ?_ (fun _ => ?_))
   | exact ih0 _ _
   | exact LeO.none _
   | refine LeO.ite ?_ ?_
   | refine LeO.bind ?_ (fun _ => ?_)
set_option maxHeartbeats 8000000 in
set_option maxRecDepth 100000 in
theorem impl_isName.calls (k : Nat) (a0 : ByteArray) (r : Bool) (w : World) (h : impl_isName.f k a0 = some r) :
  Calls Try.prog 59 #[.string a0] w fun e w' => e = .returned (.bool r) ∧ Drawn0 w w' := by
 have H : (impl_isName.l0 k a0 0) = some r := h; clear h; have H' := Aside0.mk H; clear H; go_enter Try.func59, Try.ntmps59; go_wp2; go_loopg [3] k (fun kq v3 w' => ∃ (x3_1 : Int), v3 = .int .i64 x3_1 ∧ Aside0 (impl_isName.l0 kq a0 x3_1 = some r) ∧ Aside0 (kq ≤ k) ∧ Drawn0 w w')
 case atStart => exact ⟨(0), zr, H', ⟨Nat.le_refl _⟩, by repeat (first | exact Drawn0.refl _ | apply Drawn0.step)⟩
 case round =>
  clear H'; obtain ⟨x3_1, rfl, HA, HK1, ⟨m1, rfl⟩⟩ := hrel
  cases gk with
  | zero => exact absurd HA.out (by simp [impl_isName.l0])
  | succ k1 =>
   have H := HA.out; clear HA; simp only [impl_isName.l0] at H
   by_cases c2 : x3_1 < (a0.size : Int)
   ·rw [if_pos c2] at H; have c2b0 : decide (x3_1 < (a0.size : Int)) = true := decide_eq_true c2; clear c2
    by_cases c3 : 0 ≤ x3_1
    ·rw [if_pos c3] at H; have c3b0 : decide (0 ≤ x3_1) = true := decide_eq_true c3; clear c3
     by_cases c5 : (bt a0 x3_1) < 97
     ·rw [if_pos c5] at H; have c5b0 : decide ((bt a0 x3_1) < 97) = true := decide_eq_true c5; clear c5; obtain rfl := Option.some.inj H; have p4 : 0 ≤ (x3_1 : Int) := of_decide_eq_true za; have q4 : x3_1 < (a0.size : Int) := of_decide_eq_true za; have hx4 := bt_at a0 x3_1; replace p4 := eq_true p4; replace q4 := eq_true q4; go_wp2; go_ret; exact ⟨by first | rfl | (simp; done) | (simp [*]; done), by repeat (first | exact Drawn0.refl _ | apply Drawn0.step)⟩
     ·rw [if_neg c5] at H; have c5b0 : decide ((bt a0 x3_1) < 97) = false := decide_eq_false c5; clear c5
      by_cases c7 : (bt a0 x3_1) > 122
      ·rw [if_pos c7] at H; have c7b0 : decide (122 < (bt a0 x3_1)) = true := decide_eq_true c7; clear c7; obtain rfl := Option.some.inj H; have p4 : 0 ≤ (x3_1 : Int) := of_decide_eq_true za; have q4 : x3_1 < (a0.size : Int) := of_decide_eq_true za; have hx4 := bt_at a0 x3_1; replace p4 := eq_true p4; replace q4 := eq_true q4; have p6 : 0 ≤ (x3_1 : Int) := of_decide_eq_true za; have q6 : x3_1 < (a0.size : Int) := of_decide_eq_true za; have hx6 := bt_at a0 x3_1; replace p6 := eq_true p6; replace q6 := eq_true q6; go_wp2; go_ret; exact ⟨by first | rfl | (simp; done) | (simp [*]; done), by repeat (first | exact Drawn0.refl _ | apply Drawn0.step)⟩
      ·rw [if_neg c7] at H; have c7b0 : decide (122 < (bt a0 x3_1)) = false := decide_eq_false c7; clear c7; have H' := Aside0.mk H; clear H; have p4 : 0 ≤ (x3_1 : Int) := of_decide_eq_true za; have q4 : x3_1 < (a0.size : Int) := of_decide_eq_true za; have hx4 := bt_at a0 x3_1; replace p4 := eq_true p4; replace q4 := eq_true q4; have p6 : 0 ≤ (x3_1 : Int) := of_decide_eq_true za; have q6 : x3_1 < (a0.size : Int) := of_decide_eq_true za; have hx6 := bt_at a0 x3_1; replace p6 := eq_true p6; replace q6 := eq_true q6; go_wp2; go_roundg k1
       case measure => have := HK1.out; omega
       case rel => exact ⟨(wrap64 (x3_1 + 1)), zr, H', ⟨by have := HK1.out; omega⟩, by repeat (first | exact Drawn0.refl _ | apply Drawn0.step)⟩
    ·rw [if_neg c3] at H; exact absurd H (by simp)
   ·rw [if_neg c2] at H; have c2b0 : decide (x3_1 < (a0.size : Int)) = false := decide_eq_false c2; clear c2; replace H := Option.bind_eq_some_iff.mp H; obtain ⟨t253, A80, H⟩ := H
    (try dsimp only at H)
    have A8 := Aside0.mk A80; clear A80; obtain rfl := Option.some.inj H; go_wp2_with (first | ((with_reducible refine gate_callee (f := 60) rfl ?_); refine goesL_ (some 22) rfl rfl Try.func60 (by kernel_rfl) rfl #[.int .i64 (a0.size : Int), .int .i64 1, .int .i64 6] rfl zl ?_; (with_reducible refine (impl_in.calls (a0.size : Int) 1 6 t253 _ A8.out).mono ?_); rintro e w' ⟨rfl, ⟨nd, rfl⟩⟩; refine ⟨_, rfl, ?_⟩)); go_ret; exact ⟨by first | rfl | (simp; done) | (simp [*]; done), by repeat (first | exact Drawn0.refl _ | apply Drawn0.step)⟩

end Go.Proofs.Ytlpmggokgcphiaa.Q

namespace Go.Proofs.Ytlpmggokgcphiaa.Q
open Go.RowKit Go.Proofs.YtlpmggokgcphiaaL.PrintWords Go.Proofs.YtlpmggokgcphiaaL.PrintLast Go.Proofs.YtlpmggokgcphiaaL.PrintMore
attribute [local go_sem] max2_int min2_int max_two min_two max_three min_three max_four min_four   -- for this text's walks alone
set_option linter.unusedVariables false
set_option linter.unusedSimpArgs false

/-! ### impl_isValue: function 61 -/
def impl_isValue.f (a0 : Int) : Option (Bool) := (impl_in.f a0 (-99) 99).bind fun t254 => (some t254)
set_option maxHeartbeats 8000000 in
set_option maxRecDepth 100000 in
theorem impl_isValue.calls (a0 : Int) (r : Bool) (w : World) (h : impl_isValue.f a0 = some r) :
  Calls Try.prog 61 #[.int .i64 a0] w fun e w' => e = .returned (.bool r) ∧ Drawn0 w w' := by
 have H : ((impl_in.f a0 (-99) 99).bind fun t254 => (some t254)) = some r := h; clear h; replace H := Option.bind_eq_some_iff.mp H; obtain ⟨t254, A20, H⟩ := H
 (try dsimp only at H)
 have A2 := Aside0.mk A20; clear A20; obtain rfl := Option.some.inj H; go_enter Try.func61, Try.ntmps61; go_wp2_with (first | ((with_reducible refine gate_callee (f := 60) rfl ?_); refine goesL_ (some 4) rfl rfl Try.func60 (by kernel_rfl) rfl #[.int .i64 a0, .int .i64 (-99), .int .i64 99] rfl zl ?_; (with_reducible refine (impl_in.calls a0 (-99) 99 t254 _ A2.out).mono ?_); rintro e w' ⟨rfl, ⟨nd, rfl⟩⟩; refine ⟨_, rfl, ?_⟩)); go_ret; exact ⟨by first | rfl | (simp; done) | (simp [*]; done), by repeat (first | exact Drawn0.refl _ | apply Drawn0.step)⟩

/-! ### impl_Param_placed: function 63 -/
def impl_Param_placed.f (a0_0 : ByteArray) (a0_1 : Int) (a0_2 : Bool) (a0_3 : Int) : Option (Bool) := if a0_1 = 0 then (some true) else (some (a0_1 == 1))
set_option maxHeartbeats 8000000 in
set_option maxRecDepth 100000 in
theorem impl_Param_placed.calls (a0_0 : ByteArray) (a0_1 : Int) (a0_2 : Bool) (a0_3 : Int) (r : Bool) (w : World) (h : impl_Param_placed.f a0_0 a0_1 a0_2 a0_3 = some r) :
  Calls Try.prog 63 #[.agg #[.string a0_0, .int .i64 a0_1, .bool a0_2, .int .i64 a0_3]] w fun e w' => e = .returned (.bool r) ∧ Below w.heap.size w w' := by
 have hu33 := Try.underlying33; have HB := Aside0.mk (Below.refl w.heap.size w); have H : (if a0_1 = 0 then (some true) else (some (a0_1 == 1))) = some r := h; clear h
 by_cases c2 : a0_1 = 0
 ·rw [if_pos c2] at H; have c2b0 : (a0_1 == 0) = true := beq_iff_eq.mpr c2; have c2b1 : (a0_1 != 0) = false := bne_eq_false_iff_eq.mpr c2; clear c2; obtain rfl := Option.some.inj H; go_enter Try.func63, Try.ntmps63; go_wp2_with (first | ((with_reducible refine gate_dst (N := 1) rfl ?_); refine zx (N := 1) (cs := #[.string a0_0, .int .i64 a0_1, .bool a0_2, .int .i64 a0_3]) (t := 33) ?_; intro gb255 hg w3 hbox hb; have BK255 := Aside0.mk (hbox); have GW255 := zg HB hg; have GE255 := GW255; replace HB := zh HB hb; clear hb hbox hg; obtain ⟨hcz4_0, hcz4_1, hcz4_2, hcz4_3, hfz4_0, hfz4_1, hfz4_2, hfz4_3⟩ := zy4 BK255)); go_ret; exact ⟨zv, zB HB⟩
 ·rw [if_neg c2] at H; have c2b0 : (a0_1 == 0) = false := beq_eq_false_iff_ne.mpr c2; have c2b1 : (a0_1 != 0) = true := bne_iff_ne.mpr c2; obtain rfl := Option.some.inj H; go_enter Try.func63, Try.ntmps63; go_wp2_with (first | ((with_reducible refine gate_dst (N := 1) rfl ?_); refine zx (N := 1) (cs := #[.string a0_0, .int .i64 a0_1, .bool a0_2, .int .i64 a0_3]) (t := 33) ?_; intro gb255 hg w5 hbox hb; have BK255 := Aside0.mk (hbox); have GW255 := zg HB hg; have GE255 := GW255; replace HB := zh HB hb; clear hb hbox hg; obtain ⟨hcz6_0, hcz6_1, hcz6_2, hcz6_3, hfz6_0, hfz6_1, hfz6_2, hfz6_3⟩ := zy4 BK255)); go_ret; exact ⟨zv, zB HB⟩

/-! ### impl_Param_single: function 62 -/
def impl_Param_single.f (a0_0 : ByteArray) (a0_1 : Int) (a0_2 : Bool) (a0_3 : Int) : Option (Bool) := (impl_Param_placed.f a0_0 a0_1 a0_2 a0_3).bind fun t257 => (if t257 = true then (some true) else (some (a0_1 == 3)))
set_option maxHeartbeats 8000000 in
set_option maxRecDepth 100000 in
theorem impl_Param_single.calls (a0_0 : ByteArray) (a0_1 : Int) (a0_2 : Bool) (a0_3 : Int) (r : Bool) (w : World) (h : impl_Param_single.f a0_0 a0_1 a0_2 a0_3 = some r) :
  Calls Try.prog 62 #[.agg #[.string a0_0, .int .i64 a0_1, .bool a0_2, .int .i64 a0_3]] w fun e w' => e = .returned (.bool r) ∧ Below w.heap.size w w' := by
 have hu33 := Try.underlying33; have HB := Aside0.mk (Below.refl w.heap.size w); have H : ((impl_Param_placed.f a0_0 a0_1 a0_2 a0_3).bind fun t257 => (if t257 = true then (some true) else (some (a0_1 == 3)))) = some r := h; clear h; replace H := Option.bind_eq_some_iff.mp H; obtain ⟨t257, A20, H⟩ := H
 (try dsimp only at H)
 have A2 := Aside0.mk A20; clear A20
 by_cases c3 : t257 = true
 ·subst c3; rw [if_pos rfl] at H; obtain rfl := Option.some.inj H; go_enter Try.func62, Try.ntmps62; go_wp2_with (first | ((with_reducible refine gate_dst (N := 1) rfl ?_); refine zx (N := 1) (cs := #[.string a0_0, .int .i64 a0_1, .bool a0_2, .int .i64 a0_3]) (t := 33) ?_; intro gb256 hg w4 hbox hb; have BK256 := Aside0.mk (hbox); have GW256 := zg HB hg; have GE256 := GW256; replace HB := zh HB hb; clear hb hbox hg; obtain ⟨hcz5_0, hcz5_1, hcz5_2, hcz5_3, hfz5_0, hfz5_1, hfz5_2, hfz5_3⟩ := zy4 BK256) | ((with_reducible refine gate_callee (f := 63) rfl ?_); refine goesL_ (some 4) rfl rfl Try.func63 (by kernel_rfl) rfl #[.agg #[.string a0_0, .int .i64 a0_1, .bool a0_2, .int .i64 a0_3]] rfl zl ?_; (with_reducible refine (impl_Param_placed.calls a0_0 a0_1 a0_2 a0_3 true _ A2.out).mono ?_); rintro e w6 ⟨rfl, hb⟩; refine ⟨_, rfl, ?_⟩; replace BK256 := zc BK256 hb; replace HB := zh HB hb; (try clear hb); (try clear hb2); (try clear hk); (try clear hi))); go_ret; exact ⟨zv, zB HB⟩
 ·replace c3 := Bool.eq_false_iff.mpr c3; subst c3; rw [if_neg (show ¬ (false = true) by decide)] at H; obtain rfl := Option.some.inj H; go_enter Try.func62, Try.ntmps62; go_wp2_with (first | ((with_reducible refine gate_dst (N := 1) rfl ?_); refine zx (N := 1) (cs := #[.string a0_0, .int .i64 a0_1, .bool a0_2, .int .i64 a0_3]) (t := 33) ?_; intro gb256 hg w7 hbox hb; have BK256 := Aside0.mk (hbox); have GW256 := zg HB hg; have GE256 := GW256; replace HB := zh HB hb; clear hb hbox hg; obtain ⟨hcz8_0, hcz8_1, hcz8_2, hcz8_3, hfz8_0, hfz8_1, hfz8_2, hfz8_3⟩ := zy4 BK256) | ((with_reducible refine gate_callee (f := 63) rfl ?_); refine goesL_ (some 4) rfl rfl Try.func63 (by kernel_rfl) rfl #[.agg #[.string a0_0, .int .i64 a0_1, .bool a0_2, .int .i64 a0_3]] rfl zl ?_; (with_reducible refine (impl_Param_placed.calls a0_0 a0_1 a0_2 a0_3 false _ A2.out).mono ?_); rintro e w9 ⟨rfl, hb⟩; refine ⟨_, rfl, ?_⟩; replace BK256 := zc BK256 hb; replace HB := zh HB hb; (try clear hb); (try clear hb2); (try clear hk); (try clear hi); obtain ⟨hcz10_0, hcz10_1, hcz10_2, hcz10_3, hfz10_0, hfz10_1, hfz10_2, hfz10_3⟩ := zy4 BK256)); go_ret; exact ⟨zv, zB HB⟩

end Go.Proofs.Ytlpmggokgcphiaa.Q

namespace Go.Proofs.Ytlpmggokgcphiaa.Q
open Go.RowKit Go.Proofs.YtlpmggokgcphiaaL.PrintWords Go.Proofs.YtlpmggokgcphiaaL.PrintLast Go.Proofs.YtlpmggokgcphiaaL.PrintMore
attribute [local go_sem] max2_int min2_int max_two min_two max_three min_three max_four min_four   -- for this text's walks alone
set_option linter.unusedVariables false
set_option linter.unusedSimpArgs false

/-! ### impl_ValidSignature: function 20 -/
mutual
def impl_ValidSignature.l0 : Nat → Bool → List (S33) → Int → Int → List (S33) → Option (Bool)
 | 0, _, _, _, _, _ => none
 | k + 1, x3, x8, x9, x10, x259000 => if x10 < x9 then (if 0 ≤ x10 then (if x10 < (x8.length : Int) then ((impl_isName.f k ((rd_T33 x8 x10).f0)).bind fun t261 => (if t261 = true then ((impl_in.f ((rd_T33 x8 x10).f1) 0 4).bind fun t262 => (if t262 = true then ((impl_isValue.f ((rd_T33 x8 x10).f3)).bind fun t263 => (if t263 = true then (if ((rd_T33 x8 x10).f2 = true) then (if (rd_T33 x8 x10).f2 = true then ((impl_Param_single.f ((rd_T33 x8 x10).f0) ((rd_T33 x8 x10).f1) ((rd_T33 x8 x10).f2) ((rd_T33 x8 x10).f3)).bind fun t264 => (impl_ValidSignature.j1 k x3 x10 x8 x9 x10 (!t264) x259000 ((rd_T33 x8 x10).f0) ((rd_T33 x8 x10).f1) ((rd_T33 x8 x10).f2) ((rd_T33 x8 x10).f3))) else (impl_ValidSignature.j1 k x3 x10 x8 x9 x10 false x259000 ((rd_T33 x8 x10).f0) ((rd_T33 x8 x10).f1) ((rd_T33 x8 x10).f2) ((rd_T33 x8 x10).f3))) else (if ((rd_T33 x8 x10).f3) = 0 then (if (rd_T33 x8 x10).f2 = true then ((impl_Param_single.f ((rd_T33 x8 x10).f0) ((rd_T33 x8 x10).f1) ((rd_T33 x8 x10).f2) ((rd_T33 x8 x10).f3)).bind fun t265 => (impl_ValidSignature.j1 k x3 x10 x8 x9 x10 (!t265) x259000 ((rd_T33 x8 x10).f0) ((rd_T33 x8 x10).f1) ((rd_T33 x8 x10).f2) ((rd_T33 x8 x10).f3))) else (impl_ValidSignature.j1 k x3 x10 x8 x9 x10 false x259000 ((rd_T33 x8 x10).f0) ((rd_T33 x8 x10).f1) ((rd_T33 x8 x10).f2) ((rd_T33 x8 x10).f3))) else (impl_ValidSignature.j1 k x3 x10 x8 x9 x10 true x259000 ((rd_T33 x8 x10).f0) ((rd_T33 x8 x10).f1) ((rd_T33 x8 x10).f2) ((rd_T33 x8 x10).f3)))) else (impl_ValidSignature.j1 k x3 x10 x8 x9 x10 true x259000 ((rd_T33 x8 x10).f0) ((rd_T33 x8 x10).f1) ((rd_T33 x8 x10).f2) ((rd_T33 x8 x10).f3)))) else (impl_ValidSignature.j1 k x3 x10 x8 x9 x10 true x259000 ((rd_T33 x8 x10).f0) ((rd_T33 x8 x10).f1) ((rd_T33 x8 x10).f2) ((rd_T33 x8 x10).f3)))) else (impl_ValidSignature.j1 k x3 x10 x8 x9 x10 true x259000 ((rd_T33 x8 x10).f0) ((rd_T33 x8 x10).f1) ((rd_T33 x8 x10).f2) ((rd_T33 x8 x10).f3)))) else (none)) else (none)) else (some (decide ((x259000.length : Int) ≤ 8)))
def impl_ValidSignature.j1 : Nat → Bool → Int → List (S33) → Int → Int → Bool → List (S33) → ByteArray → Int → Bool → Int → Option (Bool)
 | 0, _, _, _, _, _, _, _, _, _, _, _ => none
 | k + 1, x3, x4, x8, x9, x10, x49, x259000, x261000, x261001, x261002, x261003 => if x49 = true then (some false) else ((impl_Param_placed.f x261000 x261001 x261002 x261003).bind fun t266 => (if t266 = true then (if x3 = true then (if x261002 = true then (impl_ValidSignature.j2 k x261002 x4 x8 x9 x10 x259000 x261000 x261001 x261002 x261003) else (some false)) else (impl_ValidSignature.j2 k x261002 x4 x8 x9 x10 x259000 x261000 x261001 x261002 x261003)) else (impl_ValidSignature.j2 k x3 x4 x8 x9 x10 x259000 x261000 x261001 x261002 x261003)))
def impl_ValidSignature.j2 : Nat → Bool → Int → List (S33) → Int → Int → List (S33) → ByteArray → Int → Bool → Int → Option (Bool)
 | 0, _, _, _, _, _, _, _, _, _, _ => none
 | k + 1, x3, x4, x8, x9, x10, x259000, x261000, x261001, x261002, x261003 => if x4 > 0 then (if 0 ≤ (wrap64 (x4 - 1)) then (if (wrap64 (x4 - 1)) < (x259000.length : Int) then (if x261001 < ((rd_T33 x259000 (wrap64 (x4 - 1))).f1) then (impl_ValidSignature.j3 k x3 x4 x8 x9 x10 true x259000 x261000 x261001 x261002 x261003) else (if x261001 = ((rd_T33 x259000 (wrap64 (x4 - 1))).f1) then ((impl_Param_single.f x261000 x261001 x261002 x261003).bind fun t268 => (impl_ValidSignature.j3 k x3 x4 x8 x9 x10 (!t268) x259000 x261000 x261001 x261002 x261003)) else (impl_ValidSignature.j3 k x3 x4 x8 x9 x10 false x259000 x261000 x261001 x261002 x261003))) else (none)) else (none)) else (if 0 ≤ x4 then (if x4 ≤ (x259000.length : Int) then ((impl_find.f (x259000.take (x4 : Int).toNat) x261000).bind fun t278 => (if t278 ≥ 0 then (some false) else (impl_ValidSignature.l0 k x3 x8 x9 (wrap64 (x10 + 1)) x259000))) else (none)) else (none))
def impl_ValidSignature.j3 : Nat → Bool → Int → List (S33) → Int → Int → Bool → List (S33) → ByteArray → Int → Bool → Int → Option (Bool)
 | 0, _, _, _, _, _, _, _, _, _, _, _ => none
 | k + 1, x3, x4, x8, x9, x10, x83, x259000, x261000, x261001, x261002, x261003 => if x83 = true then (some false) else (if 0 ≤ x4 then (if x4 ≤ (x259000.length : Int) then ((impl_find.f (x259000.take (x4 : Int).toNat) x261000).bind fun t273 => (if t273 ≥ 0 then (some false) else (impl_ValidSignature.l0 k x3 x8 x9 (wrap64 (x10 + 1)) x259000))) else (none)) else (none))
end
def impl_ValidSignature.f (k : Nat) (l0_0 : List (S33)) : Option (Bool) := impl_ValidSignature.l0 k false l0_0 (l0_0.length : Int) 0 l0_0
theorem impl_ValidSignature.mono_l : ∀ k, (∀ y0 y1 y2 y3 y4, LeO (impl_ValidSignature.l0 k y0 y1 y2 y3 y4) (impl_ValidSignature.l0 (k + 1) y0 y1 y2 y3 y4)) ∧ (∀ y0 y1 y2 y3 y4 y5 y6 y7 y8 y9 y10, LeO (impl_ValidSignature.j1 k y0 y1 y2 y3 y4 y5 y6 y7 y8 y9 y10) (impl_ValidSignature.j1 (k + 1) y0 y1 y2 y3 y4 y5 y6 y7 y8 y9 y10)) ∧ (∀ y0 y1 y2 y3 y4 y5 y6 y7 y8 y9, LeO (impl_ValidSignature.j2 k y0 y1 y2 y3 y4 y5 y6 y7 y8 y9) (impl_ValidSignature.j2 (k + 1) y0 y1 y2 y3 y4 y5 y6 y7 y8 y9)) ∧ (∀ y0 y1 y2 y3 y4 y5 y6 y7 y8 y9 y10, LeO (impl_ValidSignature.j3 k y0 y1 y2 y3 y4 y5 y6 y7 y8 y9 y10) (impl_ValidSignature.j3 (k + 1) y0 y1 y2 y3 y4 y5 y6 y7 y8 y9 y10))
 | 0 => ⟨fun _ _ _ _ _ r h => by simp [impl_ValidSignature.l0] at h, fun _ _ _ _ _ _ _ _ _ _ _ r h => by simp [impl_ValidSignature.j1] at h, fun _ _ _ _ _ _ _ _ _ _ r h => by simp [impl_ValidSignature.j2] at h, fun _ _ _ _ _ _ _ _ _ _ _ r h => by simp [impl_ValidSignature.j3] at h⟩
 | k + 1 => by
  obtain ⟨ih0, ih1, ih2, ih3⟩ := impl_ValidSignature.mono_l k; refine ⟨?_, ?_, ?_, ?_⟩
  all_goals intros
  all_goals (first | unfold impl_ValidSignature.l0 | unfold impl_ValidSignature.j1 | unfold impl_ValidSignature.j2 | unfold impl_ValidSignature.j3)
  all_goals repeat' first
   | (with_reducible exact ih0 _ _ _ _ _)
   | (with_reducible exact ih1 _ _ _ _ _ _ _ _ _ _ _)
   | (with_reducible exact ih2 _ _ _ _ _ _ _ _ _ _)
   | (with_reducible exact ih3 _ _ _ _ _ _ _ _ _ _ _)
   | (with_reducible exact impl_isName.mono _ _)
   | (with_reducible exact LeO.refl _)
   | (with_reducible exact LeO.none _)
   | (with_reducible refine LeO.ite ?_ ?_)
   | (with_reducible refine LeO.bind ?_ (fun _ => ?_))
   | exact ih0 _ _ _ _ _
   | exact ih1 _ _ _ _ _ _ _ _ _ _ _
   | exact ih2 _ _ _ _ _ _ _ _ _ _
   | exact ih3 _ _ _ _ _ _ _ _ _ _ _
   | exact impl_isName.mono _ _
   | exact LeO.none _
   | refine LeO.ite ?_ ?_
   | refine LeO.bind ?_ (fun _ => ?_)
theorem impl_ValidSignature.mono : ∀ a0 k, LeO (impl_ValidSignature.f k a0) (impl_ValidSignature.f (k + 1) a0) := by
 intro a0 k; obtain ⟨ih0, ih1, ih2, ih3⟩ := impl_ValidSignature.mono_l k; unfold impl_ValidSignature.f
 repeat' first
   | (with_reducible exact ih0 _ _ _ _ _)
   | (with_reducible exact ih1 _ _ _ _ _ _ _ _ _ _ _)
   | (with_reducible exact ih2 _ _ _ _ _ _ _ _ _ _)
   | (with_reducible exact ih3 _ _ _ _ _ _ _ _ _ _ _)
   | (with_reducible exact impl_isName.mono _ _)
   | (with_reducible exact LeO.refl _)
   | (with_reducible exact LeO.none _)
   | (with_reducible refine LeO.ite ?_ ?_)
   | (with_reducible refine LeO.bind ?_ (fun _ => ?_))
   | exact ih0 _ _ _ _ _
   | exact ih1 _ _ _ _ _ _ _ _ _ _ _
   | exact ih2 _ _ _ _ _ _ _ _ _ _
   | exact ih3 _ _ _ _ _ _ _ _ _ _ _
   | exact impl_isName.mono _ _
   | exact LeO.none _
   | refine LeO.ite ?_ ?_
   | refine LeO.bind ?_ (fun _ => ?_)
def impl_ValidSignature.T15 : Bool × List (List Nat × List Nat) := (true, [([], []), ([0], [0]), ([], []), ([1, 2], [1, 2]), ([], []), ([4], [4]), ([3, 5], [3, 5]), ([6], [6])])
def impl_ValidSignature.B15 : List Nat := [0, 1, 0, 7, 0, 16, 63, 127]
theorem impl_ValidSignature.tab15 : rtab .any (opsOf Try.f20 15) = impl_ValidSignature.T15 := by kernel_rfl
theorem impl_ValidSignature.bits15 : waitsOk impl_ValidSignature.T15.2 impl_ValidSignature.B15 = true := by kernel_rfl
set_option maxHeartbeats 8000000 in
set_option maxRecDepth 100000 in
theorem impl_ValidSignature.calls (k : Nat) (A0_0 : Option Addr) (c0_0 : Nat) (l0_0 : List (S33)) (r : Bool) (w : World) (hr0_0 : Kd.C k33 w A0_0 l0_0.length l0_0) (hc0_0 : l0_0.length ≤ c0_0) (h : impl_ValidSignature.f k l0_0 = some r) :
  Calls Try.prog 20 #[.agg #[.slice A0_0 l0_0.length c0_0]] w fun e w' => e = .returned (.bool r) ∧ Below w.heap.size w w' := by
 have hu25 := Try.underlying25; have hu33 := Try.underlying33; have HR0_0 := Aside0.mk hr0_0; have HC0_0 := Aside0.mk hc0_0; clear hr0_0 hc0_0; have HB := Aside0.mk (Below.refl w.heap.size w); have H : (impl_ValidSignature.l0 k false l0_0 (l0_0.length : Int) 0 l0_0) = some r := h; clear h; have H' := Aside0.mk H; clear H; go_enter Try.func20, Try.ntmps20; go_wp2_with (first | ((with_reducible refine gate_dst (N := 1) rfl ?_); refine zx (N := 1) (cs := #[.slice A0_0 l0_0.length c0_0]) (t := 25) ?_; intro gb258 hg w2 hbox hb; have BK258 := Aside0.mk (hbox); have GW258 := zg HB hg; have GE258 := GW258; replace HB := zh HB hb; clear hb hbox hg; obtain ⟨hcz3_0, hfz3_0⟩ := zy1 BK258)); go_loopg [3, 10] k (fun kq v3 v10 w' => ∃ (x3_1 : Bool) (x10_1 : Int), v3 = .bool x3_1 ∧ v10 = .int .i64 x10_1 ∧ Aside0 (impl_ValidSignature.l0 kq x3_1 l0_0 (l0_0.length : Int) x10_1 l0_0 = some r) ∧ Aside0 (kq ≤ k) ∧ Aside0 (w'.heap[gb258]? = some (.cells #[(.slice A0_0 l0_0.length c0_0)] 25 (0, 0))) ∧ Aside0 (Below w.heap.size w w'))
 case atStart => exact ⟨(false), (0), zr, zr, H', ⟨Nat.le_refl _⟩, ⟨zb BK258⟩, ⟨zB HB⟩⟩
 case round =>
  clear H'; (try clear c2); (try clear p2); (try clear hcz3_0); (try clear hfz3_0); obtain ⟨x3_1, x10_1, rfl, rfl, HA, HK1, BK258, HB⟩ := hrel
  cases gk with
  | zero => exact absurd HA.out (by simp [impl_ValidSignature.l0])
  | succ k1 =>
   have H := HA.out; clear HA; simp only [impl_ValidSignature.l0] at H
   by_cases c4 : x10_1 < (l0_0.length : Int)
   ·rw [if_pos c4] at H; have c4b0 : decide (x10_1 < (l0_0.length : Int)) = true := decide_eq_true c4; clear c4
    by_cases c5 : 0 ≤ x10_1
    ·rw [if_pos c5] at H; have c5b0 : decide (0 ≤ x10_1) = true := decide_eq_true c5; clear c5
     by_cases c6 : x10_1 < (l0_0.length : Int)
     ·rw [if_pos c6] at H; have c6b0 : decide (x10_1 < (l0_0.length : Int)) = true := decide_eq_true c6; clear c6; have HC7 := Aside0.mk H; clear H; have p259 : 0 ≤ (x10_1 : Int) := of_decide_eq_true za; have q259 : x10_1 < (l0_0.length : Int) := of_decide_eq_true za; obtain ⟨ad259, e259, hx259_0, hx259_1, hx259_2, hx259_3⟩ := at_T33 HR0_0.out x10_1 p259 q259
      cases e259
      replace hx259_0 := zt HB hx259_0; replace hx259_1 := zt HB hx259_1; replace hx259_2 := zt HB hx259_2; replace hx259_3 := zt HB hx259_3; replace p259 := eq_true p259; replace q259 := eq_true q259; go_upto_region 5 with (first | ((with_reducible refine gate_dst (N := 5) rfl ?_); refine zx (N := 5) (cs := #[.string (⟨#[]⟩ : ByteArray), .int .i64 0, .bool false, .int .i64 0]) (t := 33) ?_; intro gb260 hg w8 hbox hb; have BK260 := Aside0.mk (hbox); have GW260 := zg HB hg; have GE260 := GW260; replace HB := zh HB hb; obtain ⟨NB258_260, NB260_258⟩ := ze BK258 hg; replace BK258 := zc BK258 hb; clear hb hbox hg; have hnb9 := NB260_258.out; have hnc9 := NB258_260.out; obtain ⟨hcz10_0, hcz10_1, hcz10_2, hcz10_3, hfz10_0, hfz10_1, hfz10_2, hfz10_3⟩ := zy4 BK260))
      (try simp only [Act.put, List.setIfInBounds_toArray, List.set_cons_zero, List.set_cons_succ])
      go_cut [49] (fun v49 wc => ∃ (kq : Nat) (x49_6 : Bool), v49 = .bool x49_6 ∧ Aside0 (impl_ValidSignature.j1 kq x3_1 x10_1 l0_0 (l0_0.length : Int) x10_1 x49_6 l0_0 ((rd_T33 l0_0 x10_1).f0) ((rd_T33 l0_0 x10_1).f1) ((rd_T33 l0_0 x10_1).f2) ((rd_T33 l0_0 x10_1).f3) = some r) ∧ Aside0 (kq ≤ k1) ∧ Aside0 (wc.heap[gb258]? = some (.cells #[(.slice (some ad259) l0_0.length c0_0)] 25 (0, 0))) ∧ Aside0 (wc.heap[gb260]? = some (.cells #[.string ((rd_T33 l0_0 x10_1).f0), .int .i64 ((rd_T33 l0_0 x10_1).f1), .bool ((rd_T33 l0_0 x10_1).f2), .int .i64 ((rd_T33 l0_0 x10_1).f3)] 33 (0, 0))) ∧ Aside0 (Below w.heap.size w wc))
      case first =>
       have H := HC7.out; clear HC7; replace H := Option.bind_eq_some_iff.mp H; obtain ⟨t261, A110, H⟩ := H
       (try dsimp only at H)
       have A11 := Aside0.mk A110; clear A110
       by_cases c12 : t261 = true
       ·subst c12; rw [if_pos rfl] at H; replace H := Option.bind_eq_some_iff.mp H; obtain ⟨t262, A130, H⟩ := H
        (try dsimp only at H)
        have A13 := Aside0.mk A130; clear A130
        by_cases c14 : t262 = true
        ·subst c14; rw [if_pos rfl] at H; replace H := Option.bind_eq_some_iff.mp H; obtain ⟨t263, A150, H⟩ := H
         (try dsimp only at H)
         have A15 := Aside0.mk A150; clear A150
         by_cases c16 : t263 = true
         ·subst c16; rw [if_pos rfl] at H; obtain ⟨bq17, hbq17⟩ : ∃ b_ : Bool, b_ = ((rd_T33 l0_0 x10_1).f2) := ⟨_, rfl⟩
          replace H : (if (bq17 = true) then (if bq17 = true then ((impl_Param_single.f ((rd_T33 l0_0 x10_1).f0) ((rd_T33 l0_0 x10_1).f1) bq17 ((rd_T33 l0_0 x10_1).f3)).bind fun t264 => (impl_ValidSignature.j1 k1 x3_1 x10_1 l0_0 (l0_0.length : Int) x10_1 (!t264) l0_0 ((rd_T33 l0_0 x10_1).f0) ((rd_T33 l0_0 x10_1).f1) bq17 ((rd_T33 l0_0 x10_1).f3))) else (impl_ValidSignature.j1 k1 x3_1 x10_1 l0_0 (l0_0.length : Int) x10_1 false l0_0 ((rd_T33 l0_0 x10_1).f0) ((rd_T33 l0_0 x10_1).f1) bq17 ((rd_T33 l0_0 x10_1).f3))) else (if ((rd_T33 l0_0 x10_1).f3) = 0 then (if bq17 = true then ((impl_Param_single.f ((rd_T33 l0_0 x10_1).f0) ((rd_T33 l0_0 x10_1).f1) bq17 ((rd_T33 l0_0 x10_1).f3)).bind fun t265 => (impl_ValidSignature.j1 k1 x3_1 x10_1 l0_0 (l0_0.length : Int) x10_1 (!t265) l0_0 ((rd_T33 l0_0 x10_1).f0) ((rd_T33 l0_0 x10_1).f1) bq17 ((rd_T33 l0_0 x10_1).f3))) else (impl_ValidSignature.j1 k1 x3_1 x10_1 l0_0 (l0_0.length : Int) x10_1 false l0_0 ((rd_T33 l0_0 x10_1).f0) ((rd_T33 l0_0 x10_1).f1) bq17 ((rd_T33 l0_0 x10_1).f3))) else (impl_ValidSignature.j1 k1 x3_1 x10_1 l0_0 (l0_0.length : Int) x10_1 true l0_0 ((rd_T33 l0_0 x10_1).f0) ((rd_T33 l0_0 x10_1).f1) bq17 ((rd_T33 l0_0 x10_1).f3)))) = some r := by rw [← hbq17] at H; exact H
          (try rw [← hbq17] at BK258)
          (try rw [← hbq17] at BK260)
          (try rw [← hbq17] at A11)
          (try rw [← hbq17] at A13)
          (try rw [← hbq17] at A15)
          have Nbq17 := Aside0.mk hbq17; clear hbq17
          (try rw [← Nbq17.out])
          by_cases c18 : (bq17 = true)
          ·subst c18; rw [if_pos rfl] at H; rw [if_pos rfl] at H; replace H := Option.bind_eq_some_iff.mp H; obtain ⟨t264, A190, H⟩ := H
           (try dsimp only at H)
           have A19 := Aside0.mk A190; clear A190; have H' := Aside0.mk H; clear H; have hnb20 := NB260_258.out; have hnc20 := NB258_260.out; obtain ⟨hcz21_0, hcz21_1, hcz21_2, hcz21_3, hfz21_0, hfz21_1, hfz21_2, hfz21_3⟩ := zy4 BK260; go_wp2_with (first | ((with_reducible refine gate_callee (f := 59) rfl ?_); refine goesL_ (some 17) rfl rfl Try.func59 (by kernel_rfl) rfl #[.string ((rd_T33 l0_0 x10_1).f0)] rfl zl ?_; (with_reducible refine (impl_isName.calls k1 ((rd_T33 l0_0 x10_1).f0) true _ A11.out).mono ?_); rintro e w' ⟨rfl, ⟨nd, rfl⟩⟩; refine ⟨_, rfl, ?_⟩) | (go_at_call 60; (with_reducible refine (impl_in.calls ((rd_T33 l0_0 x10_1).f1) 0 4 true _ A13.out).mono ?_); rintro e w' ⟨rfl, ⟨nd, rfl⟩⟩) | (go_at_call 61; (with_reducible refine (impl_isValue.calls ((rd_T33 l0_0 x10_1).f3) true _ A15.out).mono ?_); rintro e w' ⟨rfl, ⟨nd, rfl⟩⟩) | (go_at_call 62; (with_reducible refine (impl_Param_single.calls ((rd_T33 l0_0 x10_1).f0) ((rd_T33 l0_0 x10_1).f1) true ((rd_T33 l0_0 x10_1).f3) t264 _ A19.out).mono ?_); rintro e w22 ⟨rfl, hb⟩; replace BK258 := zc BK258 hb; replace BK260 := Aside0.mk (blk_below (g := gb260) (o := .cells #[.string ((rd_T33 l0_0 x10_1).f0), .int .i64 ((rd_T33 l0_0 x10_1).f1), .bool true, .int .i64 ((rd_T33 l0_0 x10_1).f3)] 33 (0, 0)) (zbp BK260) hb); replace HB := zh HB hb; (try clear hb); (try clear hb2); (try clear hk); (try clear hi))); go_meet
           case rel => (try rw [← Nbq17.out]); exact ⟨_, (!t264), zr, H', ⟨by have := HK1.out; first | omega | exact Nat.le_refl _⟩, ⟨zb BK258⟩, ⟨zb BK260⟩, ⟨zB HB⟩⟩
          ·replace c18 := Bool.eq_false_iff.mpr c18; subst c18; rw [if_neg (show ¬ (false = true) by decide)] at H
           by_cases c23 : ((rd_T33 l0_0 x10_1).f3) = 0
           ·rw [if_pos c23] at H; have c23b0 : (((rd_T33 l0_0 x10_1).f3) == 0) = true := beq_iff_eq.mpr c23; have c23b1 : (((rd_T33 l0_0 x10_1).f3) != 0) = false := bne_eq_false_iff_eq.mpr c23; clear c23; rw [if_neg (show ¬ (false = true) by decide)] at H; have H' := Aside0.mk H; clear H; have hnb24 := NB260_258.out; have hnc24 := NB258_260.out; obtain ⟨hcz25_0, hcz25_1, hcz25_2, hcz25_3, hfz25_0, hfz25_1, hfz25_2, hfz25_3⟩ := zy4 BK260; go_wp2_with (first | ((with_reducible refine gate_callee (f := 59) rfl ?_); refine goesL_ (some 17) rfl rfl Try.func59 (by kernel_rfl) rfl #[.string ((rd_T33 l0_0 x10_1).f0)] rfl zl ?_; (with_reducible refine (impl_isName.calls k1 ((rd_T33 l0_0 x10_1).f0) true _ A11.out).mono ?_); rintro e w' ⟨rfl, ⟨nd, rfl⟩⟩; refine ⟨_, rfl, ?_⟩) | (go_at_call 60; (with_reducible refine (impl_in.calls ((rd_T33 l0_0 x10_1).f1) 0 4 true _ A13.out).mono ?_); rintro e w' ⟨rfl, ⟨nd, rfl⟩⟩) | (go_at_call 61; (with_reducible refine (impl_isValue.calls ((rd_T33 l0_0 x10_1).f3) true _ A15.out).mono ?_); rintro e w' ⟨rfl, ⟨nd, rfl⟩⟩)); go_meet
            case rel => (try rw [← Nbq17.out]); exact ⟨_, (false), zr, H', ⟨by have := HK1.out; first | omega | exact Nat.le_refl _⟩, ⟨zf BK258⟩, ⟨zbp BK260⟩, ⟨zB HB⟩⟩
           ·rw [if_neg c23] at H; have c23b0 : (((rd_T33 l0_0 x10_1).f3) == 0) = false := beq_eq_false_iff_ne.mpr c23; have c23b1 : (((rd_T33 l0_0 x10_1).f3) != 0) = true := bne_iff_ne.mpr c23; have H' := Aside0.mk H; clear H; have hnb26 := NB260_258.out; have hnc26 := NB258_260.out; obtain ⟨hcz27_0, hcz27_1, hcz27_2, hcz27_3, hfz27_0, hfz27_1, hfz27_2, hfz27_3⟩ := zy4 BK260; go_wp2_with (first | ((with_reducible refine gate_callee (f := 59) rfl ?_); refine goesL_ (some 17) rfl rfl Try.func59 (by kernel_rfl) rfl #[.string ((rd_T33 l0_0 x10_1).f0)] rfl zl ?_; (with_reducible refine (impl_isName.calls k1 ((rd_T33 l0_0 x10_1).f0) true _ A11.out).mono ?_); rintro e w' ⟨rfl, ⟨nd, rfl⟩⟩; refine ⟨_, rfl, ?_⟩) | (go_at_call 60; (with_reducible refine (impl_in.calls ((rd_T33 l0_0 x10_1).f1) 0 4 true _ A13.out).mono ?_); rintro e w' ⟨rfl, ⟨nd, rfl⟩⟩) | (go_at_call 61; (with_reducible refine (impl_isValue.calls ((rd_T33 l0_0 x10_1).f3) true _ A15.out).mono ?_); rintro e w' ⟨rfl, ⟨nd, rfl⟩⟩)); go_meet
            case rel => (try rw [← Nbq17.out]); exact ⟨_, (true), zr, H', ⟨by have := HK1.out; first | omega | exact Nat.le_refl _⟩, ⟨zf BK258⟩, ⟨zbp BK260⟩, ⟨zB HB⟩⟩
         ·replace c16 := Bool.eq_false_iff.mpr c16; subst c16; rw [if_neg (show ¬ (false = true) by decide)] at H; have H' := Aside0.mk H; clear H; have hnb28 := NB260_258.out; have hnc28 := NB258_260.out; obtain ⟨hcz29_0, hcz29_1, hcz29_2, hcz29_3, hfz29_0, hfz29_1, hfz29_2, hfz29_3⟩ := zy4 BK260; go_wp2_with (first | ((with_reducible refine gate_callee (f := 59) rfl ?_); refine goesL_ (some 17) rfl rfl Try.func59 (by kernel_rfl) rfl #[.string ((rd_T33 l0_0 x10_1).f0)] rfl zl ?_; (with_reducible refine (impl_isName.calls k1 ((rd_T33 l0_0 x10_1).f0) true _ A11.out).mono ?_); rintro e w' ⟨rfl, ⟨nd, rfl⟩⟩; refine ⟨_, rfl, ?_⟩) | (go_at_call 60; (with_reducible refine (impl_in.calls ((rd_T33 l0_0 x10_1).f1) 0 4 true _ A13.out).mono ?_); rintro e w' ⟨rfl, ⟨nd, rfl⟩⟩) | (go_at_call 61; (with_reducible refine (impl_isValue.calls ((rd_T33 l0_0 x10_1).f3) false _ A15.out).mono ?_); rintro e w' ⟨rfl, ⟨nd, rfl⟩⟩)); go_meet
          case rel => exact ⟨_, (true), zr, H', ⟨by have := HK1.out; first | omega | exact Nat.le_refl _⟩, ⟨zf BK258⟩, ⟨zbp BK260⟩, ⟨zB HB⟩⟩
        ·replace c14 := Bool.eq_false_iff.mpr c14; subst c14; rw [if_neg (show ¬ (false = true) by decide)] at H; have H' := Aside0.mk H; clear H; have hnb30 := NB260_258.out; have hnc30 := NB258_260.out; obtain ⟨hcz31_0, hcz31_1, hcz31_2, hcz31_3, hfz31_0, hfz31_1, hfz31_2, hfz31_3⟩ := zy4 BK260; go_wp2_with (first | ((with_reducible refine gate_callee (f := 59) rfl ?_); refine goesL_ (some 17) rfl rfl Try.func59 (by kernel_rfl) rfl #[.string ((rd_T33 l0_0 x10_1).f0)] rfl zl ?_; (with_reducible refine (impl_isName.calls k1 ((rd_T33 l0_0 x10_1).f0) true _ A11.out).mono ?_); rintro e w' ⟨rfl, ⟨nd, rfl⟩⟩; refine ⟨_, rfl, ?_⟩) | (go_at_call 60; (with_reducible refine (impl_in.calls ((rd_T33 l0_0 x10_1).f1) 0 4 false _ A13.out).mono ?_); rintro e w' ⟨rfl, ⟨nd, rfl⟩⟩)); go_meet
         case rel => exact ⟨_, (true), zr, H', ⟨by have := HK1.out; first | omega | exact Nat.le_refl _⟩, ⟨zf BK258⟩, ⟨zbp BK260⟩, ⟨zB HB⟩⟩
       ·replace c12 := Bool.eq_false_iff.mpr c12; subst c12; rw [if_neg (show ¬ (false = true) by decide)] at H; have H' := Aside0.mk H; clear H; have hnb32 := NB260_258.out; have hnc32 := NB258_260.out; obtain ⟨hcz33_0, hcz33_1, hcz33_2, hcz33_3, hfz33_0, hfz33_1, hfz33_2, hfz33_3⟩ := zy4 BK260; go_wp2_with (first | ((with_reducible refine gate_callee (f := 59) rfl ?_); refine goesL_ (some 17) rfl rfl Try.func59 (by kernel_rfl) rfl #[.string ((rd_T33 l0_0 x10_1).f0)] rfl zl ?_; (with_reducible refine (impl_isName.calls k1 ((rd_T33 l0_0 x10_1).f0) false _ A11.out).mono ?_); rintro e w' ⟨rfl, ⟨nd, rfl⟩⟩; refine ⟨_, rfl, ?_⟩)); go_meet
        case rel => exact ⟨_, (true), zr, H', ⟨by have := HK1.out; first | omega | exact Nat.le_refl _⟩, ⟨zf BK258⟩, ⟨zbp BK260⟩, ⟨zB HB⟩⟩
      case rest =>
       clear HC7; (try clear c1); (try clear q1); (try clear c2); (try clear p2); (try clear q2); (try clear hx2); (try clear c3); (try clear c4); (try clear c4b0); (try clear c5); (try clear c5b0); (try clear c6); (try clear c6b0); (try clear c9); (try clear c12); (try clear c14); (try clear c16); (try clear q17); (try clear c18); (try clear c20); (try clear c23); (try clear c23b0); (try clear c23b1); (try clear c24); (try clear p25); (try clear q25); (try clear hx25); (try clear c26); (try clear c28); (try clear c30); (try clear c32); (try clear hcz10_0); (try clear hcz10_1); (try clear hcz10_2); (try clear hcz10_3); (try clear hcz21_0); (try clear hcz21_1); (try clear hcz21_2); (try clear hcz21_3); (try clear hcz25_0); (try clear hcz25_1); (try clear hcz25_2); (try clear hcz25_3); (try clear hcz27_0); (try clear hcz27_1); (try clear hcz27_2); (try clear hcz27_3); (try clear hcz29_0); (try clear hcz29_1); (try clear hcz29_2); (try clear hcz29_3); (try clear hcz31_0); (try clear hcz31_1); (try clear hcz31_2); (try clear hcz31_3); (try clear hcz33_0); (try clear hcz33_1); (try clear hcz33_2); (try clear hcz33_3); (try clear hcz3_0); (try clear hfz10_0); (try clear hfz10_1); (try clear hfz10_2); (try clear hfz10_3); (try clear hfz21_0); (try clear hfz21_1); (try clear hfz21_2); (try clear hfz21_3); (try clear hfz25_0); (try clear hfz25_1); (try clear hfz25_2); (try clear hfz25_3); (try clear hfz27_0); (try clear hfz27_1); (try clear hfz27_2); (try clear hfz27_3); (try clear hfz29_0); (try clear hfz29_1); (try clear hfz29_2); (try clear hfz29_3); (try clear hfz31_0); (try clear hfz31_1); (try clear hfz31_2); (try clear hfz31_3); (try clear hfz33_0); (try clear hfz33_1); (try clear hfz33_2); (try clear hfz33_3); (try clear hfz3_0); (try clear hx259_0); (try clear hx259_1); (try clear hx259_2); (try clear hx259_3); (try clear p2); (try clear p259); (try clear q259); obtain ⟨kq, x49_6, rfl, HA, HJ6, BK258, BK260, HB⟩ := hcut
       cases kq with
       | zero => exact absurd HA.out (by simp [impl_ValidSignature.j1])
       | succ kj6 =>
        have H := HA.out; clear HA; simp only [impl_ValidSignature.j1] at H
        by_cases c34 : x49_6 = true
        ·subst c34; rw [if_pos rfl] at H; obtain rfl := Option.some.inj H; go_wp2; go_ret; exact ⟨zv, zB HB⟩
        ·replace c34 := Bool.eq_false_iff.mpr c34; subst c34; rw [if_neg (show ¬ (false = true) by decide)] at H; replace H := Option.bind_eq_some_iff.mp H; obtain ⟨t266, A350, H⟩ := H
         (try dsimp only at H)
         have A35 := Aside0.mk A350; clear A350; have HC36 := Aside0.mk H; clear H; have hnb37 := NB260_258.out; have hnc37 := NB258_260.out; obtain ⟨hcz38_0, hcz38_1, hcz38_2, hcz38_3, hfz38_0, hfz38_1, hfz38_2, hfz38_3⟩ := zy4 BK260; go_upto_if 51 with (first | ((with_reducible refine gate_callee (f := 63) rfl ?_); refine goesL_ (some 51) rfl rfl Try.func63 (by kernel_rfl) rfl #[.agg #[.string ((rd_T33 l0_0 x10_1).f0), .int .i64 ((rd_T33 l0_0 x10_1).f1), .bool ((rd_T33 l0_0 x10_1).f2), .int .i64 ((rd_T33 l0_0 x10_1).f3)]] rfl zl ?_; (with_reducible refine (impl_Param_placed.calls ((rd_T33 l0_0 x10_1).f0) ((rd_T33 l0_0 x10_1).f1) ((rd_T33 l0_0 x10_1).f2) ((rd_T33 l0_0 x10_1).f3) t266 _ A35.out).mono ?_); rintro e w39 ⟨rfl, hb⟩; refine ⟨_, rfl, ?_⟩; replace BK258 := zc BK258 hb; replace BK260 := zc BK260 hb; replace HB := zh HB hb; (try clear hb); (try clear hb2); (try clear hk); (try clear hi)))
         (try simp only [Act.put, List.setIfInBounds_toArray, List.set_cons_zero, List.set_cons_succ])
         go_cut [3] (fun v3 wc => ∃ (kq : Nat) (x3_35 : Bool), v3 = .bool x3_35 ∧ Aside0 (impl_ValidSignature.j2 kq x3_35 x10_1 l0_0 (l0_0.length : Int) x10_1 l0_0 ((rd_T33 l0_0 x10_1).f0) ((rd_T33 l0_0 x10_1).f1) ((rd_T33 l0_0 x10_1).f2) ((rd_T33 l0_0 x10_1).f3) = some r) ∧ Aside0 (kq ≤ kj6) ∧ Aside0 (wc.heap[gb258]? = some (.cells #[(.slice (some ad259) l0_0.length c0_0)] 25 (0, 0))) ∧ Aside0 (wc.heap[gb260]? = some (.cells #[.string ((rd_T33 l0_0 x10_1).f0), .int .i64 ((rd_T33 l0_0 x10_1).f1), .bool ((rd_T33 l0_0 x10_1).f2), .int .i64 ((rd_T33 l0_0 x10_1).f3)] 33 (0, 0))) ∧ Aside0 (Below w.heap.size w wc))
         case first =>
          have H := HC36.out; clear HC36
          by_cases c40 : t266 = true
          ·subst c40; rw [if_pos rfl] at H
           by_cases c41 : x3_1 = true
           ·subst c41; rw [if_pos rfl] at H; obtain ⟨bq42, hbq42⟩ : ∃ b_ : Bool, b_ = ((rd_T33 l0_0 x10_1).f2) := ⟨_, rfl⟩
            replace H : (if bq42 = true then (impl_ValidSignature.j2 kj6 bq42 x10_1 l0_0 (l0_0.length : Int) x10_1 l0_0 ((rd_T33 l0_0 x10_1).f0) ((rd_T33 l0_0 x10_1).f1) bq42 ((rd_T33 l0_0 x10_1).f3)) else (some false)) = some r := by rw [← hbq42] at H; exact H
            (try rw [← hbq42] at BK258)
            (try rw [← hbq42] at BK260)
            (try rw [← hbq42] at A11)
            (try rw [← hbq42] at A13)
            (try rw [← hbq42] at A15)
            (try rw [← hbq42] at A19)
            (try rw [← hbq42] at A35)
            have Nbq42 := Aside0.mk hbq42; clear hbq42
            (try rw [← Nbq42.out])
            by_cases c43 : bq42 = true
            ·subst c43; rw [if_pos rfl] at H; have H' := Aside0.mk H; clear H; have hnb44 := NB260_258.out; have hnc44 := NB258_260.out; obtain ⟨hcz45_0, hcz45_1, hcz45_2, hcz45_3, hfz45_0, hfz45_1, hfz45_2, hfz45_3⟩ := zy4 BK260; go_wp2; go_meet
             case rel => (try rw [← Nbq42.out]); exact ⟨_, (true), zr, H', ⟨by have := HK1.out; have := HJ6.out; first | omega | exact Nat.le_refl _⟩, ⟨zb BK258⟩, ⟨zb BK260⟩, ⟨zB HB⟩⟩
            ·replace c43 := Bool.eq_false_iff.mpr c43; subst c43; rw [if_neg (show ¬ (false = true) by decide)] at H; obtain rfl := Option.some.inj H; have hnb46 := NB260_258.out; have hnc46 := NB258_260.out; obtain ⟨hcz47_0, hcz47_1, hcz47_2, hcz47_3, hfz47_0, hfz47_1, hfz47_2, hfz47_3⟩ := zy4 BK260; go_wp2; go_ret; exact ⟨zv, zB HB⟩
           ·replace c41 := Bool.eq_false_iff.mpr c41; subst c41; rw [if_neg (show ¬ (false = true) by decide)] at H; have H' := Aside0.mk H; clear H; have hnb48 := NB260_258.out; have hnc48 := NB258_260.out; obtain ⟨hcz49_0, hcz49_1, hcz49_2, hcz49_3, hfz49_0, hfz49_1, hfz49_2, hfz49_3⟩ := zy4 BK260; go_wp2; go_meet
            case rel => exact ⟨_, (((rd_T33 l0_0 x10_1).f2)), zr, H', ⟨by have := HK1.out; have := HJ6.out; first | omega | exact Nat.le_refl _⟩, ⟨zb BK258⟩, ⟨zb BK260⟩, ⟨zB HB⟩⟩
          ·replace c40 := Bool.eq_false_iff.mpr c40; subst c40; rw [if_neg (show ¬ (false = true) by decide)] at H; have H' := Aside0.mk H; clear H; go_wp2; go_meet
           case rel => exact ⟨_, (x3_1), zr, H', ⟨by have := HK1.out; have := HJ6.out; first | omega | exact Nat.le_refl _⟩, ⟨zb BK258⟩, ⟨zb BK260⟩, ⟨zB HB⟩⟩
         case rest =>
          clear HC36; (try clear c1); (try clear q1); (try clear c2); (try clear p2); (try clear q2); (try clear hx2); (try clear c3); (try clear c4); (try clear c4b0); (try clear q4); (try clear c5); (try clear c5b0); (try clear c6); (try clear c6b0); (try clear c9); (try clear c12); (try clear c14); (try clear c16); (try clear q17); (try clear c18); (try clear c20); (try clear c23); (try clear c23b0); (try clear c23b1); (try clear c24); (try clear p25); (try clear q25); (try clear hx25); (try clear c26); (try clear c28); (try clear c30); (try clear c32); (try clear c34); (try clear c37); (try clear c40); (try clear c41); (try clear q42); (try clear c43); (try clear c44); (try clear c46); (try clear c48); (try clear hcz10_0); (try clear hcz10_1); (try clear hcz10_2); (try clear hcz10_3); (try clear hcz21_0); (try clear hcz21_1); (try clear hcz21_2); (try clear hcz21_3); (try clear hcz25_0); (try clear hcz25_1); (try clear hcz25_2); (try clear hcz25_3); (try clear hcz27_0); (try clear hcz27_1); (try clear hcz27_2); (try clear hcz27_3); (try clear hcz29_0); (try clear hcz29_1); (try clear hcz29_2); (try clear hcz29_3); (try clear hcz31_0); (try clear hcz31_1); (try clear hcz31_2); (try clear hcz31_3); (try clear hcz33_0); (try clear hcz33_1); (try clear hcz33_2); (try clear hcz33_3); (try clear hcz38_0); (try clear hcz38_1); (try clear hcz38_2); (try clear hcz38_3); (try clear hcz3_0); (try clear hcz45_0); (try clear hcz45_1); (try clear hcz45_2); (try clear hcz45_3); (try clear hcz47_0); (try clear hcz47_1); (try clear hcz47_2); (try clear hcz47_3); (try clear hcz49_0); (try clear hcz49_1); (try clear hcz49_2); (try clear hcz49_3); (try clear hfz10_0); (try clear hfz10_1); (try clear hfz10_2); (try clear hfz10_3); (try clear hfz21_0); (try clear hfz21_1); (try clear hfz21_2); (try clear hfz21_3); (try clear hfz25_0); (try clear hfz25_1); (try clear hfz25_2); (try clear hfz25_3); (try clear hfz27_0); (try clear hfz27_1); (try clear hfz27_2); (try clear hfz27_3); (try clear hfz29_0); (try clear hfz29_1); (try clear hfz29_2); (try clear hfz29_3); (try clear hfz31_0); (try clear hfz31_1); (try clear hfz31_2); (try clear hfz31_3); (try clear hfz33_0); (try clear hfz33_1); (try clear hfz33_2); (try clear hfz33_3); (try clear hfz38_0); (try clear hfz38_1); (try clear hfz38_2); (try clear hfz38_3); (try clear hfz3_0); (try clear hfz45_0); (try clear hfz45_1); (try clear hfz45_2); (try clear hfz45_3); (try clear hfz47_0); (try clear hfz47_1); (try clear hfz47_2); (try clear hfz47_3); (try clear hfz49_0); (try clear hfz49_1); (try clear hfz49_2); (try clear hfz49_3); (try clear hx259_0); (try clear hx259_1); (try clear hx259_2); (try clear hx259_3); (try clear p2); (try clear p25); (try clear p259); (try clear q1); (try clear q17); (try clear q2); (try clear q25); (try clear q259); obtain ⟨kq, x3_35, rfl, HA, HJ35, BK258, BK260, HB⟩ := hcut
          cases kq with
          | zero => exact absurd HA.out (by simp [impl_ValidSignature.j2])
          | succ kj35 =>
           have H := HA.out; clear HA; simp only [impl_ValidSignature.j2] at H
           by_cases c50 : x10_1 > 0
           ·rw [if_pos c50] at H; have c50b0 : decide (0 < x10_1) = true := decide_eq_true c50; clear c50; obtain ⟨ji51, hji51⟩ : ∃ j_ : Int, (wrap64 (x10_1 - 1)) = j_ := ⟨_, rfl⟩
            replace H : (if 0 ≤ (ji51) then (if (ji51) < (l0_0.length : Int) then (if ((rd_T33 l0_0 x10_1).f1) < ((rd_T33 l0_0 (ji51)).f1) then (impl_ValidSignature.j3 kj35 x3_35 x10_1 l0_0 (l0_0.length : Int) x10_1 true l0_0 ((rd_T33 l0_0 x10_1).f0) ((rd_T33 l0_0 x10_1).f1) ((rd_T33 l0_0 x10_1).f2) ((rd_T33 l0_0 x10_1).f3)) else (if ((rd_T33 l0_0 x10_1).f1) = ((rd_T33 l0_0 (ji51)).f1) then ((impl_Param_single.f ((rd_T33 l0_0 x10_1).f0) ((rd_T33 l0_0 x10_1).f1) ((rd_T33 l0_0 x10_1).f2) ((rd_T33 l0_0 x10_1).f3)).bind fun t268 => (impl_ValidSignature.j3 kj35 x3_35 x10_1 l0_0 (l0_0.length : Int) x10_1 (!t268) l0_0 ((rd_T33 l0_0 x10_1).f0) ((rd_T33 l0_0 x10_1).f1) ((rd_T33 l0_0 x10_1).f2) ((rd_T33 l0_0 x10_1).f3))) else (impl_ValidSignature.j3 kj35 x3_35 x10_1 l0_0 (l0_0.length : Int) x10_1 false l0_0 ((rd_T33 l0_0 x10_1).f0) ((rd_T33 l0_0 x10_1).f1) ((rd_T33 l0_0 x10_1).f2) ((rd_T33 l0_0 x10_1).f3)))) else (none)) else (none)) = some r := by first | (rw [hji51] at H; exact H) | (simp only [hji51] at H ⊢; exact H)
            have hji51w : (IntKind.i64.wrap (x10_1 - 1)) = ji51 := (i64_w _).trans hji51
            by_cases c52 : 0 ≤ (ji51)
            ·rw [if_pos c52] at H; have c52b0 : decide (0 ≤ (ji51)) = true := decide_eq_true c52; clear c52
             by_cases c53 : (ji51) < (l0_0.length : Int)
             ·rw [if_pos c53] at H; have c53b0 : decide ((ji51) < (l0_0.length : Int)) = true := decide_eq_true c53; clear c53; have HC54 := Aside0.mk H; clear H; have hnb55 := NB258_260.out; have hnc55 := NB260_258.out; obtain ⟨hcz56_0, hfz56_0⟩ := zy1 BK258; have p267 : 0 ≤ ((ji51) : Int) := of_decide_eq_true za; have q267 : (ji51) < (l0_0.length : Int) := of_decide_eq_true za; obtain ⟨ad267, e267, hx267_0, hx267_1, hx267_2, hx267_3⟩ := at_T33 HR0_0.out (ji51) p267 q267; obtain rfl : ad259 = ad267 := (by injection e267)
              replace hx267_0 := zt HB hx267_0; replace hx267_1 := zt HB hx267_1; replace hx267_2 := zt HB hx267_2; replace hx267_3 := zt HB hx267_3; replace p267 := eq_true p267; replace q267 := eq_true q267; go_upto_region 13 with (fail)
              go_cut [83] (fun v83 wc => ∃ (kq : Nat) (x83_53 : Bool), v83 = .bool x83_53 ∧ Aside0 (impl_ValidSignature.j3 kq x3_35 x10_1 l0_0 (l0_0.length : Int) x10_1 x83_53 l0_0 ((rd_T33 l0_0 x10_1).f0) ((rd_T33 l0_0 x10_1).f1) ((rd_T33 l0_0 x10_1).f2) ((rd_T33 l0_0 x10_1).f3) = some r) ∧ Aside0 (kq ≤ kj35) ∧ Aside0 (wc.heap[gb258]? = some (.cells #[(.slice (some ad259) l0_0.length c0_0)] 25 (0, 0))) ∧ Aside0 (wc.heap[gb260]? = some (.cells #[.string ((rd_T33 l0_0 x10_1).f0), .int .i64 ((rd_T33 l0_0 x10_1).f1), .bool ((rd_T33 l0_0 x10_1).f2), .int .i64 ((rd_T33 l0_0 x10_1).f3)] 33 (0, 0))) ∧ Aside0 (Below w.heap.size w wc))
              case first =>
               have H := HC54.out; clear HC54
               by_cases c57 : ((rd_T33 l0_0 x10_1).f1) < ((rd_T33 l0_0 (ji51)).f1)
               ·rw [if_pos c57] at H; have c57b0 : decide (((rd_T33 l0_0 x10_1).f1) < ((rd_T33 l0_0 (ji51)).f1)) = true := decide_eq_true c57; clear c57
                (first | rw [c57b0] | (simp only [i64_w, i32_w]; rw [c57b0]) | skip)
                have H' := Aside0.mk H; clear H; have hnb58 := NB260_258.out; have hnc58 := NB258_260.out; obtain ⟨hcz59_0, hcz59_1, hcz59_2, hcz59_3, hfz59_0, hfz59_1, hfz59_2, hfz59_3⟩ := zy4 BK260; go_wp2; go_meet
                case rel => exact ⟨_, (true), zr, H', ⟨by have := HK1.out; have := HJ6.out; have := HJ35.out; first | omega | exact Nat.le_refl _⟩, ⟨zb BK258⟩, ⟨zb BK260⟩, ⟨zB HB⟩⟩
               ·rw [if_neg c57] at H; have c57b0 : decide (((rd_T33 l0_0 x10_1).f1) < ((rd_T33 l0_0 (ji51)).f1)) = false := decide_eq_false c57; clear c57
                (first | rw [c57b0] | (simp only [i64_w, i32_w]; rw [c57b0]) | skip)
                by_cases c60 : ((rd_T33 l0_0 x10_1).f1) = ((rd_T33 l0_0 (ji51)).f1)
                ·rw [if_pos c60] at H; have c60b0 : (((rd_T33 l0_0 x10_1).f1) == ((rd_T33 l0_0 (ji51)).f1)) = true := beq_iff_eq.mpr c60; have c60b1 : (((rd_T33 l0_0 x10_1).f1) != ((rd_T33 l0_0 (ji51)).f1)) = false := bne_eq_false_iff_eq.mpr c60; clear c60; replace H := Option.bind_eq_some_iff.mp H; obtain ⟨t268, A610, H⟩ := H
                 (try dsimp only at H)
                 have A61 := Aside0.mk A610; clear A610; have H' := Aside0.mk H; clear H; have hnb62 := NB260_258.out; have hnc62 := NB258_260.out; obtain ⟨hcz63_0, hcz63_1, hcz63_2, hcz63_3, hfz63_0, hfz63_1, hfz63_2, hfz63_3⟩ := zy4 BK260; go_wp2_with (first | (go_at_call 62; (with_reducible refine (impl_Param_single.calls ((rd_T33 l0_0 x10_1).f0) ((rd_T33 l0_0 x10_1).f1) ((rd_T33 l0_0 x10_1).f2) ((rd_T33 l0_0 x10_1).f3) t268 _ A61.out).mono ?_); rintro e w64 ⟨rfl, hb⟩; replace BK258 := zc BK258 hb; replace BK260 := zc BK260 hb; replace HB := zh HB hb; (try clear hb); (try clear hb2); (try clear hk); (try clear hi))); go_meet
                 case rel => exact ⟨_, (!t268), zr, H', ⟨by have := HK1.out; have := HJ6.out; have := HJ35.out; first | omega | exact Nat.le_refl _⟩, ⟨zb BK258⟩, ⟨zb BK260⟩, ⟨zB HB⟩⟩
                ·rw [if_neg c60] at H; have c60b0 : (((rd_T33 l0_0 x10_1).f1) == ((rd_T33 l0_0 (ji51)).f1)) = false := beq_eq_false_iff_ne.mpr c60; have c60b1 : (((rd_T33 l0_0 x10_1).f1) != ((rd_T33 l0_0 (ji51)).f1)) = true := bne_iff_ne.mpr c60; have H' := Aside0.mk H; clear H; have hnb65 := NB260_258.out; have hnc65 := NB258_260.out; obtain ⟨hcz66_0, hcz66_1, hcz66_2, hcz66_3, hfz66_0, hfz66_1, hfz66_2, hfz66_3⟩ := zy4 BK260; go_wp2; go_meet
                 case rel => exact ⟨_, (false), zr, H', ⟨by have := HK1.out; have := HJ6.out; have := HJ35.out; first | omega | exact Nat.le_refl _⟩, ⟨zb BK258⟩, ⟨zb BK260⟩, ⟨zB HB⟩⟩
              case rest =>
               clear HC54; (try clear c1); (try clear q1); (try clear c2); (try clear p2); (try clear q2); (try clear hx2); (try clear c3); (try clear c4); (try clear c4b0); (try clear q4); (try clear c5); (try clear c5b0); (try clear c6); (try clear c6b0); (try clear p6); (try clear c9); (try clear c12); (try clear c14); (try clear c16); (try clear q17); (try clear c18); (try clear c20); (try clear c23); (try clear c23b0); (try clear c23b1); (try clear c24); (try clear p25); (try clear q25); (try clear hx25); (try clear c26); (try clear p26); (try clear q26); (try clear hx26); (try clear c28); (try clear c30); (try clear c32); (try clear c34); (try clear c37); (try clear c40); (try clear c41); (try clear q42); (try clear c43); (try clear c44); (try clear c46); (try clear c48); (try clear c50); (try clear c50b0); (try clear c52); (try clear c52b0); (try clear c53); (try clear c53b0); (try clear c55); (try clear c57); (try clear c57b0); (try clear c58); (try clear c59); (try clear c60); (try clear c60b0); (try clear c60b1); (try clear c62); (try clear c63); (try clear p64); (try clear c65); (try clear hcz10_0); (try clear hcz10_1); (try clear hcz10_2); (try clear hcz10_3); (try clear hcz21_0); (try clear hcz21_1); (try clear hcz21_2); (try clear hcz21_3); (try clear hcz25_0); (try clear hcz25_1); (try clear hcz25_2); (try clear hcz25_3); (try clear hcz27_0); (try clear hcz27_1); (try clear hcz27_2); (try clear hcz27_3); (try clear hcz29_0); (try clear hcz29_1); (try clear hcz29_2); (try clear hcz29_3); (try clear hcz31_0); (try clear hcz31_1); (try clear hcz31_2); (try clear hcz31_3); (try clear hcz33_0); (try clear hcz33_1); (try clear hcz33_2); (try clear hcz33_3); (try clear hcz38_0); (try clear hcz38_1); (try clear hcz38_2); (try clear hcz38_3); (try clear hcz3_0); (try clear hcz45_0); (try clear hcz45_1); (try clear hcz45_2); (try clear hcz45_3); (try clear hcz47_0); (try clear hcz47_1); (try clear hcz47_2); (try clear hcz47_3); (try clear hcz49_0); (try clear hcz49_1); (try clear hcz49_2); (try clear hcz49_3); (try clear hcz56_0); (try clear hcz59_0); (try clear hcz59_1); (try clear hcz59_2); (try clear hcz59_3); (try clear hcz63_0); (try clear hcz63_1); (try clear hcz63_2); (try clear hcz63_3); (try clear hcz66_0); (try clear hcz66_1); (try clear hcz66_2); (try clear hcz66_3); (try clear hfz10_0); (try clear hfz10_1); (try clear hfz10_2); (try clear hfz10_3); (try clear hfz21_0); (try clear hfz21_1); (try clear hfz21_2); (try clear hfz21_3); (try clear hfz25_0); (try clear hfz25_1); (try clear hfz25_2); (try clear hfz25_3); (try clear hfz27_0); (try clear hfz27_1); (try clear hfz27_2); (try clear hfz27_3); (try clear hfz29_0); (try clear hfz29_1); (try clear hfz29_2); (try clear hfz29_3); (try clear hfz31_0); (try clear hfz31_1); (try clear hfz31_2); (try clear hfz31_3); (try clear hfz33_0); (try clear hfz33_1); (try clear hfz33_2); (try clear hfz33_3); (try clear hfz38_0); (try clear hfz38_1); (try clear hfz38_2); (try clear hfz38_3); (try clear hfz3_0); (try clear hfz45_0); (try clear hfz45_1); (try clear hfz45_2); (try clear hfz45_3); (try clear hfz47_0); (try clear hfz47_1); (try clear hfz47_2); (try clear hfz47_3); (try clear hfz49_0); (try clear hfz49_1); (try clear hfz49_2); (try clear hfz49_3); (try clear hfz56_0); (try clear hfz59_0); (try clear hfz59_1); (try clear hfz59_2); (try clear hfz59_3); (try clear hfz63_0); (try clear hfz63_1); (try clear hfz63_2); (try clear hfz63_3); (try clear hfz66_0); (try clear hfz66_1); (try clear hfz66_2); (try clear hfz66_3); (try clear hx259_0); (try clear hx259_1); (try clear hx259_2); (try clear hx259_3); (try clear hx267_0); (try clear hx267_1); (try clear hx267_2); (try clear hx267_3); (try clear p2); (try clear p25); (try clear p259); (try clear p267); (try clear q1); (try clear q17); (try clear q2); (try clear q25); (try clear q259); (try clear q267); (try clear q4); (try clear q42); obtain ⟨kq, x83_53, rfl, HA, HJ53, BK258, BK260, HB⟩ := hcut
               cases kq with
               | zero => exact absurd HA.out (by simp [impl_ValidSignature.j3])
               | succ kj53 =>
                have H := HA.out; clear HA; simp only [impl_ValidSignature.j3] at H
                by_cases c67 : x83_53 = true
                ·subst c67; rw [if_pos rfl] at H; obtain rfl := Option.some.inj H; go_wp2; go_ret; exact ⟨by first | rfl | (simp [errW_none, errW_some] <;> rfl) | (simp only [← hji51]; first | rfl | (simp [errW_none, errW_some] <;> rfl)) | (simp [*, errW_none, errW_some] <;> rfl), zB HB⟩
                ·replace c67 := Bool.eq_false_iff.mpr c67; subst c67; rw [if_neg (show ¬ (false = true) by decide)] at H
                 by_cases c68 : 0 ≤ x10_1
                 ·rw [if_pos c68] at H; have c68b0 := eq_true c68; have c68b1 : decide (0 ≤ x10_1) = true := decide_eq_true c68; clear c68
                  by_cases c69 : x10_1 ≤ (l0_0.length : Int)
                  ·rw [if_pos c69] at H; have c69b0 := eq_true c69; have c69b1 : decide (x10_1 ≤ (l0_0.length : Int)) = true := decide_eq_true c69; clear c69; obtain ⟨y269, hy269⟩ : ∃ y_ : List (S33), y_ = (l0_0.take (x10_1 : Int).toNat) := ⟨_, rfl⟩
                   replace H : ((impl_find.f y269 ((rd_T33 l0_0 x10_1).f0)).bind fun t273 => (if t273 ≥ 0 then (some false) else (impl_ValidSignature.l0 kj53 x3_35 l0_0 (l0_0.length : Int) (wrap64 (x10_1 + 1)) l0_0))) = some r := by first | (rw [hy269]; with_reducible exact H) | (have H2_ := (Option.bind_some _ _).symm.trans H; rw [hy269]; with_reducible exact H2_) | (have H2_ := (Option.bind_some _ _).symm.trans H; with_reducible exact H2_) | with_reducible exact H | (rw [hy269]; exact H) | exact H
                   have Ny269 := Aside0.mk hy269; clear hy269; replace H := Option.bind_eq_some_iff.mp H; obtain ⟨t273, A700, H⟩ := H
                   (try dsimp only at H)
                   have A70 := Aside0.mk A700; clear A700
                   by_cases c71 : t273 ≥ 0
                   ·rw [if_pos c71] at H; have c71b0 : decide (0 ≤ t273) = true := decide_eq_true c71; clear c71; obtain rfl := Option.some.inj H
                    try go_wp2
                    replace BK258 := Aside0.mk (blk_drew BK258.out); replace BK260 := Aside0.mk (blk_drew BK260.out); replace HB := Aside0.mk (below_drew1 HB.out); have q73 : (x10_1 : Int) ≤ ((l0_0.length : Int) : Int) := of_decide_eq_true za; obtain ⟨i073, hi073, _, hsz73, _⟩ := info_parts info33; have hroom73 : l0_0.length ≤ c0_0 := HC0_0.out; have hC73 : Kd.C k33 _ (some ad259) l0_0.length l0_0 := HR0_0.out; have hcut73 := cut_to (P := Try.prog) 23 33 .i64 Try.underlying23 hi073 (some ad259) l0_0.length c0_0 x10_1 (of_decide_eq_true za) q73 hroom73; have hr73 := Kd.C_take (m := (x10_1 : Int).toNat) hC73 (by omega); have hy73 : y269.length = (x10_1 : Int).toNat := (by rw [Ny269.out, List.length_take]; omega)
                    rw [← Ny269.out] at hr73; rw [← hy73] at hcut73; have HR272 := Aside0.mk hr73; have HC272 := Aside0.mk (show y269.length ≤ c0_0 from by omega); clear hr73 hC73 hroom73 hi073 hsz73; have KY73 := Aside0.mk hy73; clear hy73; replace q73 := eq_true q73; refine start_ (n := 8) (S := fun w' => w'.cell? ⟨gb258, 0, none⟩ = some (.slice (some ad259) l0_0.length c0_0) ∧ w'.cell? ⟨gb260, 0, none⟩ = some (.string ((rd_T33 l0_0 x10_1).f0)) ∧ w'.cell? ⟨gb260, 1, none⟩ = some (.int .i64 ((rd_T33 l0_0 x10_1).f1)) ∧ w'.cell? ⟨gb260, 2, none⟩ = some (.bool ((rd_T33 l0_0 x10_1).f2)) ∧ w'.cell? ⟨gb260, 3, none⟩ = some (.int .i64 ((rd_T33 l0_0 x10_1).f3))) (ds := []) #[false, false, false, false, false, false, false, false] (by kernel_rfl) rfl rfl ⟨(blk_cell BK258.out 0).trans rfl, (blk_cell BK260.out 0).trans rfl, (blk_cell BK260.out 1).trans rfl, (blk_cell BK260.out 2).trans rfl, (blk_cell BK260.out 3).trans rfl⟩ (fun hHeld => ?_); refine with_tabW impl_ValidSignature.tab15 impl_ValidSignature.bits15 (fun HT_ HW_ => ?_); generalize wc.drew = w72 at BK258 BK260 HB HR272 hHeld ⊢; refine zu 0 84 #[true, false, false, false, false, false, false, false] (any_of HT_.out (by kernel_rfl)) ?_
                    refine zu 2 86 #[true, false, true, false, false, false, false, false] (any_of HT_.out (by kernel_rfl)) ?_
                    refine zu 4 88 #[true, false, true, false, true, false, false, false] (any_of HT_.out (by kernel_rfl)) ?_
                    refine zT 1 85 #[true, true, true, false, true, false, false, false] (take_ofW HT_.out HW_.out (by kernel_rfl)) hHeld ?_
                    refine zu 3 87 #[true, true, true, true, true, false, false, false] (any_of HT_.out (by kernel_rfl)) ?_
                    refine zT 5 89 #[true, true, true, true, true, true, false, false] (take_ofW HT_.out HW_.out (by kernel_rfl)) hHeld ?_
                    refine one_ (i := 6) (N := some 90) #[true, true, true, true, true, true, true, false] rfl rfl (one_of HT_.out (by kernel_rfl)) (by decide) (fun K hK => ?_); refine goes_ Try.func58 (by kernel_rfl) rfl #[.slice (some ad259) y269.length c0_0, .string ((rd_T33 l0_0 x10_1).f0)] (by rfl) rfl rfl zl ?_; with_reducible refine (impl_find.calls _ _ y269 ((rd_T33 l0_0 x10_1).f0) t273 _ ?side1 ?side2 A70.out).mono ?_
                    (case side1 => exact zC HR272 HB)
                    (case side2 => exact HC272.out)
                    rintro e w74 ⟨rfl, hb⟩; refine ⟨_, rfl, ?_⟩; replace BK258 := zc BK258 hb; replace BK260 := zc BK260 hb; replace HB := zh HB hb; (try clear hb); (try clear hb2); (try clear hk); (try clear hi); refine hK.out _ _ ⟨(blk_cell BK258.out 0).trans rfl, (blk_cell BK260.out 0).trans rfl, (blk_cell BK260.out 1).trans rfl, (blk_cell BK260.out 2).trans rfl, (blk_cell BK260.out 3).trans rfl⟩ (fun hHeld => ?_); clear hK K; refine norm_ (a' := ?_) ?_ ?_; rotate_left
                    ·show Act.put _ (some 90) _ = _
                     simp only [Act.put, List.setIfInBounds_toArray, List.set_cons_zero, List.set_cons_succ, i64_w, i32_w]; rfl
                    refine zu 7 91 #[true, true, true, true, true, true, true, true] (any_of HT_.out (by kernel_rfl)) ?_
                    refine done_ (done_of HT_.out (by kernel_rfl)) ?_
                    try go_wp2
                    go_ret; exact ⟨by first | rfl | (simp [errW_none, errW_some] <;> rfl) | (simp only [← hji51]; first | rfl | (simp [errW_none, errW_some] <;> rfl)) | (simp [*, errW_none, errW_some] <;> rfl), zB HB⟩
                   ·rw [if_neg c71] at H; have c71b0 : decide (0 ≤ t273) = false := decide_eq_false c71; clear c71; have H' := Aside0.mk H; clear H
                    try go_wp2
                    replace BK258 := Aside0.mk (blk_drew BK258.out); replace BK260 := Aside0.mk (blk_drew BK260.out); replace HB := Aside0.mk (below_drew1 HB.out); have q76 : (x10_1 : Int) ≤ ((l0_0.length : Int) : Int) := of_decide_eq_true za; obtain ⟨i076, hi076, _, hsz76, _⟩ := info_parts info33; have hroom76 : l0_0.length ≤ c0_0 := HC0_0.out; have hC76 : Kd.C k33 _ (some ad259) l0_0.length l0_0 := HR0_0.out; have hcut76 := cut_to (P := Try.prog) 23 33 .i64 Try.underlying23 hi076 (some ad259) l0_0.length c0_0 x10_1 (of_decide_eq_true za) q76 hroom76; have hr76 := Kd.C_take (m := (x10_1 : Int).toNat) hC76 (by omega); have hy76 : y269.length = (x10_1 : Int).toNat := (by rw [Ny269.out, List.length_take]; omega)
                    rw [← Ny269.out] at hr76; rw [← hy76] at hcut76; have HR272 := Aside0.mk hr76; have HC272 := Aside0.mk (show y269.length ≤ c0_0 from by omega); clear hr76 hC76 hroom76 hi076 hsz76; have KY76 := Aside0.mk hy76; clear hy76; replace q76 := eq_true q76; refine start_ (n := 8) (S := fun w' => w'.cell? ⟨gb258, 0, none⟩ = some (.slice (some ad259) l0_0.length c0_0) ∧ w'.cell? ⟨gb260, 0, none⟩ = some (.string ((rd_T33 l0_0 x10_1).f0)) ∧ w'.cell? ⟨gb260, 1, none⟩ = some (.int .i64 ((rd_T33 l0_0 x10_1).f1)) ∧ w'.cell? ⟨gb260, 2, none⟩ = some (.bool ((rd_T33 l0_0 x10_1).f2)) ∧ w'.cell? ⟨gb260, 3, none⟩ = some (.int .i64 ((rd_T33 l0_0 x10_1).f3))) (ds := []) #[false, false, false, false, false, false, false, false] (by kernel_rfl) rfl rfl ⟨(blk_cell BK258.out 0).trans rfl, (blk_cell BK260.out 0).trans rfl, (blk_cell BK260.out 1).trans rfl, (blk_cell BK260.out 2).trans rfl, (blk_cell BK260.out 3).trans rfl⟩ (fun hHeld => ?_); refine with_tabW impl_ValidSignature.tab15 impl_ValidSignature.bits15 (fun HT_ HW_ => ?_); generalize wc.drew = w75 at BK258 BK260 HB HR272 hHeld ⊢; refine zu 0 84 #[true, false, false, false, false, false, false, false] (any_of HT_.out (by kernel_rfl)) ?_
                    refine zu 2 86 #[true, false, true, false, false, false, false, false] (any_of HT_.out (by kernel_rfl)) ?_
                    refine zu 4 88 #[true, false, true, false, true, false, false, false] (any_of HT_.out (by kernel_rfl)) ?_
                    refine zT 1 85 #[true, true, true, false, true, false, false, false] (take_ofW HT_.out HW_.out (by kernel_rfl)) hHeld ?_
                    refine zu 3 87 #[true, true, true, true, true, false, false, false] (any_of HT_.out (by kernel_rfl)) ?_
                    refine zT 5 89 #[true, true, true, true, true, true, false, false] (take_ofW HT_.out HW_.out (by kernel_rfl)) hHeld ?_
                    refine one_ (i := 6) (N := some 90) #[true, true, true, true, true, true, true, false] rfl rfl (one_of HT_.out (by kernel_rfl)) (by decide) (fun K hK => ?_); refine goes_ Try.func58 (by kernel_rfl) rfl #[.slice (some ad259) y269.length c0_0, .string ((rd_T33 l0_0 x10_1).f0)] (by rfl) rfl rfl zl ?_; with_reducible refine (impl_find.calls _ _ y269 ((rd_T33 l0_0 x10_1).f0) t273 _ ?side1 ?side2 A70.out).mono ?_
                    (case side1 => exact zC HR272 HB)
                    (case side2 => exact HC272.out)
                    rintro e w77 ⟨rfl, hb⟩; refine ⟨_, rfl, ?_⟩; replace BK258 := zc BK258 hb; replace BK260 := zc BK260 hb; replace HB := zh HB hb; (try clear hb); (try clear hb2); (try clear hk); (try clear hi); refine hK.out _ _ ⟨(blk_cell BK258.out 0).trans rfl, (blk_cell BK260.out 0).trans rfl, (blk_cell BK260.out 1).trans rfl, (blk_cell BK260.out 2).trans rfl, (blk_cell BK260.out 3).trans rfl⟩ (fun hHeld => ?_); clear hK K; refine norm_ (a' := ?_) ?_ ?_; rotate_left
                    ·show Act.put _ (some 90) _ = _
                     simp only [Act.put, List.setIfInBounds_toArray, List.set_cons_zero, List.set_cons_succ, i64_w, i32_w]; rfl
                    refine zu 7 91 #[true, true, true, true, true, true, true, true] (any_of HT_.out (by kernel_rfl)) ?_
                    refine done_ (done_of HT_.out (by kernel_rfl)) ?_
                    try go_wp2
                    go_roundg kj53
                    case measure => have := HK1.out; have := HJ6.out; have := HJ35.out; have := HJ53.out; omega
                    case rel => exact ⟨(x3_35), (wrap64 (x10_1 + 1)), zr, zr, H', ⟨by have := HK1.out; have := HJ6.out; have := HJ35.out; have := HJ53.out; omega⟩, ⟨zb BK258⟩, ⟨zB HB⟩⟩
                  ·rw [if_neg c69] at H; exact absurd H (by simp)
                 ·rw [if_neg c68] at H; exact absurd H (by simp)
             ·rw [if_neg c53] at H; exact absurd H (by simp)
            ·rw [if_neg c52] at H; exact absurd H (by simp)
           ·rw [if_neg c50] at H; have c50b0 : decide (0 < x10_1) = false := decide_eq_false c50; clear c50
            by_cases c78 : 0 ≤ x10_1
            ·rw [if_pos c78] at H; have c78b0 := eq_true c78; have c78b1 : decide (0 ≤ x10_1) = true := decide_eq_true c78; clear c78
             by_cases c79 : x10_1 ≤ (l0_0.length : Int)
             ·rw [if_pos c79] at H; have c79b0 := eq_true c79; have c79b1 : decide (x10_1 ≤ (l0_0.length : Int)) = true := decide_eq_true c79; clear c79; obtain ⟨y274, hy274⟩ : ∃ y_ : List (S33), y_ = (l0_0.take (x10_1 : Int).toNat) := ⟨_, rfl⟩
              replace H : ((impl_find.f y274 ((rd_T33 l0_0 x10_1).f0)).bind fun t278 => (if t278 ≥ 0 then (some false) else (impl_ValidSignature.l0 kj35 x3_35 l0_0 (l0_0.length : Int) (wrap64 (x10_1 + 1)) l0_0))) = some r := by first | (rw [hy274]; with_reducible exact H) | (have H2_ := (Option.bind_some _ _).symm.trans H; rw [hy274]; with_reducible exact H2_) | (have H2_ := (Option.bind_some _ _).symm.trans H; with_reducible exact H2_) | with_reducible exact H | (rw [hy274]; exact H) | exact H
              have Ny274 := Aside0.mk hy274; clear hy274; replace H := Option.bind_eq_some_iff.mp H; obtain ⟨t278, A800, H⟩ := H
              (try dsimp only at H)
              have A80 := Aside0.mk A800; clear A800
              by_cases c81 : t278 ≥ 0
              ·rw [if_pos c81] at H; have c81b0 : decide (0 ≤ t278) = true := decide_eq_true c81; clear c81; obtain rfl := Option.some.inj H
               try go_wp2
               replace BK258 := Aside0.mk (blk_drew BK258.out); replace BK260 := Aside0.mk (blk_drew BK260.out); replace HB := Aside0.mk (below_drew1 HB.out); have q83 : (x10_1 : Int) ≤ ((l0_0.length : Int) : Int) := of_decide_eq_true za; obtain ⟨i083, hi083, _, hsz83, _⟩ := info_parts info33; have hroom83 : l0_0.length ≤ c0_0 := HC0_0.out; have hC83 : Kd.C k33 _ (some ad259) l0_0.length l0_0 := HR0_0.out; have hcut83 := cut_to (P := Try.prog) 23 33 .i64 Try.underlying23 hi083 (some ad259) l0_0.length c0_0 x10_1 (of_decide_eq_true za) q83 hroom83; have hr83 := Kd.C_take (m := (x10_1 : Int).toNat) hC83 (by omega); have hy83 : y274.length = (x10_1 : Int).toNat := (by rw [Ny274.out, List.length_take]; omega)
               rw [← Ny274.out] at hr83; rw [← hy83] at hcut83; have HR277 := Aside0.mk hr83; have HC277 := Aside0.mk (show y274.length ≤ c0_0 from by omega); clear hr83 hC83 hroom83 hi083 hsz83; have KY83 := Aside0.mk hy83; clear hy83; replace q83 := eq_true q83; refine start_ (n := 8) (S := fun w' => w'.cell? ⟨gb258, 0, none⟩ = some (.slice (some ad259) l0_0.length c0_0) ∧ w'.cell? ⟨gb260, 0, none⟩ = some (.string ((rd_T33 l0_0 x10_1).f0)) ∧ w'.cell? ⟨gb260, 1, none⟩ = some (.int .i64 ((rd_T33 l0_0 x10_1).f1)) ∧ w'.cell? ⟨gb260, 2, none⟩ = some (.bool ((rd_T33 l0_0 x10_1).f2)) ∧ w'.cell? ⟨gb260, 3, none⟩ = some (.int .i64 ((rd_T33 l0_0 x10_1).f3))) (ds := []) #[false, false, false, false, false, false, false, false] (by kernel_rfl) rfl rfl ⟨(blk_cell BK258.out 0).trans rfl, (blk_cell BK260.out 0).trans rfl, (blk_cell BK260.out 1).trans rfl, (blk_cell BK260.out 2).trans rfl, (blk_cell BK260.out 3).trans rfl⟩ (fun hHeld => ?_); refine with_tabW impl_ValidSignature.tab15 impl_ValidSignature.bits15 (fun HT_ HW_ => ?_); generalize wc.drew = w82 at BK258 BK260 HB HR277 hHeld ⊢; refine zu 0 84 #[true, false, false, false, false, false, false, false] (any_of HT_.out (by kernel_rfl)) ?_
               refine zu 2 86 #[true, false, true, false, false, false, false, false] (any_of HT_.out (by kernel_rfl)) ?_
               refine zu 4 88 #[true, false, true, false, true, false, false, false] (any_of HT_.out (by kernel_rfl)) ?_
               refine zT 1 85 #[true, true, true, false, true, false, false, false] (take_ofW HT_.out HW_.out (by kernel_rfl)) hHeld ?_
               refine zu 3 87 #[true, true, true, true, true, false, false, false] (any_of HT_.out (by kernel_rfl)) ?_
               refine zT 5 89 #[true, true, true, true, true, true, false, false] (take_ofW HT_.out HW_.out (by kernel_rfl)) hHeld ?_
               refine one_ (i := 6) (N := some 90) #[true, true, true, true, true, true, true, false] rfl rfl (one_of HT_.out (by kernel_rfl)) (by decide) (fun K hK => ?_); refine goes_ Try.func58 (by kernel_rfl) rfl #[.slice (some ad259) y274.length c0_0, .string ((rd_T33 l0_0 x10_1).f0)] (by rfl) rfl rfl zl ?_; with_reducible refine (impl_find.calls _ _ y274 ((rd_T33 l0_0 x10_1).f0) t278 _ ?side1 ?side2 A80.out).mono ?_
               (case side1 => exact zC HR277 HB)
               (case side2 => exact HC277.out)
               rintro e w84 ⟨rfl, hb⟩; refine ⟨_, rfl, ?_⟩; replace BK258 := zc BK258 hb; replace BK260 := zc BK260 hb; replace HB := zh HB hb; (try clear hb); (try clear hb2); (try clear hk); (try clear hi); refine hK.out _ _ ⟨(blk_cell BK258.out 0).trans rfl, (blk_cell BK260.out 0).trans rfl, (blk_cell BK260.out 1).trans rfl, (blk_cell BK260.out 2).trans rfl, (blk_cell BK260.out 3).trans rfl⟩ (fun hHeld => ?_); clear hK K; refine norm_ (a' := ?_) ?_ ?_; rotate_left
               ·show Act.put _ (some 90) _ = _
                simp only [Act.put, List.setIfInBounds_toArray, List.set_cons_zero, List.set_cons_succ, i64_w, i32_w]; rfl
               refine zu 7 91 #[true, true, true, true, true, true, true, true] (any_of HT_.out (by kernel_rfl)) ?_
               refine done_ (done_of HT_.out (by kernel_rfl)) ?_
               try go_wp2
               go_ret; exact ⟨zv, zB HB⟩
              ·rw [if_neg c81] at H; have c81b0 : decide (0 ≤ t278) = false := decide_eq_false c81; clear c81; have H' := Aside0.mk H; clear H
               try go_wp2
               replace BK258 := Aside0.mk (blk_drew BK258.out); replace BK260 := Aside0.mk (blk_drew BK260.out); replace HB := Aside0.mk (below_drew1 HB.out); have q86 : (x10_1 : Int) ≤ ((l0_0.length : Int) : Int) := of_decide_eq_true za; obtain ⟨i086, hi086, _, hsz86, _⟩ := info_parts info33; have hroom86 : l0_0.length ≤ c0_0 := HC0_0.out; have hC86 : Kd.C k33 _ (some ad259) l0_0.length l0_0 := HR0_0.out; have hcut86 := cut_to (P := Try.prog) 23 33 .i64 Try.underlying23 hi086 (some ad259) l0_0.length c0_0 x10_1 (of_decide_eq_true za) q86 hroom86; have hr86 := Kd.C_take (m := (x10_1 : Int).toNat) hC86 (by omega); have hy86 : y274.length = (x10_1 : Int).toNat := (by rw [Ny274.out, List.length_take]; omega)
               rw [← Ny274.out] at hr86; rw [← hy86] at hcut86; have HR277 := Aside0.mk hr86; have HC277 := Aside0.mk (show y274.length ≤ c0_0 from by omega); clear hr86 hC86 hroom86 hi086 hsz86; have KY86 := Aside0.mk hy86; clear hy86; replace q86 := eq_true q86; refine start_ (n := 8) (S := fun w' => w'.cell? ⟨gb258, 0, none⟩ = some (.slice (some ad259) l0_0.length c0_0) ∧ w'.cell? ⟨gb260, 0, none⟩ = some (.string ((rd_T33 l0_0 x10_1).f0)) ∧ w'.cell? ⟨gb260, 1, none⟩ = some (.int .i64 ((rd_T33 l0_0 x10_1).f1)) ∧ w'.cell? ⟨gb260, 2, none⟩ = some (.bool ((rd_T33 l0_0 x10_1).f2)) ∧ w'.cell? ⟨gb260, 3, none⟩ = some (.int .i64 ((rd_T33 l0_0 x10_1).f3))) (ds := []) #[false, false, false, false, false, false, false, false] (by kernel_rfl) rfl rfl ⟨(blk_cell BK258.out 0).trans rfl, (blk_cell BK260.out 0).trans rfl, (blk_cell BK260.out 1).trans rfl, (blk_cell BK260.out 2).trans rfl, (blk_cell BK260.out 3).trans rfl⟩ (fun hHeld => ?_); refine with_tabW impl_ValidSignature.tab15 impl_ValidSignature.bits15 (fun HT_ HW_ => ?_); generalize wc.drew = w85 at BK258 BK260 HB HR277 hHeld ⊢; refine zu 0 84 #[true, false, false, false, false, false, false, false] (any_of HT_.out (by kernel_rfl)) ?_
               refine zu 2 86 #[true, false, true, false, false, false, false, false] (any_of HT_.out (by kernel_rfl)) ?_
               refine zu 4 88 #[true, false, true, false, true, false, false, false] (any_of HT_.out (by kernel_rfl)) ?_
               refine zT 1 85 #[true, true, true, false, true, false, false, false] (take_ofW HT_.out HW_.out (by kernel_rfl)) hHeld ?_
               refine zu 3 87 #[true, true, true, true, true, false, false, false] (any_of HT_.out (by kernel_rfl)) ?_
               refine zT 5 89 #[true, true, true, true, true, true, false, false] (take_ofW HT_.out HW_.out (by kernel_rfl)) hHeld ?_
               refine one_ (i := 6) (N := some 90) #[true, true, true, true, true, true, true, false] rfl rfl (one_of HT_.out (by kernel_rfl)) (by decide) (fun K hK => ?_); refine goes_ Try.func58 (by kernel_rfl) rfl #[.slice (some ad259) y274.length c0_0, .string ((rd_T33 l0_0 x10_1).f0)] (by rfl) rfl rfl zl ?_; with_reducible refine (impl_find.calls _ _ y274 ((rd_T33 l0_0 x10_1).f0) t278 _ ?side1 ?side2 A80.out).mono ?_
               (case side1 => exact zC HR277 HB)
               (case side2 => exact HC277.out)
               rintro e w87 ⟨rfl, hb⟩; refine ⟨_, rfl, ?_⟩; replace BK258 := zc BK258 hb; replace BK260 := zc BK260 hb; replace HB := zh HB hb; (try clear hb); (try clear hb2); (try clear hk); (try clear hi); refine hK.out _ _ ⟨(blk_cell BK258.out 0).trans rfl, (blk_cell BK260.out 0).trans rfl, (blk_cell BK260.out 1).trans rfl, (blk_cell BK260.out 2).trans rfl, (blk_cell BK260.out 3).trans rfl⟩ (fun hHeld => ?_); clear hK K; refine norm_ (a' := ?_) ?_ ?_; rotate_left
               ·show Act.put _ (some 90) _ = _
                simp only [Act.put, List.setIfInBounds_toArray, List.set_cons_zero, List.set_cons_succ, i64_w, i32_w]; rfl
               refine zu 7 91 #[true, true, true, true, true, true, true, true] (any_of HT_.out (by kernel_rfl)) ?_
               refine done_ (done_of HT_.out (by kernel_rfl)) ?_
               try go_wp2
               go_roundg kj35
               case measure => have := HK1.out; have := HJ6.out; have := HJ35.out; omega
               case rel => exact ⟨(x3_35), (wrap64 (x10_1 + 1)), zr, zr, H', ⟨by have := HK1.out; have := HJ6.out; have := HJ35.out; omega⟩, ⟨zb BK258⟩, ⟨zB HB⟩⟩
             ·rw [if_neg c79] at H; exact absurd H (by simp)
            ·rw [if_neg c78] at H; exact absurd H (by simp)
     ·rw [if_neg c6] at H; exact absurd H (by simp)
    ·rw [if_neg c5] at H; exact absurd H (by simp)
   ·rw [if_neg c4] at H; have c4b0 : decide (x10_1 < (l0_0.length : Int)) = false := decide_eq_false c4; clear c4; obtain rfl := Option.some.inj H; obtain ⟨hcz88_0, hfz88_0⟩ := zy1 BK258; go_wp2; go_ret; exact ⟨zv, zB HB⟩

end Go.Proofs.Ytlpmggokgcphiaa.Q

namespace Go.Proofs.Ytlpmggokgcphiaa.Q
open Go.RowKit Go.Proofs.YtlpmggokgcphiaaL.PrintWords Go.Proofs.YtlpmggokgcphiaaL.PrintLast Go.Proofs.YtlpmggokgcphiaaL.PrintMore
attribute [local go_sem] max2_int min2_int max_two min_two max_three min_three max_four min_four   -- for this text's walks alone
set_option linter.unusedVariables false
set_option linter.unusedSimpArgs false

/-! ### slices.IndexFunc at impl.Pair: function 132 -/
set_option maxHeartbeats 8000000 in
set_option maxRecDepth 100000 in
theorem ix132.calls (p : S130 → Bool) (g : Nat) (lb : Array Value) (eg : ∀ args w, (callFunc g args).run Try.prog w = .ok (.enter g args) w) (A0 : Option Addr) (c0 : Nat) (l0 : List (S130)) (w : World)
  (hp : PxPred Try.prog g lb (fun x : S130 => .agg #[.string x.f0, .int .i64 x.f1]) p w) (hr0 : Kd.C k130 w A0 l0.length l0) :
  Calls Try.prog 132 #[.slice A0 l0.length c0, .func (.func g) #[] lb] w fun e w' => e = .returned (.int .i64 (pxIdx p l0)) ∧ Below w.heap.size w w' := by
 have HR := Aside0.mk hr0; clear hr0; have hbig : l0.length ≤ 9223372036854775807 := HR.out.2.1; have hu130 := Try.underlying130; go_enter Try.func132, Try.ntmps132; go_wp2; go_loopg [5, 8] l0.length (fun gg _ s8 wr => ∃ kk : Nat, kk ≤ l0.length ∧ l0.length - kk ≤ gg ∧ s8 = .int .i64 kk ∧ Aside0 (Below w.heap.size w wr) ∧ Aside0 (∀ j, j < kk → p (l0.getD j z130) = false))
 case atStart => exact ⟨0, Nat.zero_le _, by omega, rfl, ⟨Below.refl _ w⟩, ⟨fun j hj => absurd hj (Nat.not_lt_zero _)⟩⟩
 case round =>
  obtain ⟨kk, hkk, hg, rfl, BW, A⟩ := hrel
  by_cases hlt : kk < l0.length
  ·have hltz : (kk : Int) < (l0.length : Int) := by omega
   have hz0 : (0 : Int) ≤ (kk : Int) := by omega
   obtain ⟨ad, e, hx0, hx1⟩ := at_T130 (Kd.C_below HR.out BW.out) (kk : Int) hz0 hltz; simp only [Int.toNat_natCast] at hx0 hx1
   cases e
   have hcall := hp wr (rd_T130 l0 (kk : Int)) BW.out; clear hp; have B := Aside0.mk (show rd_T130 l0 (kk : Int) = l0.getD kk z130 from rfl); generalize hy : rd_T130 l0 (kk : Int) = y at hx0 hx1 hcall B; clear hy
   cases hq : p y with
   | true =>
    rw [hq] at hcall; go_wp2_with fail; refine hcall.mono ?_; rintro e w' ⟨rfl, hb'⟩; clear hcall; go_wp2; go_ret; refine ⟨?_, below_then BW.out BW.out.size hb'⟩; rw [pxIdx_hit p l0 z130 kk hlt (by rw [← B.out]; exact hq) A.out]; rfl
   | false =>
    rw [hq] at hcall; go_wp2_with fail; refine hcall.mono ?_; rintro e w' ⟨rfl, hb'⟩; clear hcall; go_wp2; go_roundg (l0.length - (kk + 1))
    case measure => omega
    case rel =>
     refine ⟨kk + 1, by omega, by omega, by go_num, ⟨below_then BW.out BW.out.size hb'⟩, ⟨fun j hj => ?_⟩⟩
     by_cases e : j = kk
     ·subst e; rw [← B.out]; exact hq
     ·exact A.out j (by omega)
  ·have hltz : ¬ (kk : Int) < (l0.length : Int) := by omega
   have : kk = l0.length := by omega
   subst this; go_wp2; go_ret; refine ⟨?_, BW.out⟩; rw [pxIdx_miss p l0 z130 A.out]; rfl
set_option maxHeartbeats 8000000 in
set_option maxRecDepth 100000 in
theorem impl_pairAt.pred133 (a1 : ByteArray) (B : Nat) (w : World) (hc : w.cell? ⟨B, 0, none⟩ = some (.string a1)) :
  PxPred Try.prog 133 #[.pointer (some ⟨B, 0, none⟩)] (fun x : S130 => .agg #[.string x.f0, .int .i64 x.f1]) (fun x : S130 => x.f0.toList == a1.toList) w := by
 intro W x hb; have hc' := px_cell hb hc; have hB' : B < W.heap.size := World.block_lt_of_cell? W _ hc'; clear hc
 show Calls Try.prog 133 #[.agg #[.string x.f0, .int .i64 x.f1], .pointer (some ⟨B, 0, none⟩)] W _
 have hu130 := Try.underlying130; go_enter Try.func133, Try.ntmps133; go_wp2; go_ret; exact ⟨rfl, px_alloc _ _⟩
/-! ### impl_pairAt: function 123 (a contract of our own) -/
def impl_pairAt.f (l0 : List (S130)) (a1 : ByteArray) : Option (Int) := some (pxIdx (fun x : S130 => x.f0.toList == a1.toList) l0)
set_option maxHeartbeats 8000000 in
set_option maxRecDepth 100000 in
theorem impl_pairAt.calls (A0 : Option Addr) (c0 : Nat) (l0 : List (S130)) (a1 : ByteArray) (r : Int) (w : World) (hr0 : Kd.C k130 w A0 l0.length l0) (hc0 : l0.length ≤ c0) (h : impl_pairAt.f l0 a1 = some r) :
  Calls Try.prog 123 #[.slice A0 l0.length c0, .string a1] w fun e w' => e = .returned (.int .i64 r) ∧ Below w.heap.size w w' := by
 have HR := Aside0.mk hr0; clear hr0; obtain rfl := Option.some.inj h; clear h; have eg := px_enters Try.func133 (by kernel_rfl) rfl; go_enter Try.func123, Try.ntmps123; go_wp2_with fail; refine (ix132.calls (fun x : S130 => x.f0.toList == a1.toList) 133 _ eg A0 c0 l0 _ (impl_pairAt.pred133 a1 w.heap.size _ ?_) ?_).mono ?_
 ·go_simp
 ·exact Kd.C_below HR.out (px_alloc _ _)
 rintro e w' ⟨rfl, hb'⟩; go_wp2; go_ret; exact ⟨rfl, below_then (px_alloc _ _) (by simp) hb'⟩

/-! ### impl_Pair_valid: function 124 -/
def impl_Pair_valid.f (k : Nat) (a0_0 : ByteArray) (a0_1 : Int) : Option (Bool) := (impl_isName.f k a0_0).bind fun t1107 => (if t1107 = true then ((impl_isValue.f a0_1).bind fun t1108 => (some t1108)) else (some false))
theorem impl_Pair_valid.mono : ∀ a0 a1 k, LeO (impl_Pair_valid.f k a0 a1) (impl_Pair_valid.f (k + 1) a0 a1) := by
 intro a0 a1 k; unfold impl_Pair_valid.f
 repeat' first
   | (with_reducible exact impl_isName.mono _ _)
   | (with_reducible exact LeO.refl _)
   | (with_reducible exact LeO.none _)
   | (with_reducible refine LeO.ite ?_ ?_)
   | (with_reducible refine LeO.bind ?_ (fun _ => ?_))
   | exact impl_isName.mono _ _
   | exact LeO.none _
   | refine LeO.ite ?_ ?_
   | refine LeO.bind ?_ (fun _ => ?_)
set_option maxHeartbeats 8000000 in
set_option maxRecDepth 100000 in
theorem impl_Pair_valid.calls (k : Nat) (a0_0 : ByteArray) (a0_1 : Int) (r : Bool) (w : World) (h : impl_Pair_valid.f k a0_0 a0_1 = some r) :
  Calls Try.prog 124 #[.agg #[.string a0_0, .int .i64 a0_1]] w fun e w' => e = .returned (.bool r) ∧ Below w.heap.size w w' := by
 have hu130 := Try.underlying130; have HB := Aside0.mk (Below.refl w.heap.size w); have H : ((impl_isName.f k a0_0).bind fun t1107 => (if t1107 = true then ((impl_isValue.f a0_1).bind fun t1108 => (some t1108)) else (some false))) = some r := h; clear h; replace H := Option.bind_eq_some_iff.mp H; obtain ⟨t1107, A20, H⟩ := H
 (try dsimp only at H)
 have A2 := Aside0.mk A20; clear A20
 by_cases c3 : t1107 = true
 ·subst c3; rw [if_pos rfl] at H; replace H := Option.bind_eq_some_iff.mp H; obtain ⟨t1108, A40, H⟩ := H
  (try dsimp only at H)
  have A4 := Aside0.mk A40; clear A40; obtain rfl := Option.some.inj H; go_enter Try.func124, Try.ntmps124; go_wp2_with (first | ((with_reducible refine gate_dst (N := 1) rfl ?_); refine zx (N := 1) (cs := #[.string a0_0, .int .i64 a0_1]) (t := 130) ?_; intro gb1106 hg w5 hbox hb; have BK1106 := Aside0.mk (hbox); have GW1106 := zg HB hg; have GE1106 := GW1106; replace HB := zh HB hb; clear hb hbox hg; obtain ⟨hcz6_0, hcz6_1, hfz6_0, hfz6_1⟩ := zy2 BK1106) | ((with_reducible refine gate_callee (f := 59) rfl ?_); refine goesL_ (some 5) rfl rfl Try.func59 (by kernel_rfl) rfl #[.string a0_0] rfl zl ?_; (with_reducible refine (impl_isName.calls k a0_0 true _ A2.out).mono ?_); rintro e w' ⟨rfl, ⟨nd, rfl⟩⟩; refine ⟨_, rfl, ?_⟩) | (go_at_call 61; (with_reducible refine (impl_isValue.calls a0_1 t1108 _ A4.out).mono ?_); rintro e w' ⟨rfl, ⟨nd, rfl⟩⟩)); go_ret; exact ⟨zv, zB HB⟩
 ·replace c3 := Bool.eq_false_iff.mpr c3; subst c3; rw [if_neg (show ¬ (false = true) by decide)] at H; obtain rfl := Option.some.inj H; go_enter Try.func124, Try.ntmps124; go_wp2_with (first | ((with_reducible refine gate_dst (N := 1) rfl ?_); refine zx (N := 1) (cs := #[.string a0_0, .int .i64 a0_1]) (t := 130) ?_; intro gb1106 hg w7 hbox hb; have BK1106 := Aside0.mk (hbox); have GW1106 := zg HB hg; have GE1106 := GW1106; replace HB := zh HB hb; clear hb hbox hg; obtain ⟨hcz8_0, hcz8_1, hfz8_0, hfz8_1⟩ := zy2 BK1106) | ((with_reducible refine gate_callee (f := 59) rfl ?_); refine goesL_ (some 5) rfl rfl Try.func59 (by kernel_rfl) rfl #[.string a0_0] rfl zl ?_; (with_reducible refine (impl_isName.calls k a0_0 false _ A2.out).mono ?_); rintro e w' ⟨rfl, ⟨nd, rfl⟩⟩; refine ⟨_, rfl, ?_⟩)); go_ret; exact ⟨zv, zB HB⟩

end Go.Proofs.Ytlpmggokgcphiaa.Q

namespace Go.Proofs.Ytlpmggokgcphiaa.Q
open Go.RowKit Go.Proofs.YtlpmggokgcphiaaL.PrintWords Go.Proofs.YtlpmggokgcphiaaL.PrintLast Go.Proofs.YtlpmggokgcphiaaL.PrintMore
attribute [local go_sem] max2_int min2_int max_two min_two max_three min_three max_four min_four   -- for this text's walks alone
set_option linter.unusedVariables false
set_option linter.unusedSimpArgs false

/-! ### slices.IndexFunc at int: function 138 -/
set_option maxHeartbeats 8000000 in
set_option maxRecDepth 100000 in
theorem ix138.calls (p : Int → Bool) (g : Nat) (lb : Array Value) (eg : ∀ args w, (callFunc g args).run Try.prog w = .ok (.enter g args) w) (A0 : Option Addr) (c0 : Nat) (l0 : List (Int)) (w : World)
  (hp : PxPred Try.prog g lb (fun x : Int => .int .i64 x) p w) (hr0 : Kd.C (Kd.int .i64) w A0 l0.length l0) :
  Calls Try.prog 138 #[.slice A0 l0.length c0, .func (.func g) #[] lb] w fun e w' => e = .returned (.int .i64 (pxIdx p l0)) ∧ Below w.heap.size w w' := by
 have HR := Aside0.mk hr0; clear hr0; have hbig : l0.length ≤ 9223372036854775807 := HR.out.2.1; go_enter Try.func138, Try.ntmps138; go_wp2; go_loopg [5, 8] l0.length (fun gg _ s8 wr => ∃ kk : Nat, kk ≤ l0.length ∧ l0.length - kk ≤ gg ∧ s8 = .int .i64 kk ∧ Aside0 (Below w.heap.size w wr) ∧ Aside0 (∀ j, j < kk → p (l0.getD j 0) = false))
 case atStart => exact ⟨0, Nat.zero_le _, by omega, rfl, ⟨Below.refl _ w⟩, ⟨fun j hj => absurd hj (Nat.not_lt_zero _)⟩⟩
 case round =>
  obtain ⟨kk, hkk, hg, rfl, BW, A⟩ := hrel
  by_cases hlt : kk < l0.length
  ·have hltz : (kk : Int) < (l0.length : Int) := by omega
   have hz0 : (0 : Int) ≤ (kk : Int) := by omega
   obtain ⟨ad, e, hx0⟩ := Kd.at_int (Kd.C_below HR.out BW.out) (kk : Int) hz0 hltz; simp only [Int.toNat_natCast] at hx0
   cases e
   have hcall := hp wr (rd l0 (kk : Int)) BW.out; clear hp; have B := Aside0.mk (show rd l0 (kk : Int) = l0.getD kk 0 from rfl); generalize hy : rd l0 (kk : Int) = y at hx0 hcall B; clear hy
   cases hq : p y with
   | true =>
    rw [hq] at hcall; go_wp2_with fail; refine hcall.mono ?_; rintro e w' ⟨rfl, hb'⟩; clear hcall; go_wp2; go_ret; refine ⟨?_, below_then BW.out BW.out.size hb'⟩; rw [pxIdx_hit p l0 0 kk hlt (by rw [← B.out]; exact hq) A.out]; rfl
   | false =>
    rw [hq] at hcall; go_wp2_with fail; refine hcall.mono ?_; rintro e w' ⟨rfl, hb'⟩; clear hcall; go_wp2; go_roundg (l0.length - (kk + 1))
    case measure => omega
    case rel =>
     refine ⟨kk + 1, by omega, by omega, by go_num, ⟨below_then BW.out BW.out.size hb'⟩, ⟨fun j hj => ?_⟩⟩
     by_cases e : j = kk
     ·subst e; rw [← B.out]; exact hq
     ·exact A.out j (by omega)
  ·have hltz : ¬ (kk : Int) < (l0.length : Int) := by omega
   have : kk = l0.length := by omega
   subst this; go_wp2; go_ret; refine ⟨?_, BW.out⟩; rw [pxIdx_miss p l0 0 A.out]; rfl
/-! ### slices.ContainsFunc at int: function 134 -/
set_option maxHeartbeats 8000000 in
set_option maxRecDepth 100000 in
theorem cf134.calls (p : Int → Bool) (g : Nat) (lb : Array Value) (eg : ∀ args w, (callFunc g args).run Try.prog w = .ok (.enter g args) w) (A0 : Option Addr) (c0 : Nat) (l0 : List (Int)) (w : World)
  (hp : PxPred Try.prog g lb (fun x : Int => .int .i64 x) p w) (hr0 : Kd.C (Kd.int .i64) w A0 l0.length l0) :
  Calls Try.prog 134 #[.slice A0 l0.length c0, .func (.func g) #[] lb] w fun e w' => e = .returned (.bool (l0.any p)) ∧ Below w.heap.size w w' := by
 rw [← pxIdx_any p l0]; go_enter Try.func134, Try.ntmps134; go_wp2_with fail; refine (ix138.calls p g lb eg A0 c0 l0 w hp hr0).mono ?_; rintro e w' ⟨rfl, hb'⟩; clear hp hr0; go_wp2; go_ret; exact ⟨by first | rfl | simp, hb'⟩
theorem impl_isValue.eq (x : Int) : impl_isValue.f x = some (decide (-99 ≤ x) && decide (x ≤ 99)) := by
 unfold impl_isValue.f impl_in.f
 by_cases h : x ≥ -99
 ·have h' : -99 ≤ x := h; simp [h, h']
 ·have h' : ¬ -99 ≤ x := h; simp [h, h']
set_option maxHeartbeats 8000000 in
set_option maxRecDepth 100000 in
theorem impl_areValues.pred135 (w : World) :
  PxPred Try.prog 135 #[] (fun x : Int => .int .i64 x) (fun x : Int => !(decide (-99 ≤ x) && decide (x ≤ 99))) w := by
 intro W x hb
 show Calls Try.prog 135 #[.int .i64 x] W _
 have HV := Aside0.mk (impl_isValue.eq x)
 cases hq : (decide (-99 ≤ x) && decide (x ≤ 99)) <;> (
  have HQ := Aside0.mk hq; clear hq; go_enter Try.func135, Try.ntmps135; go_wp2_with fail; refine (impl_isValue.calls _ _ _ HV.out).mono ?_; rintro e w' ⟨rfl, hd⟩; have hb := hd.below; clear hd; rw [HQ.out]; go_wp2; go_ret
  exact ⟨by first | rfl | (rw [HQ.out]; rfl), hb⟩)
/-! ### impl_areValues: function 125 (a contract of our own) -/
def impl_areValues.f (l0 : List Int) : Option (Bool) := some (!l0.any (fun x : Int => !(decide (-99 ≤ x) && decide (x ≤ 99))))
set_option maxHeartbeats 8000000 in
set_option maxRecDepth 100000 in
theorem impl_areValues.calls (A0 : Option Addr) (c0 : Nat) (l0 : List Int) (r : Bool) (w : World) (hr0 : Kd.C (Kd.int .i64) w A0 l0.length l0) (hc0 : l0.length ≤ c0) (h : impl_areValues.f l0 = some r) :
  Calls Try.prog 125 #[.slice A0 l0.length c0] w fun e w' => e = .returned (.bool r) ∧ Below w.heap.size w w' := by
 have HR := Aside0.mk hr0; clear hr0; obtain rfl := Option.some.inj h; clear h; have eg := px_enters Try.func135 (by kernel_rfl) rfl
 cases hq : l0.any (fun x : Int => !(decide (-99 ≤ x) && decide (x ≤ 99))) <;> (
  have HQ := Aside0.mk hq; clear hq; go_enter Try.func125, Try.ntmps125; go_wp2_with fail; refine (cf134.calls (fun x : Int => !(decide (-99 ≤ x) && decide (x ≤ 99))) 135 _ eg A0 c0 l0 _ (impl_areValues.pred135 _) HR.out).mono ?_; rintro e w' ⟨rfl, hb'⟩; rw [HQ.out]; go_wp2; go_ret
  exact ⟨rfl, hb'⟩)

end Go.Proofs.Ytlpmggokgcphiaa.Q

namespace Go.Proofs.Ytlpmggokgcphiaa.Q
open Go.RowKit Go.Proofs.YtlpmggokgcphiaaL.PrintWords Go.Proofs.YtlpmggokgcphiaaL.PrintLast Go.Proofs.YtlpmggokgcphiaaL.PrintMore
attribute [local go_sem] max2_int min2_int max_two min_two max_three min_three max_four min_four   -- for this text's walks alone
set_option linter.unusedVariables false
set_option linter.unusedSimpArgs false

/-! ### impl_ValidFlat: function 99 -/
def impl_ValidFlat.l0 : Nat → List (S130) → Int → Int → List Int → List (S130) → Option (Bool)
 | 0, _, _, _, _, _ => none
 | k + 1, x6, x7, x8, x1110000, x1110001 => if x8 < x7 then (if 0 ≤ x8 then (if x8 < (x6.length : Int) then ((impl_Pair_valid.f k ((rd_T130 x6 x8).f0) ((rd_T130 x6 x8).f1)).bind fun t1113 => (if t1113 = true then (if x8 ≤ (x1110001.length : Int) then ((impl_pairAt.f (x1110001.take (x8 : Int).toNat) ((rd_T130 x6 x8).f0)).bind fun t1118 => (if t1118 ≥ 0 then (some false) else (impl_ValidFlat.l0 k x6 x7 (wrap64 (x8 + 1)) x1110000 x1110001))) else (none)) else (some false))) else (none)) else (none)) else (if (x1110000.length : Int) ≤ 8 then (if (x1110001.length : Int) ≤ 8 then ((impl_areValues.f x1110000).bind fun t1110 => (some t1110)) else (some false)) else (some false))
def impl_ValidFlat.f (k : Nat) (l0_0 : List Int) (l0_1 : List (S130)) : Option (Bool) := impl_ValidFlat.l0 k l0_1 (l0_1.length : Int) 0 l0_0 l0_1
theorem impl_ValidFlat.mono_l : ∀ k, (∀ y0 y1 y2 y3 y4, LeO (impl_ValidFlat.l0 k y0 y1 y2 y3 y4) (impl_ValidFlat.l0 (k + 1) y0 y1 y2 y3 y4))
 | 0 => fun _ _ _ _ _ r h => by simp [impl_ValidFlat.l0] at h
 | k + 1 => by
  have ih0 := impl_ValidFlat.mono_l k
  ·intro y0 y1 y2 y3 y4; unfold impl_ValidFlat.l0
   repeat' first
   | (with_reducible exact ih0 _ _ _ _ _)
   | (with_reducible exact impl_Pair_valid.mono _ _ _)
   | (with_reducible exact LeO.refl _)
   | (with_reducible exact LeO.none _)
   | (with_reducible refine LeO.ite ?_ ?_)
   | (with_reducible refine LeO.bind ?_ (fun _ => ?_))
   | exact ih0 _ _ _ _ _
   | exact impl_Pair_valid.mono _ _ _
   | exact LeO.none _
   | refine LeO.ite ?_ ?_
   | refine LeO.bind ?_ (fun _ => ?_)
theorem impl_ValidFlat.mono : ∀ a0 a1 k, LeO (impl_ValidFlat.f k a0 a1) (impl_ValidFlat.f (k + 1) a0 a1) := by
 intro a0 a1 k; have ih0 := impl_ValidFlat.mono_l k; unfold impl_ValidFlat.f
 repeat' first
   | (with_reducible exact ih0 _ _ _ _ _)
   | (with_reducible exact impl_Pair_valid.mono _ _ _)
   | (with_reducible exact LeO.refl _)
   | (with_reducible exact LeO.none _)
   | (with_reducible refine LeO.ite ?_ ?_)
   | (with_reducible refine LeO.bind ?_ (fun _ => ?_))
   | exact ih0 _ _ _ _ _
   | exact impl_Pair_valid.mono _ _ _
   | exact LeO.none _
   | refine LeO.ite ?_ ?_
   | refine LeO.bind ?_ (fun _ => ?_)
def impl_ValidFlat.T4 : Bool × List (List Nat × List Nat) := (true, [([], []), ([0], [0]), ([1], [1]), ([2, 1], [2]), ([3], [3]), ([4, 3], [3, 4]), ([3], [3]), ([5, 6, 3], [3, 5, 6]), ([3], [3]), ([8, 3], [3, 8]), ([7, 9, 3, 3], [3, 7, 9]), ([10, 3], [3, 10]), ([3, 11], [3, 11])])
def impl_ValidFlat.B4 : List Nat := [0, 1, 3, 7, 15, 31, 15, 127, 15, 271, 1023, 2047, 4095]
theorem impl_ValidFlat.tab4 : rtab .any (opsOf Try.f99 4) = impl_ValidFlat.T4 := by kernel_rfl
theorem impl_ValidFlat.bits4 : waitsOk impl_ValidFlat.T4.2 impl_ValidFlat.B4 = true := by kernel_rfl
set_option maxHeartbeats 8000000 in
set_option maxRecDepth 100000 in
theorem impl_ValidFlat.calls (k : Nat) (A0_0 : Option Addr) (c0_0 : Nat) (l0_0 : List Int) (A0_1 : Option Addr) (c0_1 : Nat) (l0_1 : List (S130)) (r : Bool) (w : World) (hr0_0 : Kd.C (Kd.int .i64) w A0_0 l0_0.length l0_0) (hc0_0 : l0_0.length ≤ c0_0) (hr0_1 : Kd.C k130 w A0_1 l0_1.length l0_1) (hc0_1 : l0_1.length ≤ c0_1) (h : impl_ValidFlat.f k l0_0 l0_1 = some r) :
  Calls Try.prog 99 #[.agg #[.slice A0_0 l0_0.length c0_0, .slice A0_1 l0_1.length c0_1]] w fun e w' => e = .returned (.bool r) ∧ Below w.heap.size w w' := by
 have hu70 := Try.underlying70; have hu130 := Try.underlying130; have HR0_0 := Aside0.mk hr0_0; have HC0_0 := Aside0.mk hc0_0; clear hr0_0 hc0_0; have HR0_1 := Aside0.mk hr0_1; have HC0_1 := Aside0.mk hc0_1; clear hr0_1 hc0_1; have HB := Aside0.mk (Below.refl w.heap.size w); have H : (impl_ValidFlat.l0 k l0_1 (l0_1.length : Int) 0 l0_0 l0_1) = some r := h; clear h; have H' := Aside0.mk H; clear H; go_enter Try.func99, Try.ntmps99; go_wp2_with (first | ((with_reducible refine gate_dst (N := 1) rfl ?_); refine zx (N := 1) (cs := #[.slice A0_0 l0_0.length c0_0, .slice A0_1 l0_1.length c0_1]) (t := 70) ?_; intro gb1109 hg w2 hbox hb; have BK1109 := Aside0.mk (hbox); have GW1109 := zg HB hg; have GE1109 := GW1109; replace HB := zh HB hb; clear hb hbox hg; obtain ⟨hcz3_0, hcz3_1, hfz3_0, hfz3_1⟩ := zy2 BK1109)); go_loopg [8] k (fun kq v8 w' => ∃ (x8_1 : Int), v8 = .int .i64 x8_1 ∧ Aside0 (impl_ValidFlat.l0 kq l0_1 (l0_1.length : Int) x8_1 l0_0 l0_1 = some r) ∧ Aside0 (kq ≤ k) ∧ Aside0 (w'.heap[gb1109]? = some (.cells #[(.slice A0_0 l0_0.length c0_0), (.slice A0_1 l0_1.length c0_1)] 70 (0, 0))) ∧ Aside0 (Below w.heap.size w w'))
 case atStart => exact ⟨(0), zr, H', ⟨Nat.le_refl _⟩, ⟨zb BK1109⟩, ⟨zB HB⟩⟩
 case round =>
  clear H'; (try clear p2); (try clear hcz3_0); (try clear hcz3_1); (try clear hfz3_0); (try clear hfz3_1); obtain ⟨x8_1, rfl, HA, HK1, BK1109, HB⟩ := hrel
  cases gk with
  | zero => exact absurd HA.out (by simp [impl_ValidFlat.l0])
  | succ k1 =>
   have H := HA.out; clear HA; simp only [impl_ValidFlat.l0] at H
   by_cases c4 : x8_1 < (l0_1.length : Int)
   ·rw [if_pos c4] at H; have c4b0 : decide (x8_1 < (l0_1.length : Int)) = true := decide_eq_true c4; clear c4
    by_cases c5 : 0 ≤ x8_1
    ·rw [if_pos c5] at H; have c5b0 : decide (0 ≤ x8_1) = true := decide_eq_true c5; clear c5
     by_cases c6 : x8_1 < (l0_1.length : Int)
     ·rw [if_pos c6] at H; have c6b0 : decide (x8_1 < (l0_1.length : Int)) = true := decide_eq_true c6; clear c6; replace H := Option.bind_eq_some_iff.mp H; obtain ⟨t1113, A70, H⟩ := H
      (try dsimp only at H)
      have A7 := Aside0.mk A70; clear A70
      by_cases c8 : t1113 = true
      ·subst c8; rw [if_pos rfl] at H; have c9b0 := eq_true (of_decide_eq_true za : 0 ≤ x8_1)
       by_cases c10 : x8_1 ≤ (l0_1.length : Int)
       ·rw [if_pos c10] at H; have c10b0 := eq_true c10; have c10b1 : decide (x8_1 ≤ (l0_1.length : Int)) = true := decide_eq_true c10; clear c10; obtain ⟨y1114, hy1114⟩ : ∃ y_ : List (S130), y_ = (l0_1.take (x8_1 : Int).toNat) := ⟨_, rfl⟩
        replace H : ((impl_pairAt.f y1114 ((rd_T130 l0_1 x8_1).f0)).bind fun t1118 => (if t1118 ≥ 0 then (some false) else (impl_ValidFlat.l0 k1 l0_1 (l0_1.length : Int) (wrap64 (x8_1 + 1)) l0_0 l0_1))) = some r := by first | (rw [hy1114]; with_reducible exact H) | (have H2_ := (Option.bind_some _ _).symm.trans H; rw [hy1114]; with_reducible exact H2_) | (have H2_ := (Option.bind_some _ _).symm.trans H; with_reducible exact H2_) | with_reducible exact H | (rw [hy1114]; exact H) | exact H
        have Ny1114 := Aside0.mk hy1114; clear hy1114; replace H := Option.bind_eq_some_iff.mp H; obtain ⟨t1118, A110, H⟩ := H
        (try dsimp only at H)
        have A11 := Aside0.mk A110; clear A110
        by_cases c12 : t1118 ≥ 0
        ·rw [if_pos c12] at H; have c12b0 : decide (0 ≤ t1118) = true := decide_eq_true c12; clear c12; obtain rfl := Option.some.inj H; have p1111 : 0 ≤ (x8_1 : Int) := of_decide_eq_true za; have q1111 : x8_1 < (l0_1.length : Int) := of_decide_eq_true za; obtain ⟨ad1111, e1111, hx1111_0, hx1111_1⟩ := at_T130 HR0_1.out x8_1 p1111 q1111
         cases e1111
         replace hx1111_0 := zt HB hx1111_0; replace hx1111_1 := zt HB hx1111_1; replace p1111 := eq_true p1111; replace q1111 := eq_true q1111
         try go_wp2_with (first | ((with_reducible refine gate_dst (N := 4) rfl ?_); refine zx (N := 4) (cs := #[.string (⟨#[]⟩ : ByteArray), .int .i64 0]) (t := 130) ?_; intro gb1112 hg w13 hbox hb; have BK1112 := Aside0.mk (hbox); have GW1112 := zg HB hg; have GE1112 := GW1112; replace HB := zh HB hb; obtain ⟨NB1109_1112, NB1112_1109⟩ := ze BK1109 hg; replace BK1109 := zc BK1109 hb; clear hb hbox hg; have hnb14 := NB1112_1109.out; have hnc14 := NB1109_1112.out; obtain ⟨hcz15_0, hcz15_1, hfz15_0, hfz15_1⟩ := zy2 BK1112))
         have n0_ : Aside0 (((w13.setCell ⟨gb1112, 0, none⟩ (.string ((rd_T130 l0_1 x8_1).f0))).setCell ⟨gb1112, 1, none⟩ (.int .i64 ((rd_T130 l0_1 x8_1).f1))).heap[gb1109]? = some (.cells #[.slice A0_0 l0_0.length c0_0, .slice (some ad1111) l0_1.length c0_1] 70 (0, 0))) := ⟨zf BK1109⟩
         have n1_ : Aside0 (((w13.setCell ⟨gb1112, 0, none⟩ (.string ((rd_T130 l0_1 x8_1).f0))).setCell ⟨gb1112, 1, none⟩ (.int .i64 ((rd_T130 l0_1 x8_1).f1))).heap[gb1112]? = some (.cells #[.string ((rd_T130 l0_1 x8_1).f0), .int .i64 ((rd_T130 l0_1 x8_1).f1)] 130 (0, 0))) := ⟨zbp BK1112⟩
         have n2_ : Aside0 (Below w.heap.size w ((w13.setCell ⟨gb1112, 0, none⟩ (.string ((rd_T130 l0_1 x8_1).f0))).setCell ⟨gb1112, 1, none⟩ (.int .i64 ((rd_T130 l0_1 x8_1).f1)))) := ⟨zB HB⟩
         (try clear BK1109); (try clear BK1112); (try clear HB); generalize ((w13.setCell ⟨gb1112, 0, none⟩ (.string ((rd_T130 l0_1 x8_1).f0))).setCell ⟨gb1112, 1, none⟩ (.int .i64 ((rd_T130 l0_1 x8_1).f1))) = w16 at n0_ n1_ n2_ ⊢; have BK1109 := n0_; have BK1112 := n1_; have HB := n2_; clear n0_ n1_ n2_; replace BK1109 := Aside0.mk (blk_drew BK1109.out); replace BK1112 := Aside0.mk (blk_drew BK1112.out); replace HB := Aside0.mk (below_drew1 HB.out); refine start_ (n := 13) (S := fun w' => w'.cell? ⟨gb1112, 0, none⟩ = some (.string ((rd_T130 l0_1 x8_1).f0)) ∧ w'.cell? ⟨gb1112, 1, none⟩ = some (.int .i64 ((rd_T130 l0_1 x8_1).f1)) ∧ w'.cell? ⟨gb1109, 0, none⟩ = some (.slice A0_0 l0_0.length c0_0) ∧ w'.cell? ⟨gb1109, 1, none⟩ = some (.slice (some ad1111) l0_1.length c0_1)) (ds := []) #[false, false, false, false, false, false, false, false, false, false, false, false, false] (by kernel_rfl) rfl rfl ⟨(blk_cell BK1112.out 0).trans rfl, (blk_cell BK1112.out 1).trans rfl, (blk_cell BK1109.out 0).trans rfl, (blk_cell BK1109.out 1).trans rfl⟩ (fun hHeld => ?_); refine with_tabW impl_ValidFlat.tab4 impl_ValidFlat.bits4 (fun HT_ HW_ => ?_); generalize w16.drew = w17 at BK1109 BK1112 HB hHeld ⊢; refine zT 0 13 #[true, false, false, false, false, false, false, false, false, false, false, false, false] (take_ofW HT_.out HW_.out (by kernel_rfl)) hHeld ?_
         refine one_ (i := 1) (N := some 14) #[true, true, false, false, false, false, false, false, false, false, false, false, false] rfl rfl (one_of HT_.out (by kernel_rfl)) (by decide) (fun K hK => ?_); refine goes_ Try.func124 (by kernel_rfl) rfl #[.agg #[.string ((rd_T130 l0_1 x8_1).f0), .int .i64 ((rd_T130 l0_1 x8_1).f1)]] (by rfl) rfl rfl zl ?_; with_reducible refine (impl_Pair_valid.calls k1 ((rd_T130 l0_1 x8_1).f0) ((rd_T130 l0_1 x8_1).f1) true _ A7.out).mono ?_; rintro e w18 ⟨rfl, hb⟩; refine ⟨_, rfl, ?_⟩; replace BK1109 := zc BK1109 hb; replace BK1112 := zc BK1112 hb; replace HB := zh HB hb; (try clear hb); (try clear hb2); (try clear hk); (try clear hi); have q19 : (x8_1 : Int) ≤ ((l0_1.length : Int) : Int) := of_decide_eq_true za; obtain ⟨i019, hi019, _, hsz19, _⟩ := info_parts info130; have hroom19 : l0_1.length ≤ c0_1 := HC0_1.out; have hC19 : Kd.C k130 _ (some ad1111) l0_1.length l0_1 := HR0_1.out; have hcut19 := cut_to (P := Try.prog) 68 130 .i64 Try.underlying68 hi019 (some ad1111) l0_1.length c0_1 x8_1 (of_decide_eq_true za) q19 hroom19; have hr19 := Kd.C_take (m := (x8_1 : Int).toNat) hC19 (by omega); have hy19 : y1114.length = (x8_1 : Int).toNat := (by rw [Ny1114.out, List.length_take]; omega)
         rw [← Ny1114.out] at hr19; rw [← hy19] at hcut19; have HR1117 := Aside0.mk hr19; have HC1117 := Aside0.mk (show y1114.length ≤ c0_1 from by omega); clear hr19 hC19 hroom19 hi019 hsz19; have KY19 := Aside0.mk hy19; clear hy19; replace q19 := eq_true q19; refine hK.out _ _ ⟨(blk_cell BK1112.out 0).trans rfl, (blk_cell BK1112.out 1).trans rfl, (blk_cell BK1109.out 0).trans rfl, (blk_cell BK1109.out 1).trans rfl⟩ (fun hHeld => ?_); clear hK K; refine norm_ (a' := ?_) ?_ ?_; rotate_left
         ·show Act.put _ (some 14) _ = _
          simp only [Act.put, List.setIfInBounds_toArray, List.set_cons_zero, List.set_cons_succ, i64_w, i32_w]; rfl
         refine zu 2 15 #[true, true, true, false, false, false, false, false, false, false, false, false, false] (any_of HT_.out (by kernel_rfl)) ?_
         refine zu 3 16 #[true, true, true, true, false, false, false, false, false, false, false, false, false] (any_of HT_.out (by kernel_rfl)) ?_
         refine zu 4 17 #[true, true, true, true, true, false, false, false, false, false, false, false, false] (any_of HT_.out (by kernel_rfl)) ?_
         refine zu 6 19 #[true, true, true, true, true, false, true, false, false, false, false, false, false] (any_of HT_.out (by kernel_rfl)) ?_
         refine zu 8 21 #[true, true, true, true, true, false, true, false, true, false, false, false, false] (any_of HT_.out (by kernel_rfl)) ?_
         refine zT 5 18 #[true, true, true, true, true, true, true, false, true, false, false, false, false] (take_ofW HT_.out HW_.out (by kernel_rfl)) hHeld ?_
         refine zu 7 20 #[true, true, true, true, true, true, true, true, true, false, false, false, false] (any_of HT_.out (by kernel_rfl)) ?_
         refine zT 9 22 #[true, true, true, true, true, true, true, true, true, true, false, false, false] (take_ofW HT_.out HW_.out (by kernel_rfl)) hHeld ?_
         refine one_ (i := 10) (N := some 23) #[true, true, true, true, true, true, true, true, true, true, true, false, false] rfl rfl (one_of HT_.out (by kernel_rfl)) (by decide) (fun K hK => ?_); refine goes_ Try.func123 (by kernel_rfl) rfl #[.slice (some ad1111) y1114.length c0_1, .string ((rd_T130 l0_1 x8_1).f0)] (by rfl) rfl rfl zl ?_; with_reducible refine (impl_pairAt.calls _ _ y1114 ((rd_T130 l0_1 x8_1).f0) t1118 _ ?side1 ?side2 A11.out).mono ?_
         (case side1 => exact zC HR1117 HB)
         (case side2 => exact HC1117.out)
         rintro e w20 ⟨rfl, hb⟩; refine ⟨_, rfl, ?_⟩; replace BK1109 := zc BK1109 hb; replace BK1112 := zc BK1112 hb; replace HB := zh HB hb; (try clear hb); (try clear hb2); (try clear hk); (try clear hi); refine hK.out _ _ ⟨(blk_cell BK1112.out 0).trans rfl, (blk_cell BK1112.out 1).trans rfl, (blk_cell BK1109.out 0).trans rfl, (blk_cell BK1109.out 1).trans rfl⟩ (fun hHeld => ?_); clear hK K; refine norm_ (a' := ?_) ?_ ?_; rotate_left
         ·show Act.put _ (some 23) _ = _
          simp only [Act.put, List.setIfInBounds_toArray, List.set_cons_zero, List.set_cons_succ, i64_w, i32_w]; rfl
         refine zu 11 24 #[true, true, true, true, true, true, true, true, true, true, true, true, false] (any_of HT_.out (by kernel_rfl)) ?_
         refine zu 12 25 #[true, true, true, true, true, true, true, true, true, true, true, true, true] (any_of HT_.out (by kernel_rfl)) ?_
         refine done_ (done_of HT_.out (by kernel_rfl)) ?_
         try go_wp2
         go_ret; exact ⟨zv, zB HB⟩
        ·rw [if_neg c12] at H; have c12b0 : decide (0 ≤ t1118) = false := decide_eq_false c12; clear c12; have H' := Aside0.mk H; clear H; have p1111 : 0 ≤ (x8_1 : Int) := of_decide_eq_true za; have q1111 : x8_1 < (l0_1.length : Int) := of_decide_eq_true za; obtain ⟨ad1111, e1111, hx1111_0, hx1111_1⟩ := at_T130 HR0_1.out x8_1 p1111 q1111
         cases e1111
         replace hx1111_0 := zt HB hx1111_0; replace hx1111_1 := zt HB hx1111_1; replace p1111 := eq_true p1111; replace q1111 := eq_true q1111
         try go_wp2_with (first | ((with_reducible refine gate_dst (N := 4) rfl ?_); refine zx (N := 4) (cs := #[.string (⟨#[]⟩ : ByteArray), .int .i64 0]) (t := 130) ?_; intro gb1112 hg w21 hbox hb; have BK1112 := Aside0.mk (hbox); have GW1112 := zg HB hg; have GE1112 := GW1112; replace HB := zh HB hb; obtain ⟨NB1109_1112, NB1112_1109⟩ := ze BK1109 hg; replace BK1109 := zc BK1109 hb; clear hb hbox hg; have hnb22 := NB1112_1109.out; have hnc22 := NB1109_1112.out; obtain ⟨hcz23_0, hcz23_1, hfz23_0, hfz23_1⟩ := zy2 BK1112))
         have n0_ : Aside0 (((w21.setCell ⟨gb1112, 0, none⟩ (.string ((rd_T130 l0_1 x8_1).f0))).setCell ⟨gb1112, 1, none⟩ (.int .i64 ((rd_T130 l0_1 x8_1).f1))).heap[gb1109]? = some (.cells #[.slice A0_0 l0_0.length c0_0, .slice (some ad1111) l0_1.length c0_1] 70 (0, 0))) := ⟨zf BK1109⟩
         have n1_ : Aside0 (((w21.setCell ⟨gb1112, 0, none⟩ (.string ((rd_T130 l0_1 x8_1).f0))).setCell ⟨gb1112, 1, none⟩ (.int .i64 ((rd_T130 l0_1 x8_1).f1))).heap[gb1112]? = some (.cells #[.string ((rd_T130 l0_1 x8_1).f0), .int .i64 ((rd_T130 l0_1 x8_1).f1)] 130 (0, 0))) := ⟨zbp BK1112⟩
         have n2_ : Aside0 (Below w.heap.size w ((w21.setCell ⟨gb1112, 0, none⟩ (.string ((rd_T130 l0_1 x8_1).f0))).setCell ⟨gb1112, 1, none⟩ (.int .i64 ((rd_T130 l0_1 x8_1).f1)))) := ⟨zB HB⟩
         (try clear BK1109); (try clear BK1112); (try clear HB); generalize ((w21.setCell ⟨gb1112, 0, none⟩ (.string ((rd_T130 l0_1 x8_1).f0))).setCell ⟨gb1112, 1, none⟩ (.int .i64 ((rd_T130 l0_1 x8_1).f1))) = w24 at n0_ n1_ n2_ ⊢; have BK1109 := n0_; have BK1112 := n1_; have HB := n2_; clear n0_ n1_ n2_; replace BK1109 := Aside0.mk (blk_drew BK1109.out); replace BK1112 := Aside0.mk (blk_drew BK1112.out); replace HB := Aside0.mk (below_drew1 HB.out); refine start_ (n := 13) (S := fun w' => w'.cell? ⟨gb1112, 0, none⟩ = some (.string ((rd_T130 l0_1 x8_1).f0)) ∧ w'.cell? ⟨gb1112, 1, none⟩ = some (.int .i64 ((rd_T130 l0_1 x8_1).f1)) ∧ w'.cell? ⟨gb1109, 0, none⟩ = some (.slice A0_0 l0_0.length c0_0) ∧ w'.cell? ⟨gb1109, 1, none⟩ = some (.slice (some ad1111) l0_1.length c0_1)) (ds := []) #[false, false, false, false, false, false, false, false, false, false, false, false, false] (by kernel_rfl) rfl rfl ⟨(blk_cell BK1112.out 0).trans rfl, (blk_cell BK1112.out 1).trans rfl, (blk_cell BK1109.out 0).trans rfl, (blk_cell BK1109.out 1).trans rfl⟩ (fun hHeld => ?_); refine with_tabW impl_ValidFlat.tab4 impl_ValidFlat.bits4 (fun HT_ HW_ => ?_); generalize w24.drew = w25 at BK1109 BK1112 HB hHeld ⊢; refine zT 0 13 #[true, false, false, false, false, false, false, false, false, false, false, false, false] (take_ofW HT_.out HW_.out (by kernel_rfl)) hHeld ?_
         refine one_ (i := 1) (N := some 14) #[true, true, false, false, false, false, false, false, false, false, false, false, false] rfl rfl (one_of HT_.out (by kernel_rfl)) (by decide) (fun K hK => ?_); refine goes_ Try.func124 (by kernel_rfl) rfl #[.agg #[.string ((rd_T130 l0_1 x8_1).f0), .int .i64 ((rd_T130 l0_1 x8_1).f1)]] (by rfl) rfl rfl zl ?_; with_reducible refine (impl_Pair_valid.calls k1 ((rd_T130 l0_1 x8_1).f0) ((rd_T130 l0_1 x8_1).f1) true _ A7.out).mono ?_; rintro e w26 ⟨rfl, hb⟩; refine ⟨_, rfl, ?_⟩; replace BK1109 := zc BK1109 hb; replace BK1112 := zc BK1112 hb; replace HB := zh HB hb; (try clear hb); (try clear hb2); (try clear hk); (try clear hi); have q27 : (x8_1 : Int) ≤ ((l0_1.length : Int) : Int) := of_decide_eq_true za; obtain ⟨i027, hi027, _, hsz27, _⟩ := info_parts info130; have hroom27 : l0_1.length ≤ c0_1 := HC0_1.out; have hC27 : Kd.C k130 _ (some ad1111) l0_1.length l0_1 := HR0_1.out; have hcut27 := cut_to (P := Try.prog) 68 130 .i64 Try.underlying68 hi027 (some ad1111) l0_1.length c0_1 x8_1 (of_decide_eq_true za) q27 hroom27; have hr27 := Kd.C_take (m := (x8_1 : Int).toNat) hC27 (by omega); have hy27 : y1114.length = (x8_1 : Int).toNat := (by rw [Ny1114.out, List.length_take]; omega)
         rw [← Ny1114.out] at hr27; rw [← hy27] at hcut27; have HR1117 := Aside0.mk hr27; have HC1117 := Aside0.mk (show y1114.length ≤ c0_1 from by omega); clear hr27 hC27 hroom27 hi027 hsz27; have KY27 := Aside0.mk hy27; clear hy27; replace q27 := eq_true q27; refine hK.out _ _ ⟨(blk_cell BK1112.out 0).trans rfl, (blk_cell BK1112.out 1).trans rfl, (blk_cell BK1109.out 0).trans rfl, (blk_cell BK1109.out 1).trans rfl⟩ (fun hHeld => ?_); clear hK K; refine norm_ (a' := ?_) ?_ ?_; rotate_left
         ·show Act.put _ (some 14) _ = _
          simp only [Act.put, List.setIfInBounds_toArray, List.set_cons_zero, List.set_cons_succ, i64_w, i32_w]; rfl
         refine zu 2 15 #[true, true, true, false, false, false, false, false, false, false, false, false, false] (any_of HT_.out (by kernel_rfl)) ?_
         refine zu 3 16 #[true, true, true, true, false, false, false, false, false, false, false, false, false] (any_of HT_.out (by kernel_rfl)) ?_
         refine zu 4 17 #[true, true, true, true, true, false, false, false, false, false, false, false, false] (any_of HT_.out (by kernel_rfl)) ?_
         refine zu 6 19 #[true, true, true, true, true, false, true, false, false, false, false, false, false] (any_of HT_.out (by kernel_rfl)) ?_
         refine zu 8 21 #[true, true, true, true, true, false, true, false, true, false, false, false, false] (any_of HT_.out (by kernel_rfl)) ?_
         refine zT 5 18 #[true, true, true, true, true, true, true, false, true, false, false, false, false] (take_ofW HT_.out HW_.out (by kernel_rfl)) hHeld ?_
         refine zu 7 20 #[true, true, true, true, true, true, true, true, true, false, false, false, false] (any_of HT_.out (by kernel_rfl)) ?_
         refine zT 9 22 #[true, true, true, true, true, true, true, true, true, true, false, false, false] (take_ofW HT_.out HW_.out (by kernel_rfl)) hHeld ?_
         refine one_ (i := 10) (N := some 23) #[true, true, true, true, true, true, true, true, true, true, true, false, false] rfl rfl (one_of HT_.out (by kernel_rfl)) (by decide) (fun K hK => ?_); refine goes_ Try.func123 (by kernel_rfl) rfl #[.slice (some ad1111) y1114.length c0_1, .string ((rd_T130 l0_1 x8_1).f0)] (by rfl) rfl rfl zl ?_; with_reducible refine (impl_pairAt.calls _ _ y1114 ((rd_T130 l0_1 x8_1).f0) t1118 _ ?side1 ?side2 A11.out).mono ?_
         (case side1 => exact zC HR1117 HB)
         (case side2 => exact HC1117.out)
         rintro e w28 ⟨rfl, hb⟩; refine ⟨_, rfl, ?_⟩; replace BK1109 := zc BK1109 hb; replace BK1112 := zc BK1112 hb; replace HB := zh HB hb; (try clear hb); (try clear hb2); (try clear hk); (try clear hi); refine hK.out _ _ ⟨(blk_cell BK1112.out 0).trans rfl, (blk_cell BK1112.out 1).trans rfl, (blk_cell BK1109.out 0).trans rfl, (blk_cell BK1109.out 1).trans rfl⟩ (fun hHeld => ?_); clear hK K; refine norm_ (a' := ?_) ?_ ?_; rotate_left
         ·show Act.put _ (some 23) _ = _
          simp only [Act.put, List.setIfInBounds_toArray, List.set_cons_zero, List.set_cons_succ, i64_w, i32_w]; rfl
         refine zu 11 24 #[true, true, true, true, true, true, true, true, true, true, true, true, false] (any_of HT_.out (by kernel_rfl)) ?_
         refine zu 12 25 #[true, true, true, true, true, true, true, true, true, true, true, true, true] (any_of HT_.out (by kernel_rfl)) ?_
         refine done_ (done_of HT_.out (by kernel_rfl)) ?_
         try go_wp2
         go_roundg k1
         case measure => have := HK1.out; omega
         case rel => exact ⟨(wrap64 (x8_1 + 1)), zr, H', ⟨by have := HK1.out; omega⟩, ⟨zb BK1109⟩, ⟨zB HB⟩⟩
       ·rw [if_neg c10] at H; exact absurd H (by simp)
      ·replace c8 := Bool.eq_false_iff.mpr c8; subst c8; rw [if_neg (show ¬ (false = true) by decide)] at H; obtain rfl := Option.some.inj H; have p1111 : 0 ≤ (x8_1 : Int) := of_decide_eq_true za; have q1111 : x8_1 < (l0_1.length : Int) := of_decide_eq_true za; obtain ⟨ad1111, e1111, hx1111_0, hx1111_1⟩ := at_T130 HR0_1.out x8_1 p1111 q1111
       cases e1111
       replace hx1111_0 := zt HB hx1111_0; replace hx1111_1 := zt HB hx1111_1; replace p1111 := eq_true p1111; replace q1111 := eq_true q1111
       try go_wp2_with (first | ((with_reducible refine gate_dst (N := 4) rfl ?_); refine zx (N := 4) (cs := #[.string (⟨#[]⟩ : ByteArray), .int .i64 0]) (t := 130) ?_; intro gb1112 hg w29 hbox hb; have BK1112 := Aside0.mk (hbox); have GW1112 := zg HB hg; have GE1112 := GW1112; replace HB := zh HB hb; obtain ⟨NB1109_1112, NB1112_1109⟩ := ze BK1109 hg; replace BK1109 := zc BK1109 hb; clear hb hbox hg; have hnb30 := NB1112_1109.out; have hnc30 := NB1109_1112.out; obtain ⟨hcz31_0, hcz31_1, hfz31_0, hfz31_1⟩ := zy2 BK1112))
       have n0_ : Aside0 (((w29.setCell ⟨gb1112, 0, none⟩ (.string ((rd_T130 l0_1 x8_1).f0))).setCell ⟨gb1112, 1, none⟩ (.int .i64 ((rd_T130 l0_1 x8_1).f1))).heap[gb1109]? = some (.cells #[.slice A0_0 l0_0.length c0_0, .slice (some ad1111) l0_1.length c0_1] 70 (0, 0))) := ⟨zf BK1109⟩
       have n1_ : Aside0 (((w29.setCell ⟨gb1112, 0, none⟩ (.string ((rd_T130 l0_1 x8_1).f0))).setCell ⟨gb1112, 1, none⟩ (.int .i64 ((rd_T130 l0_1 x8_1).f1))).heap[gb1112]? = some (.cells #[.string ((rd_T130 l0_1 x8_1).f0), .int .i64 ((rd_T130 l0_1 x8_1).f1)] 130 (0, 0))) := ⟨zbp BK1112⟩
       have n2_ : Aside0 (Below w.heap.size w ((w29.setCell ⟨gb1112, 0, none⟩ (.string ((rd_T130 l0_1 x8_1).f0))).setCell ⟨gb1112, 1, none⟩ (.int .i64 ((rd_T130 l0_1 x8_1).f1)))) := ⟨zB HB⟩
       (try clear BK1109); (try clear BK1112); (try clear HB); generalize ((w29.setCell ⟨gb1112, 0, none⟩ (.string ((rd_T130 l0_1 x8_1).f0))).setCell ⟨gb1112, 1, none⟩ (.int .i64 ((rd_T130 l0_1 x8_1).f1))) = w32 at n0_ n1_ n2_ ⊢; have BK1109 := n0_; have BK1112 := n1_; have HB := n2_; clear n0_ n1_ n2_; replace BK1109 := Aside0.mk (blk_drew BK1109.out); replace BK1112 := Aside0.mk (blk_drew BK1112.out); replace HB := Aside0.mk (below_drew1 HB.out); refine start_ (n := 13) (S := fun w' => w'.cell? ⟨gb1112, 0, none⟩ = some (.string ((rd_T130 l0_1 x8_1).f0)) ∧ w'.cell? ⟨gb1112, 1, none⟩ = some (.int .i64 ((rd_T130 l0_1 x8_1).f1))) (ds := []) #[false, false, false, false, false, false, false, false, false, false, false, false, false] (by kernel_rfl) rfl rfl ⟨(blk_cell BK1112.out 0).trans rfl, (blk_cell BK1112.out 1).trans rfl⟩ (fun hHeld => ?_); refine with_tabW impl_ValidFlat.tab4 impl_ValidFlat.bits4 (fun HT_ HW_ => ?_); generalize w32.drew = w33 at BK1109 BK1112 HB hHeld ⊢; refine zT 0 13 #[true, false, false, false, false, false, false, false, false, false, false, false, false] (take_ofW HT_.out HW_.out (by kernel_rfl)) hHeld ?_
       refine one_ (i := 1) (N := some 14) #[true, true, false, false, false, false, false, false, false, false, false, false, false] rfl rfl (one_of HT_.out (by kernel_rfl)) (by decide) (fun K hK => ?_); refine goes_ Try.func124 (by kernel_rfl) rfl #[.agg #[.string ((rd_T130 l0_1 x8_1).f0), .int .i64 ((rd_T130 l0_1 x8_1).f1)]] (by rfl) rfl rfl zl ?_; with_reducible refine (impl_Pair_valid.calls k1 ((rd_T130 l0_1 x8_1).f0) ((rd_T130 l0_1 x8_1).f1) false _ A7.out).mono ?_; rintro e w34 ⟨rfl, hb⟩; refine ⟨_, rfl, ?_⟩; replace BK1109 := zc BK1109 hb; replace BK1112 := zc BK1112 hb; replace HB := zh HB hb; (try clear hb); (try clear hb2); (try clear hk); (try clear hi); refine hK.out _ _ ⟨(blk_cell BK1112.out 0).trans rfl, (blk_cell BK1112.out 1).trans rfl⟩ (fun hHeld => ?_); clear hK K; refine norm_ (a' := ?_) ?_ ?_; rotate_left
       ·show Act.put _ (some 14) _ = _
        simp only [Act.put, List.setIfInBounds_toArray, List.set_cons_zero, List.set_cons_succ, i64_w, i32_w]; rfl
       refine zu 2 15 #[true, true, true, false, false, false, false, false, false, false, false, false, false] (any_of HT_.out (by kernel_rfl)) ?_
       refine zu 3 16 #[true, true, true, true, false, false, false, false, false, false, false, false, false] (any_of HT_.out (by kernel_rfl)) ?_
       refine zU 4 17 #[true, true, true, true, true, false, false, false, false, false, false, false, false] (any_of HT_.out (by kernel_rfl)) ?_
       refine zU 5 18 #[true, true, true, true, true, true, false, false, false, false, false, false, false] (any_of HT_.out (by kernel_rfl)) ?_
       refine zU 6 19 #[true, true, true, true, true, true, true, false, false, false, false, false, false] (any_of HT_.out (by kernel_rfl)) ?_
       refine zU 7 20 #[true, true, true, true, true, true, true, true, false, false, false, false, false] (any_of HT_.out (by kernel_rfl)) ?_
       refine zU 8 21 #[true, true, true, true, true, true, true, true, true, false, false, false, false] (any_of HT_.out (by kernel_rfl)) ?_
       refine zU 9 22 #[true, true, true, true, true, true, true, true, true, true, false, false, false] (any_of HT_.out (by kernel_rfl)) ?_
       refine zU 10 23 #[true, true, true, true, true, true, true, true, true, true, true, false, false] (any_of HT_.out (by kernel_rfl)) ?_
       refine zU 11 24 #[true, true, true, true, true, true, true, true, true, true, true, true, false] (any_of HT_.out (by kernel_rfl)) ?_
       refine zu 12 25 #[true, true, true, true, true, true, true, true, true, true, true, true, true] (any_of HT_.out (by kernel_rfl)) ?_
       refine done_ (done_of HT_.out (by kernel_rfl)) ?_
       try go_wp2
       go_ret; exact ⟨zv, zB HB⟩
     ·rw [if_neg c6] at H; exact absurd H (by simp)
    ·rw [if_neg c5] at H; exact absurd H (by simp)
   ·rw [if_neg c4] at H; have c4b0 : decide (x8_1 < (l0_1.length : Int)) = false := decide_eq_false c4; clear c4
    by_cases c35 : (l0_0.length : Int) ≤ 8
    ·rw [if_pos c35] at H; have c35b0 : decide ((l0_0.length : Int) ≤ 8) = true := decide_eq_true c35; have c35b1 : decide (l0_0.length ≤ 8) = true := decide_eq_true (by omega); clear c35
     by_cases c36 : (l0_1.length : Int) ≤ 8
     ·rw [if_pos c36] at H; have c36b0 : decide ((l0_1.length : Int) ≤ 8) = true := decide_eq_true c36; have c36b1 : decide (l0_1.length ≤ 8) = true := decide_eq_true (by omega); clear c36; replace H := Option.bind_eq_some_iff.mp H; obtain ⟨t1110, A370, H⟩ := H
      (try dsimp only at H)
      have A37 := Aside0.mk A370; clear A370; obtain rfl := Option.some.inj H; obtain ⟨hcz38_0, hcz38_1, hfz38_0, hfz38_1⟩ := zy2 BK1109; go_wp2_with (first | (go_at_call 125; (with_reducible refine (impl_areValues.calls _ _ l0_0 t1110 _ ?side1 ?side2 A37.out).mono ?_); (case side1 => exact zC HR0_0 HB); (case side2 => exact HC0_0.out); rintro e w39 ⟨rfl, hb⟩; replace BK1109 := zc BK1109 hb; replace HB := zh HB hb; (try clear hb); (try clear hb2); (try clear hk); (try clear hi))); go_ret; exact ⟨zv, zB HB⟩
     ·rw [if_neg c36] at H; have c36b0 : decide ((l0_1.length : Int) ≤ 8) = false := decide_eq_false c36; have c36b1 : decide (l0_1.length ≤ 8) = false := decide_eq_false (by omega); clear c36; obtain rfl := Option.some.inj H; obtain ⟨hcz40_0, hcz40_1, hfz40_0, hfz40_1⟩ := zy2 BK1109; go_wp2; go_ret; exact ⟨zv, zB HB⟩
    ·rw [if_neg c35] at H; have c35b0 : decide ((l0_0.length : Int) ≤ 8) = false := decide_eq_false c35; have c35b1 : decide (l0_0.length ≤ 8) = false := decide_eq_false (by omega); clear c35; obtain rfl := Option.some.inj H; obtain ⟨hcz41_0, hcz41_1, hfz41_0, hfz41_1⟩ := zy2 BK1109; go_wp2; go_ret; exact ⟨zv, zB HB⟩

end Go.Proofs.Ytlpmggokgcphiaa.Q
