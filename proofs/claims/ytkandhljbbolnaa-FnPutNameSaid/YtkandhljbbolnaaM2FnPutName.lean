-- written by px.py and merge.py (programs of this claim's), over the kit's print. Not trusted: Lean checks it.
import Derived.Test.YtkandhljbbolnaaQ0
import Derived.Test.YtkandhljbbolnaaM0FnPutName
import Derived.Test.YtkandhljbbolnaaM1FnPutName
namespace Go.Proofs.Ytkandhljbbolnaa.Q
open Go.RowKit Go.Proofs.YtkandhljbbolnaaL.PrintWords Go.Proofs.YtkandhljbbolnaaL.PrintLast Go.Proofs.YtkandhljbbolnaaL.PrintMore
attribute [local go_sem] max2_int min2_int max_two min_two max_three min_three max_four min_four   -- for this text's walks alone
set_option linter.unusedVariables false
set_option linter.unusedSimpArgs false

theorem zi150_89 {w0 W W' : World} {g : Nat} {f0 f0' : List Int} {f1 f1' : Int} (h : Aside0 (IsS150 w0 W g f0 f1)) (i : IsS150 w0 W g f0 f1 → IsS150 w0 W' g f0' f1' := by intro hh_; repeat (first | (with_reducible first | exact hh_ | apply IsS150.alloc | apply IsS150.drewN | apply IsS150.drew | apply IsS150.set_1 | refine IsS150.far ?_ (Aside0.out (by assumption)) _) | exact hh_)) : IsS150 w0 W' g f0' f1' := i h.out
theorem zj150_89 {B : Nat} {w W W' : World} (h : Aside0 (Below B w W)) (i : Below B w W → Below B w W' := by intro hh_; repeat (first | (with_reducible first | exact hh_ | apply below_alloc | apply pw_below_drewN | apply below_drew1 | refine below_set ?_ (IsS150.ge (Aside0.out (by assumption))) | refine below_set ?_ (Aside0.out (by assumption))) | exact hh_)) : Below B w W' := i h.out
/-! ### spec_DrawPutName: function 50 -/
def spec_DrawPutName.f (k : Nat) (l0 : List Int) : Option (List Int × (List (S94)) × ByteArray × Int) := (spec_newReader.f l0).bind fun bt993 => ((spec_someFlat.f k bt993.1 bt993.2).bind fun bt996 => ((spec_anyName.f k bt993.1 bt996.2.2).bind fun bt1003 => ((spec_anyNumber.f k bt993.1 bt1003.2).bind fun bt1005 => (some (bt996.1, bt996.2.1, bt1003.1, bt1005.1)))))
theorem spec_DrawPutName.mono : ∀ a0 k, LeO (spec_DrawPutName.f k a0) (spec_DrawPutName.f (k + 1) a0) := by
 intro a0 k; unfold spec_DrawPutName.f
 repeat' first
   | (with_reducible exact spec_anyName.mono _ _ _)
   | (with_reducible exact spec_anyNumber.mono _ _ _)
   | (with_reducible exact spec_someFlat.mono _ _ _)
   | (with_reducible exact LeO.refl _)
   | (with_reducible exact LeO.none _)
   | (with_reducible refine LeO.ite ?_ ?_)
   | (with_reducible refine LeO.bind ?_ (fun _ => ?_))
   | exact spec_anyName.mono _ _ _
   | exact spec_anyNumber.mono _ _ _
   | exact spec_someFlat.mono _ _ _
   | exact LeO.none _
   | refine LeO.ite ?_ ?_
   | refine LeO.bind ?_ (fun _ => ?_)
set_option maxHeartbeats 8000000 in
set_option maxRecDepth 100000 in
theorem spec_DrawPutName.calls (k : Nat) (A0 : Option Addr) (c0 : Nat) (l0 : List Int) (r1 : List Int) (r2 : List (S94)) (r3 : ByteArray) (r4 : Int) (w : World) (hr0 : Kd.C (Kd.int .u8) w A0 l0.length l0) (hc0 : l0.length ≤ c0) (h : spec_DrawPutName.f k l0 = some (r1, r2, r3, r4)) :
  Calls Try.prog 50 #[.slice A0 l0.length c0] w fun e w' => ∃ v0_ v1_ : Value, e = .returned (.tuple #[.agg #[v0_, v1_], .string r3, .int .i64 r4]) ∧ Kd.R (Kd.int .i64) 3 w' w.heap.size (fun _ => True) v0_ r1 ∧ Kd.R k94 94 w' w.heap.size (fun _ => True) v1_ r2 ∧ Below w.heap.size w w' := by
 have hu30 := Try.underlying30; have HR0 := Aside0.mk hr0; have HC0 := Aside0.mk hc0; clear hr0 hc0; have HB := Aside0.mk (Below.refl w.heap.size w); have H : ((spec_newReader.f l0).bind fun bt993 => ((spec_someFlat.f k bt993.1 bt993.2).bind fun bt996 => ((spec_anyName.f k bt993.1 bt996.2.2).bind fun bt1003 => ((spec_anyNumber.f k bt993.1 bt1003.2).bind fun bt1005 => (some (bt996.1, bt996.2.1, bt1003.1, bt1005.1)))))) = some (r1, r2, r3, r4) := h; clear h; replace H := Option.bind_eq_some_iff.mp H; obtain ⟨⟨t993, t994⟩, A20, H⟩ := H
 (try dsimp only at H)
 have A2 := Aside0.mk A20; clear A20; replace H := Option.bind_eq_some_iff.mp H; obtain ⟨⟨t996, t999, t1002⟩, A30, H⟩ := H
 (try dsimp only at H)
 have A3 := Aside0.mk A30; clear A30; replace H := Option.bind_eq_some_iff.mp H; obtain ⟨⟨t1003, t1004⟩, A40, H⟩ := H
 (try dsimp only at H)
 have A4 := Aside0.mk A40; clear A40; replace H := Option.bind_eq_some_iff.mp H; obtain ⟨⟨t1005, t1006⟩, A50, H⟩ := H
 (try dsimp only at H)
 have A5 := Aside0.mk A50; clear A50; simp only [Option.some.injEq, Prod.mk.injEq] at H; obtain ⟨rfl, rfl, rfl, rfl⟩ := H; go_enter Try.func50, Try.ntmps50; go_wp2_with (first | ((with_reducible refine gate_dst (N := 2) rfl ?_); refine zx (N := 2) (cs := #[.slice none 0 0, .slice none 0 0]) (t := 30) ?_; intro gb992 hg w6 hbox hb; have BK992 := Aside0.mk (hbox); have GW992 := Aside0.mk ((by rw [hg]; exact (below_size (zB HB)) : w.heap.size ≤ gb992)); have GE992 := GW992; replace HB := Aside0.mk (below_step (zB HB) hb); clear hb hbox hg) | ((with_reducible refine gate_callee (f := 75) rfl ?_); refine goesL_ (some 7) rfl rfl Try.func75 (by kernel_rfl) rfl #[.slice A0 l0.length c0] rfl zl ?_; (with_reducible refine (spec_newReader.calls _ _ l0 t993 t994 w _ ?side1 ?side2 ?side3 A2.out).mono ?_); (case side1 => exact zB HB); (case side2 => exact HR0.out); (case side3 => exact HC0.out); rintro e w7 ⟨g995, rfl, hi, hb, hb2⟩; refine ⟨_, rfl, ?_⟩; replace HB := Aside0.mk (hb); have HI995 := Aside0.mk (hi); have NB995_992 := Aside0.mk (IsS150.ne_blk hi (blk_below (g := gb992) (o := .cells #[.slice none 0 0, .slice none 0 0] 30 (0, 0)) (zb BK992) hb2) (by decide)); have NB992_995 := Aside0.mk (Ne.symm (IsS150.ne_blk hi (blk_below (g := gb992) (o := .cells #[.slice none 0 0, .slice none 0 0] 30 (0, 0)) (zb BK992) hb2) (by decide))); replace BK992 := Aside0.mk (blk_below (g := gb992) (o := .cells #[.slice none 0 0, .slice none 0 0] 30 (0, 0)) (zb BK992) hb2); (try clear hb); (try clear hb2); (try clear hk); (try clear hi)) | ((with_reducible refine gate_callee (f := 81) rfl ?_); refine goesL_ (some 9) rfl rfl Try.func81 (by kernel_rfl) rfl #[.pointer (some ⟨g995, 0, none⟩)] rfl zl ?_; (with_reducible refine (spec_someFlat.calls k g995 t993 t994 t996 t999 t1002 w _ ?side1 ?side2 A3.out).mono ?_); (case side1 => exact zi150_89 HI995); (case side2 => exact zj150_89 HB); rintro e w8 ⟨v997, v1000, rfl, ho0, ho1, hi, hb, hk⟩; refine ⟨_, rfl, ?_⟩; replace BK992 := Aside0.mk (KeepBut.blk hk (g' := gb992) (o := .cells #[.slice none 0 0, .slice none 0 0] 30 (0, 0)) (zb BK992) NB992_995.out (by simp)); have HO998 := Aside0.mk (Kd.R_lower ho0 (below_size (zj150_89 HB))); have HO1001 := Aside0.mk (Kd.R_lower ho1 (below_size (zj150_89 HB))); replace HB := Aside0.mk (hb); replace HI995 := Aside0.mk (hi); (try clear hb); (try clear hb2); (try clear hk); (try clear hi); (try clear ho0); (try clear ho1)) | ((with_reducible refine gate_callee (f := 102) rfl ?_); refine goesL_ (some 11) rfl rfl Try.func102 (by kernel_rfl) rfl #[.pointer (some ⟨g995, 0, none⟩)] rfl zl ?_; (with_reducible refine (spec_anyName.calls k g995 t993 t1002 t1003 t1004 w _ ?side1 ?side2 A4.out).mono ?_); (case side1 => exact zi150_89 HI995); (case side2 => exact zj150_89 HB); rintro e w9 ⟨rfl, hi, hb, hk⟩; refine ⟨_, rfl, ?_⟩; replace BK992 := Aside0.mk (KeepBut.blk hk (g' := gb992) (o := .cells #[.slice none 0 0, .slice none 0 0] 30 (0, 0)) (zb BK992) NB992_995.out (by simp)); replace HO998 := Aside0.mk (Kd.R_mono (Kd.R_keep (IsS150.apart (show IsS150 w _ g995 t993 t1002 from zi150_89 HI995) (zo HO998) (by decide)) hk (fun _ h => h.2)) (fun _ h => h.1)); replace HO1001 := Aside0.mk (Kd.R_mono (Kd.R_keep (IsS150.apart (show IsS150 w _ g995 t993 t1002 from zi150_89 HI995) (zo HO1001) (by decide)) hk (fun _ h => h.2)) (fun _ h => h.1)); replace HB := Aside0.mk (hb); replace HI995 := Aside0.mk (hi); (try clear hb); (try clear hb2); (try clear hk); (try clear hi)) | ((with_reducible refine gate_callee (f := 82) rfl ?_); refine goesL_ (some 13) rfl rfl Try.func82 (by kernel_rfl) rfl #[.pointer (some ⟨g995, 0, none⟩)] rfl zl ?_; (with_reducible refine (spec_anyNumber.calls k g995 t993 t1004 t1005 t1006 w _ ?side1 ?side2 A5.out).mono ?_); (case side1 => exact zi150_89 HI995); (case side2 => exact zj150_89 HB); rintro e w10 ⟨rfl, hi, hb, hk⟩; refine ⟨_, rfl, ?_⟩; replace BK992 := Aside0.mk (KeepBut.blk hk (g' := gb992) (o := .cells #[.slice none 0 0, .slice none 0 0] 30 (0, 0)) (zb BK992) NB992_995.out (by simp)); replace HO998 := Aside0.mk (Kd.R_mono (Kd.R_keep (IsS150.apart (show IsS150 w _ g995 t993 t1004 from zi150_89 HI995) (zo HO998) (by decide)) hk (fun _ h => h.2)) (fun _ h => h.1)); replace HO1001 := Aside0.mk (Kd.R_mono (Kd.R_keep (IsS150.apart (show IsS150 w _ g995 t993 t1004 from zi150_89 HI995) (zo HO1001) (by decide)) hk (fun _ h => h.2)) (fun _ h => h.1)); replace HB := Aside0.mk (hb); replace HI995 := Aside0.mk (hi); (try clear hb); (try clear hb2); (try clear hk); (try clear hi); obtain ⟨Ao11, co11, eo11⟩ := Kd.R_slice HO998.out; subst eo11; have hnb12 := NB992_995.out; have hnc12 := NB995_992.out; have hcz13_0 : w10.cell? ⟨gb992, 0, none⟩ = some (.slice none 0 0) := (blk_cell BK992.out 0).trans rfl; have hcz13_1 : w10.cell? ⟨gb992, 1, none⟩ = some (.slice none 0 0) := (blk_cell BK992.out 1).trans rfl; have hfz13_0 := blk_frozen BK992.out 0; have hfz13_1 := blk_frozen BK992.out 1; obtain ⟨Ao14, co14, eo14⟩ := Kd.R_slice HO1001.out; subst eo14)); refine bodyPost_ret (results_ctt rfl _ _ gb992 30 #[.slice Ao11 t996.length co11, .slice Ao14 t999.length co14] (0, 0) _ rfl (by (with_reducible repeat (first | refine blk_drewN ?_ _ | refine blk_drew ?_ | refine blk_alloc ?_ _)); refine blk_put (cs := #[.slice Ao11 t996.length co11, .slice none 0 0]) ?_ 1 _ rfl; (with_reducible repeat (first | refine blk_drewN ?_ _ | refine blk_drew ?_ | refine blk_alloc ?_ _)); refine blk_put (cs := #[.slice none 0 0, .slice none 0 0]) ?_ 0 _ rfl; (with_reducible repeat (first | refine blk_drewN ?_ _ | refine blk_drew ?_ | refine blk_alloc ?_ _)); exact BK992.out) Try.underlying30 rfl (by kernel_rfl)) rfl ?_; exact ⟨_, _, by first | rfl | (simp [errW_none, errW_some] <;> rfl) | (simp [*, errW_none, errW_some] <;> rfl), by (with_reducible repeat (first | apply Kd.R_alloc | apply Kd.R_drewN | apply Kd.R_drew)); exact Kd.R_mono (Kd.R_far (p := ⟨gb992, 1, none⟩) (Kd.R_far (p := ⟨gb992, 0, none⟩) (Kd.R_types HO998.out BK992.out (by decide)) (fun _ hk => hk.2) (.slice Ao11 t996.length co11)) (fun _ hk => hk.2) (.slice Ao14 t999.length co14)) (fun _ hk => trivial), by (with_reducible repeat (first | apply Kd.R_alloc | apply Kd.R_drewN | apply Kd.R_drew)); exact Kd.R_mono (Kd.R_far (p := ⟨gb992, 1, none⟩) (Kd.R_far (p := ⟨gb992, 0, none⟩) (Kd.R_types HO1001.out BK992.out (by decide)) (fun _ hk => hk.2) (.slice Ao11 t996.length co11)) (fun _ hk => hk.2) (.slice Ao14 t999.length co14)) (fun _ hk => trivial), by repeat (first | (with_reducible first | exact HB.out | apply below_alloc | apply pw_below_drewN | apply below_drew1 | refine below_set ?_ (IsS150.ge HI995.out) | refine below_set ?_ GE992.out) | exact HB.out)⟩

end Go.Proofs.Ytkandhljbbolnaa.Q

namespace Go.Proofs.Ytkandhljbbolnaa.Q
open Go.RowKit Go.Proofs.YtkandhljbbolnaaL.PrintWords Go.Proofs.YtkandhljbbolnaaL.PrintLast Go.Proofs.YtkandhljbbolnaaL.PrintMore
attribute [local go_sem] max2_int min2_int max_two min_two max_three min_three max_four min_four   -- for this text's walks alone
set_option linter.unusedVariables false
set_option linter.unusedSimpArgs false

/-! ### impl_in: function 122 -/
def impl_in.f (a0 : Int) (a1 : Int) (a2 : Int) : Option (Bool) := if a0 ≥ a1 then (some (decide (a0 ≤ a2))) else (some false)
set_option maxHeartbeats 8000000 in
set_option maxRecDepth 100000 in
theorem impl_in.calls (a0 : Int) (a1 : Int) (a2 : Int) (r : Bool) (w : World) (h : impl_in.f a0 a1 a2 = some r) :
  Calls Try.prog 122 #[.int .i64 a0, .int .i64 a1, .int .i64 a2] w fun e w' => e = .returned (.bool r) ∧ Drawn0 w w' := by
 have H : (if a0 ≥ a1 then (some (decide (a0 ≤ a2))) else (some false)) = some r := h; clear h
 by_cases c4 : a0 ≥ a1
 ·rw [if_pos c4] at H; have c4b0 : decide (a1 ≤ a0) = true := decide_eq_true c4; clear c4; obtain rfl := Option.some.inj H; go_enter Try.func122, Try.ntmps122; go_wp2; go_ret; exact ⟨by first | rfl | (simp; done) | (simp [*]; done), by repeat (first | exact Drawn0.refl _ | apply Drawn0.step)⟩
 ·rw [if_neg c4] at H; have c4b0 : decide (a1 ≤ a0) = false := decide_eq_false c4; clear c4; obtain rfl := Option.some.inj H; go_enter Try.func122, Try.ntmps122; go_wp2; go_ret; exact ⟨by first | rfl | (simp; done) | (simp [*]; done), by repeat (first | exact Drawn0.refl _ | apply Drawn0.step)⟩

/-! ### impl_isValue: function 72 -/
def impl_isValue.f (a0 : Int) : Option (Bool) := (impl_in.f a0 (-99) 99).bind fun t151 => (some t151)
set_option maxHeartbeats 8000000 in
set_option maxRecDepth 100000 in
theorem impl_isValue.calls (a0 : Int) (r : Bool) (w : World) (h : impl_isValue.f a0 = some r) :
  Calls Try.prog 72 #[.int .i64 a0] w fun e w' => e = .returned (.bool r) ∧ Drawn0 w w' := by
 have H : ((impl_in.f a0 (-99) 99).bind fun t151 => (some t151)) = some r := h; clear h; replace H := Option.bind_eq_some_iff.mp H; obtain ⟨t151, A20, H⟩ := H
 (try dsimp only at H)
 have A2 := Aside0.mk A20; clear A20; obtain rfl := Option.some.inj H; go_enter Try.func72, Try.ntmps72; go_wp2_with (first | ((with_reducible refine gate_callee (f := 122) rfl ?_); refine goesL_ (some 4) rfl rfl Try.func122 (by kernel_rfl) rfl #[.int .i64 a0, .int .i64 (-99), .int .i64 99] rfl zl ?_; (with_reducible refine (impl_in.calls a0 (-99) 99 t151 _ A2.out).mono ?_); rintro e w' ⟨rfl, ⟨nd, rfl⟩⟩; refine ⟨_, rfl, ?_⟩)); go_ret; exact ⟨by first | rfl | (simp; done) | (simp [*]; done), by repeat (first | exact Drawn0.refl _ | apply Drawn0.step)⟩

/-! ### impl_isName: function 113 -/
def impl_isName.l0 : Nat → ByteArray → Int → Option (Bool)
 | 0, _, _ => none
 | k + 1, x0, x3 => if x3 < (x0.size : Int) then (if 0 ≤ x3 then (if (bt x0 x3) < 97 then (some false) else (if (bt x0 x3) > 122 then (some false) else (impl_isName.l0 k x0 (wrap64 (x3 + 1))))) else (none)) else ((impl_in.f (x0.size : Int) 1 6).bind fun t152 => (some t152))
def impl_isName.f (k : Nat) (a0 : ByteArray) : Option (Bool) := impl_isName.l0 k a0 0
theorem impl_isName.mono_l : ∀ k, (∀ y0 y1, LeO (impl_isName.l0 k y0 y1) (impl_isName.l0 (k + 1) y0 y1))
 | 0 => fun _ _ r h => by simp [impl_isName.l0] at h
 | k + 1 => by
  have ih0 := impl_isName.mono_l k
  ·intro y0 y1; unfold impl_isName.l0
   repeat' first
   | (with_reducible exact ih0 _ _)
   | (with_reducible exact LeO.refl _)
   | (with_reducible exact LeO.none _)
   | (with_reducible refine LeO.ite ?_ ?_)
   | (with_reducible refine LeO.bind ?_ (fun _ => ?_))
   | exact ih0 _ _
   | exact LeO.none _
   | refine LeO.ite ?_ ?_
   | refine LeO.bind ?_ (fun _ => ?_)
theorem impl_isName.mono : ∀ a0 k, LeO (impl_isName.f k a0) (impl_isName.f (k + 1) a0) := by
 intro a0 k; have ih0 := impl_isName.mono_l k; unfold impl_isName.f
 repeat' first
   | (with_reducible exact ih0 _ _)
   | (with_reducible exact LeO.refl _)
   | (with_reducible exact LeO.none _)
   | (with_reducible refine LeO.ite ?_ ?_)
   | (with_reducible refine LeO.bind ?_ (fun _ => ?_))
   | exact ih0 _ _
   | exact LeO.none _
   | refine LeO.ite ?_ ?_
   | refine LeO.bind ?_ (fun _ => ?_)
set_option maxHeartbeats 8000000 in
set_option maxRecDepth 100000 in
theorem impl_isName.calls (k : Nat) (a0 : ByteArray) (r : Bool) (w : World) (h : impl_isName.f k a0 = some r) :
  Calls Try.prog 113 #[.string a0] w fun e w' => e = .returned (.bool r) ∧ Drawn0 w w' := by
 have H : (impl_isName.l0 k a0 0) = some r := h; clear h; have H' := Aside0.mk H; clear H; go_enter Try.func113, Try.ntmps113; go_wp2; go_loopg [3] k (fun kq v3 w' => ∃ (x3_1 : Int), v3 = .int .i64 x3_1 ∧ Aside0 (impl_isName.l0 kq a0 x3_1 = some r) ∧ Aside0 (kq ≤ k) ∧ Drawn0 w w')
 case atStart => exact ⟨(0), zr, H', ⟨Nat.le_refl _⟩, by repeat (first | exact Drawn0.refl _ | apply Drawn0.step)⟩
 case round =>
  clear H'; (try clear c1); obtain ⟨x3_1, rfl, HA, HK1, ⟨m1, rfl⟩⟩ := hrel
  cases gk with
  | zero => exact absurd HA.out (by simp [impl_isName.l0])
  | succ k1 =>
   have H := HA.out; clear HA; simp only [impl_isName.l0] at H
   by_cases c2 : x3_1 < (a0.size : Int)
   ·rw [if_pos c2] at H; have c2b0 : decide (x3_1 < (a0.size : Int)) = true := decide_eq_true c2; clear c2
    by_cases c3 : 0 ≤ x3_1
    ·rw [if_pos c3] at H; have c3b0 : decide (0 ≤ x3_1) = true := decide_eq_true c3; clear c3
     by_cases c5 : (bt a0 x3_1) < 97
     ·rw [if_pos c5] at H; have c5b0 : decide ((bt a0 x3_1) < 97) = true := decide_eq_true c5; clear c5; obtain rfl := Option.some.inj H; have p4 : 0 ≤ (x3_1 : Int) := of_decide_eq_true za; have q4 : x3_1 < (a0.size : Int) := of_decide_eq_true za; have hx4 := bt_at a0 x3_1; replace p4 := eq_true p4; replace q4 := eq_true q4; go_wp2; go_ret; exact ⟨by first | rfl | (simp; done) | (simp [*]; done), by repeat (first | exact Drawn0.refl _ | apply Drawn0.step)⟩
     ·rw [if_neg c5] at H; have c5b0 : decide ((bt a0 x3_1) < 97) = false := decide_eq_false c5; clear c5
      by_cases c7 : (bt a0 x3_1) > 122
      ·rw [if_pos c7] at H; have c7b0 : decide (122 < (bt a0 x3_1)) = true := decide_eq_true c7; clear c7; obtain rfl := Option.some.inj H; have p4 : 0 ≤ (x3_1 : Int) := of_decide_eq_true za; have q4 : x3_1 < (a0.size : Int) := of_decide_eq_true za; have hx4 := bt_at a0 x3_1; replace p4 := eq_true p4; replace q4 := eq_true q4; have p6 : 0 ≤ (x3_1 : Int) := of_decide_eq_true za; have q6 : x3_1 < (a0.size : Int) := of_decide_eq_true za; have hx6 := bt_at a0 x3_1; replace p6 := eq_true p6; replace q6 := eq_true q6; go_wp2; go_ret; exact ⟨by first | rfl | (simp; done) | (simp [*]; done), by repeat (first | exact Drawn0.refl _ | apply Drawn0.step)⟩
      ·rw [if_neg c7] at H; have c7b0 : decide (122 < (bt a0 x3_1)) = false := decide_eq_false c7; clear c7; have H' := Aside0.mk H; clear H; have p4 : 0 ≤ (x3_1 : Int) := of_decide_eq_true za; have q4 : x3_1 < (a0.size : Int) := of_decide_eq_true za; have hx4 := bt_at a0 x3_1; replace p4 := eq_true p4; replace q4 := eq_true q4; have p6 : 0 ≤ (x3_1 : Int) := of_decide_eq_true za; have q6 : x3_1 < (a0.size : Int) := of_decide_eq_true za; have hx6 := bt_at a0 x3_1; replace p6 := eq_true p6; replace q6 := eq_true q6; go_wp2; go_roundg k1
       case measure => have := HK1.out; omega
       case rel => exact ⟨(wrap64 (x3_1 + 1)), zr, H', ⟨by have := HK1.out; omega⟩, by repeat (first | exact Drawn0.refl _ | apply Drawn0.step)⟩
    ·rw [if_neg c3] at H; exact absurd H (by simp)
   ·rw [if_neg c2] at H; have c2b0 : decide (x3_1 < (a0.size : Int)) = false := decide_eq_false c2; clear c2; replace H := Option.bind_eq_some_iff.mp H; obtain ⟨t152, A80, H⟩ := H
    (try dsimp only at H)
    have A8 := Aside0.mk A80; clear A80; obtain rfl := Option.some.inj H; go_wp2_with (first | ((with_reducible refine gate_callee (f := 122) rfl ?_); refine goesL_ (some 22) rfl rfl Try.func122 (by kernel_rfl) rfl #[.int .i64 (a0.size : Int), .int .i64 1, .int .i64 6] rfl zl ?_; (with_reducible refine (impl_in.calls (a0.size : Int) 1 6 t152 _ A8.out).mono ?_); rintro e w' ⟨rfl, ⟨nd, rfl⟩⟩; refine ⟨_, rfl, ?_⟩)); go_ret; exact ⟨by first | rfl | (simp; done) | (simp [*]; done), by repeat (first | exact Drawn0.refl _ | apply Drawn0.step)⟩

/-! ### impl_Pair_valid: function 62 -/
def impl_Pair_valid.f (k : Nat) (a0_0 : ByteArray) (a0_1 : Int) : Option (Bool) := (impl_isName.f k a0_0).bind fun t154 => (if t154 = true then ((impl_isValue.f a0_1).bind fun t155 => (some t155)) else (some false))
theorem impl_Pair_valid.mono : ∀ a0 a1 k, LeO (impl_Pair_valid.f k a0 a1) (impl_Pair_valid.f (k + 1) a0 a1) := by
 intro a0 a1 k; unfold impl_Pair_valid.f
 repeat' first
   | (with_reducible exact impl_isName.mono _ _)
   | (with_reducible exact LeO.refl _)
   | (with_reducible exact LeO.none _)
   | (with_reducible refine LeO.ite ?_ ?_)
   | (with_reducible refine LeO.bind ?_ (fun _ => ?_))
   | exact impl_isName.mono _ _
   | exact LeO.none _
   | refine LeO.ite ?_ ?_
   | refine LeO.bind ?_ (fun _ => ?_)
set_option maxHeartbeats 8000000 in
set_option maxRecDepth 100000 in
theorem impl_Pair_valid.calls (k : Nat) (a0_0 : ByteArray) (a0_1 : Int) (r : Bool) (w : World) (h : impl_Pair_valid.f k a0_0 a0_1 = some r) :
  Calls Try.prog 62 #[.agg #[.string a0_0, .int .i64 a0_1]] w fun e w' => e = .returned (.bool r) ∧ Below w.heap.size w w' := by
 have hu94 := Try.underlying94; have HB := Aside0.mk (Below.refl w.heap.size w); have H : ((impl_isName.f k a0_0).bind fun t154 => (if t154 = true then ((impl_isValue.f a0_1).bind fun t155 => (some t155)) else (some false))) = some r := h; clear h; replace H := Option.bind_eq_some_iff.mp H; obtain ⟨t154, A20, H⟩ := H
 (try dsimp only at H)
 have A2 := Aside0.mk A20; clear A20
 by_cases c3 : t154 = true
 ·subst c3; rw [if_pos rfl] at H; replace H := Option.bind_eq_some_iff.mp H; obtain ⟨t155, A40, H⟩ := H
  (try dsimp only at H)
  have A4 := Aside0.mk A40; clear A40; obtain rfl := Option.some.inj H; go_enter Try.func62, Try.ntmps62; go_wp2_with (first | ((with_reducible refine gate_dst (N := 1) rfl ?_); refine zx (N := 1) (cs := #[.string a0_0, .int .i64 a0_1]) (t := 94) ?_; intro gb153 hg w5 hbox hb; have BK153 := Aside0.mk (hbox); have GW153 := Aside0.mk ((by rw [hg]; exact (below_size (zB HB)) : w.heap.size ≤ gb153)); have GE153 := GW153; replace HB := Aside0.mk (below_step (zB HB) hb); clear hb hbox hg; have hcz6_0 : w5.cell? ⟨gb153, 0, none⟩ = some (.string a0_0) := (blk_cell BK153.out 0).trans rfl; have hcz6_1 : w5.cell? ⟨gb153, 1, none⟩ = some (.int .i64 a0_1) := (blk_cell BK153.out 1).trans rfl; have hfz6_0 := blk_frozen BK153.out 0; have hfz6_1 := blk_frozen BK153.out 1) | ((with_reducible refine gate_callee (f := 113) rfl ?_); refine goesL_ (some 5) rfl rfl Try.func113 (by kernel_rfl) rfl #[.string a0_0] rfl zl ?_; (with_reducible refine (impl_isName.calls k a0_0 true _ A2.out).mono ?_); rintro e w' ⟨rfl, ⟨nd, rfl⟩⟩; refine ⟨_, rfl, ?_⟩) | (go_at_call 72; (with_reducible refine (impl_isValue.calls a0_1 t155 _ A4.out).mono ?_); rintro e w' ⟨rfl, ⟨nd, rfl⟩⟩)); go_ret; exact ⟨by first | rfl | (simp [errW_none, errW_some] <;> rfl) | (simp [*, errW_none, errW_some] <;> rfl), zB HB⟩
 ·replace c3 := Bool.eq_false_iff.mpr c3; subst c3; rw [if_neg (show ¬ (false = true) by decide)] at H; obtain rfl := Option.some.inj H; go_enter Try.func62, Try.ntmps62; go_wp2_with (first | ((with_reducible refine gate_dst (N := 1) rfl ?_); refine zx (N := 1) (cs := #[.string a0_0, .int .i64 a0_1]) (t := 94) ?_; intro gb153 hg w7 hbox hb; have BK153 := Aside0.mk (hbox); have GW153 := Aside0.mk ((by rw [hg]; exact (below_size (zB HB)) : w.heap.size ≤ gb153)); have GE153 := GW153; replace HB := Aside0.mk (below_step (zB HB) hb); clear hb hbox hg; have hcz8_0 : w7.cell? ⟨gb153, 0, none⟩ = some (.string a0_0) := (blk_cell BK153.out 0).trans rfl; have hcz8_1 : w7.cell? ⟨gb153, 1, none⟩ = some (.int .i64 a0_1) := (blk_cell BK153.out 1).trans rfl; have hfz8_0 := blk_frozen BK153.out 0; have hfz8_1 := blk_frozen BK153.out 1) | ((with_reducible refine gate_callee (f := 113) rfl ?_); refine goesL_ (some 5) rfl rfl Try.func113 (by kernel_rfl) rfl #[.string a0_0] rfl zl ?_; (with_reducible refine (impl_isName.calls k a0_0 false _ A2.out).mono ?_); rintro e w' ⟨rfl, ⟨nd, rfl⟩⟩; refine ⟨_, rfl, ?_⟩)); go_ret; exact ⟨by first | rfl | (simp [errW_none, errW_some] <;> rfl) | (simp [*, errW_none, errW_some] <;> rfl), zB HB⟩

end Go.Proofs.Ytkandhljbbolnaa.Q

namespace Go.Proofs.Ytkandhljbbolnaa.Q
open Go.RowKit Go.Proofs.YtkandhljbbolnaaL.PrintWords Go.Proofs.YtkandhljbbolnaaL.PrintLast Go.Proofs.YtkandhljbbolnaaL.PrintMore
attribute [local go_sem] max2_int min2_int max_two min_two max_three min_three max_four min_four   -- for this text's walks alone
set_option linter.unusedVariables false
set_option linter.unusedSimpArgs false

/-! ### slices.IndexFunc at impl.Pair: function 114 -/
set_option maxHeartbeats 8000000 in
set_option maxRecDepth 100000 in
theorem ix114.calls (p : S94 → Bool) (g : Nat) (lb : Array Value) (eg : ∀ args w, (callFunc g args).run Try.prog w = .ok (.enter g args) w) (A0 : Option Addr) (c0 : Nat) (l0 : List (S94)) (w : World)
  (hp : PxPred Try.prog g lb (fun x : S94 => .agg #[.string x.f0, .int .i64 x.f1]) p w) (hr0 : Kd.C k94 w A0 l0.length l0) :
  Calls Try.prog 114 #[.slice A0 l0.length c0, .func (.func g) #[] lb] w fun e w' => e = .returned (.int .i64 (pxIdx p l0)) ∧ Below w.heap.size w w' := by
 have HR := Aside0.mk hr0; clear hr0; have hbig : l0.length ≤ 9223372036854775807 := HR.out.2.1; have hu94 := Try.underlying94; go_enter Try.func114, Try.ntmps114; go_wp2; go_loopg [5, 8] l0.length (fun gg _ s8 wr => ∃ kk : Nat, kk ≤ l0.length ∧ l0.length - kk ≤ gg ∧ s8 = .int .i64 kk ∧ Aside0 (Below w.heap.size w wr) ∧ Aside0 (∀ j, j < kk → p (l0.getD j z94) = false))
 case atStart => exact ⟨0, Nat.zero_le _, by omega, rfl, ⟨Below.refl _ w⟩, ⟨fun j hj => absurd hj (Nat.not_lt_zero _)⟩⟩
 case round =>
  obtain ⟨kk, hkk, hg, rfl, BW, A⟩ := hrel
  by_cases hlt : kk < l0.length
  ·have hltz : (kk : Int) < (l0.length : Int) := by omega
   have hz0 : (0 : Int) ≤ (kk : Int) := by omega
   obtain ⟨ad, e, hx0, hx1⟩ := at_T94 (Kd.C_below HR.out BW.out) (kk : Int) hz0 hltz; simp only [Int.toNat_natCast] at hx0 hx1
   cases e
   have hcall := hp wr (rd_T94 l0 (kk : Int)) BW.out; clear hp; have B := Aside0.mk (show rd_T94 l0 (kk : Int) = l0.getD kk z94 from rfl); generalize hy : rd_T94 l0 (kk : Int) = y at hx0 hx1 hcall B; clear hy
   cases hq : p y with
   | true =>
    rw [hq] at hcall; go_wp2_with fail; refine hcall.mono ?_; rintro e w' ⟨rfl, hb'⟩; clear hcall; go_wp2; go_ret; refine ⟨?_, below_then BW.out BW.out.size hb'⟩; rw [pxIdx_hit p l0 z94 kk hlt (by rw [← B.out]; exact hq) A.out]; rfl
   | false =>
    rw [hq] at hcall; go_wp2_with fail; refine hcall.mono ?_; rintro e w' ⟨rfl, hb'⟩; clear hcall; go_wp2; go_roundg (l0.length - (kk + 1))
    case measure => omega
    case rel =>
     refine ⟨kk + 1, by omega, by omega, by go_num, ⟨below_then BW.out BW.out.size hb'⟩, ⟨fun j hj => ?_⟩⟩
     by_cases e : j = kk
     ·subst e; rw [← B.out]; exact hq
     ·exact A.out j (by omega)
  ·have hltz : ¬ (kk : Int) < (l0.length : Int) := by omega
   have : kk = l0.length := by omega
   subst this; go_wp2; go_ret; refine ⟨?_, BW.out⟩; rw [pxIdx_miss p l0 z94 A.out]; rfl
set_option maxHeartbeats 8000000 in
set_option maxRecDepth 100000 in
theorem impl_pairAt.pred115 (a1 : ByteArray) (B : Nat) (w : World) (hc : w.cell? ⟨B, 0, none⟩ = some (.string a1)) :
  PxPred Try.prog 115 #[.pointer (some ⟨B, 0, none⟩)] (fun x : S94 => .agg #[.string x.f0, .int .i64 x.f1]) (fun x : S94 => x.f0.toList == a1.toList) w := by
 intro W x hb; have hc' := px_cell hb hc; have hB' : B < W.heap.size := World.block_lt_of_cell? W _ hc'; clear hc
 show Calls Try.prog 115 #[.agg #[.string x.f0, .int .i64 x.f1], .pointer (some ⟨B, 0, none⟩)] W _
 have hu94 := Try.underlying94; go_enter Try.func115, Try.ntmps115; go_wp2; go_ret; exact ⟨rfl, px_alloc _ _⟩
/-! ### impl_pairAt: function 63 (a contract of our own) -/
def impl_pairAt.f (l0 : List (S94)) (a1 : ByteArray) : Option (Int) := some (pxIdx (fun x : S94 => x.f0.toList == a1.toList) l0)
set_option maxHeartbeats 8000000 in
set_option maxRecDepth 100000 in
theorem impl_pairAt.calls (A0 : Option Addr) (c0 : Nat) (l0 : List (S94)) (a1 : ByteArray) (r : Int) (w : World) (hr0 : Kd.C k94 w A0 l0.length l0) (hc0 : l0.length ≤ c0) (h : impl_pairAt.f l0 a1 = some r) :
  Calls Try.prog 63 #[.slice A0 l0.length c0, .string a1] w fun e w' => e = .returned (.int .i64 r) ∧ Below w.heap.size w w' := by
 have HR := Aside0.mk hr0; clear hr0; obtain rfl := Option.some.inj h; clear h; have eg := px_enters Try.func115 (by kernel_rfl) rfl; go_enter Try.func63, Try.ntmps63; go_wp2_with fail; refine (ix114.calls (fun x : S94 => x.f0.toList == a1.toList) 115 _ eg A0 c0 l0 _ (impl_pairAt.pred115 a1 w.heap.size _ ?_) ?_).mono ?_
 ·go_simp
 ·exact Kd.C_below HR.out (px_alloc _ _)
 rintro e w' ⟨rfl, hb'⟩; go_wp2; go_ret; exact ⟨rfl, below_then (px_alloc _ _) (by simp) hb'⟩

end Go.Proofs.Ytkandhljbbolnaa.Q

namespace Go.Proofs.Ytkandhljbbolnaa.Q
open Go.RowKit Go.Proofs.YtkandhljbbolnaaL.PrintWords Go.Proofs.YtkandhljbbolnaaL.PrintLast Go.Proofs.YtkandhljbbolnaaL.PrintMore
attribute [local go_sem] max2_int min2_int max_two min_two max_three min_three max_four min_four   -- for this text's walks alone
set_option linter.unusedVariables false
set_option linter.unusedSimpArgs false

/-! ### slices.IndexFunc at int: function 145 -/
set_option maxHeartbeats 8000000 in
set_option maxRecDepth 100000 in
theorem ix145.calls (p : Int → Bool) (g : Nat) (lb : Array Value) (eg : ∀ args w, (callFunc g args).run Try.prog w = .ok (.enter g args) w) (A0 : Option Addr) (c0 : Nat) (l0 : List (Int)) (w : World)
  (hp : PxPred Try.prog g lb (fun x : Int => .int .i64 x) p w) (hr0 : Kd.C (Kd.int .i64) w A0 l0.length l0) :
  Calls Try.prog 145 #[.slice A0 l0.length c0, .func (.func g) #[] lb] w fun e w' => e = .returned (.int .i64 (pxIdx p l0)) ∧ Below w.heap.size w w' := by
 have HR := Aside0.mk hr0; clear hr0; have hbig : l0.length ≤ 9223372036854775807 := HR.out.2.1; go_enter Try.func145, Try.ntmps145; go_wp2; go_loopg [5, 8] l0.length (fun gg _ s8 wr => ∃ kk : Nat, kk ≤ l0.length ∧ l0.length - kk ≤ gg ∧ s8 = .int .i64 kk ∧ Aside0 (Below w.heap.size w wr) ∧ Aside0 (∀ j, j < kk → p (l0.getD j 0) = false))
 case atStart => exact ⟨0, Nat.zero_le _, by omega, rfl, ⟨Below.refl _ w⟩, ⟨fun j hj => absurd hj (Nat.not_lt_zero _)⟩⟩
 case round =>
  obtain ⟨kk, hkk, hg, rfl, BW, A⟩ := hrel
  by_cases hlt : kk < l0.length
  ·have hltz : (kk : Int) < (l0.length : Int) := by omega
   have hz0 : (0 : Int) ≤ (kk : Int) := by omega
   obtain ⟨ad, e, hx0⟩ := Kd.at_int (Kd.C_below HR.out BW.out) (kk : Int) hz0 hltz; simp only [Int.toNat_natCast] at hx0
   cases e
   have hcall := hp wr (rd l0 (kk : Int)) BW.out; clear hp; have B := Aside0.mk (show rd l0 (kk : Int) = l0.getD kk 0 from rfl); generalize hy : rd l0 (kk : Int) = y at hx0 hcall B; clear hy
   cases hq : p y with
   | true =>
    rw [hq] at hcall; go_wp2_with fail; refine hcall.mono ?_; rintro e w' ⟨rfl, hb'⟩; clear hcall; go_wp2; go_ret; refine ⟨?_, below_then BW.out BW.out.size hb'⟩; rw [pxIdx_hit p l0 0 kk hlt (by rw [← B.out]; exact hq) A.out]; rfl
   | false =>
    rw [hq] at hcall; go_wp2_with fail; refine hcall.mono ?_; rintro e w' ⟨rfl, hb'⟩; clear hcall; go_wp2; go_roundg (l0.length - (kk + 1))
    case measure => omega
    case rel =>
     refine ⟨kk + 1, by omega, by omega, by go_num, ⟨below_then BW.out BW.out.size hb'⟩, ⟨fun j hj => ?_⟩⟩
     by_cases e : j = kk
     ·subst e; rw [← B.out]; exact hq
     ·exact A.out j (by omega)
  ·have hltz : ¬ (kk : Int) < (l0.length : Int) := by omega
   have : kk = l0.length := by omega
   subst this; go_wp2; go_ret; refine ⟨?_, BW.out⟩; rw [pxIdx_miss p l0 0 A.out]; rfl
/-! ### slices.ContainsFunc at int: function 116 -/
set_option maxHeartbeats 8000000 in
set_option maxRecDepth 100000 in
theorem cf116.calls (p : Int → Bool) (g : Nat) (lb : Array Value) (eg : ∀ args w, (callFunc g args).run Try.prog w = .ok (.enter g args) w) (A0 : Option Addr) (c0 : Nat) (l0 : List (Int)) (w : World)
  (hp : PxPred Try.prog g lb (fun x : Int => .int .i64 x) p w) (hr0 : Kd.C (Kd.int .i64) w A0 l0.length l0) :
  Calls Try.prog 116 #[.slice A0 l0.length c0, .func (.func g) #[] lb] w fun e w' => e = .returned (.bool (l0.any p)) ∧ Below w.heap.size w w' := by
 rw [← pxIdx_any p l0]; go_enter Try.func116, Try.ntmps116; go_wp2_with fail; refine (ix145.calls p g lb eg A0 c0 l0 w hp hr0).mono ?_; rintro e w' ⟨rfl, hb'⟩; clear hp hr0; go_wp2; go_ret; exact ⟨by first | rfl | simp, hb'⟩
theorem impl_isValue.eq (x : Int) : impl_isValue.f x = some (decide (-99 ≤ x) && decide (x ≤ 99)) := by
 unfold impl_isValue.f impl_in.f
 by_cases h : x ≥ -99
 ·have h' : -99 ≤ x := h; simp [h, h']
 ·have h' : ¬ -99 ≤ x := h; simp [h, h']
set_option maxHeartbeats 8000000 in
set_option maxRecDepth 100000 in
theorem impl_areValues.pred117 (w : World) :
  PxPred Try.prog 117 #[] (fun x : Int => .int .i64 x) (fun x : Int => !(decide (-99 ≤ x) && decide (x ≤ 99))) w := by
 intro W x hb
 show Calls Try.prog 117 #[.int .i64 x] W _
 have HV := Aside0.mk (impl_isValue.eq x)
 cases hq : (decide (-99 ≤ x) && decide (x ≤ 99)) <;> (
  have HQ := Aside0.mk hq; clear hq; go_enter Try.func117, Try.ntmps117; go_wp2_with fail; refine (impl_isValue.calls _ _ _ HV.out).mono ?_; rintro e w' ⟨rfl, hd⟩; have hb := hd.below; clear hd; rw [HQ.out]; go_wp2; go_ret
  exact ⟨by first | rfl | (rw [HQ.out]; rfl), hb⟩)
/-! ### impl_areValues: function 64 (a contract of our own) -/
def impl_areValues.f (l0 : List Int) : Option (Bool) := some (!l0.any (fun x : Int => !(decide (-99 ≤ x) && decide (x ≤ 99))))
set_option maxHeartbeats 8000000 in
set_option maxRecDepth 100000 in
theorem impl_areValues.calls (A0 : Option Addr) (c0 : Nat) (l0 : List Int) (r : Bool) (w : World) (hr0 : Kd.C (Kd.int .i64) w A0 l0.length l0) (hc0 : l0.length ≤ c0) (h : impl_areValues.f l0 = some r) :
  Calls Try.prog 64 #[.slice A0 l0.length c0] w fun e w' => e = .returned (.bool r) ∧ Below w.heap.size w w' := by
 have HR := Aside0.mk hr0; clear hr0; obtain rfl := Option.some.inj h; clear h; have eg := px_enters Try.func117 (by kernel_rfl) rfl
 cases hq : l0.any (fun x : Int => !(decide (-99 ≤ x) && decide (x ≤ 99))) <;> (
  have HQ := Aside0.mk hq; clear hq; go_enter Try.func64, Try.ntmps64; go_wp2_with fail; refine (cf116.calls (fun x : Int => !(decide (-99 ≤ x) && decide (x ≤ 99))) 117 _ eg A0 c0 l0 _ (impl_areValues.pred117 _) HR.out).mono ?_; rintro e w' ⟨rfl, hb'⟩; rw [HQ.out]; go_wp2; go_ret
  exact ⟨rfl, hb'⟩)

end Go.Proofs.Ytkandhljbbolnaa.Q

namespace Go.Proofs.Ytkandhljbbolnaa.Q
open Go.RowKit Go.Proofs.YtkandhljbbolnaaL.PrintWords Go.Proofs.YtkandhljbbolnaaL.PrintLast Go.Proofs.YtkandhljbbolnaaL.PrintMore
attribute [local go_sem] max2_int min2_int max_two min_two max_three min_three max_four min_four   -- for this text's walks alone
set_option linter.unusedVariables false
set_option linter.unusedSimpArgs false

/-! ### impl_ValidFlat: function 18 -/
def impl_ValidFlat.l0 : Nat → List (S94) → Int → Int → List Int → List (S94) → Option (Bool)
 | 0, _, _, _, _, _ => none
 | k + 1, x6, x7, x8, x157000, x157001 => if x8 < x7 then (if 0 ≤ x8 then (if x8 < (x6.length : Int) then ((impl_Pair_valid.f k ((rd_T94 x6 x8).f0) ((rd_T94 x6 x8).f1)).bind fun t160 => (if t160 = true then (if x8 ≤ (x157001.length : Int) then ((impl_pairAt.f (x157001.take (x8 : Int).toNat) ((rd_T94 x6 x8).f0)).bind fun t165 => (if t165 ≥ 0 then (some false) else (impl_ValidFlat.l0 k x6 x7 (wrap64 (x8 + 1)) x157000 x157001))) else (none)) else (some false))) else (none)) else (none)) else (if (x157000.length : Int) ≤ 8 then (if (x157001.length : Int) ≤ 8 then ((impl_areValues.f x157000).bind fun t157 => (some t157)) else (some false)) else (some false))
def impl_ValidFlat.f (k : Nat) (l0_0 : List Int) (l0_1 : List (S94)) : Option (Bool) := impl_ValidFlat.l0 k l0_1 (l0_1.length : Int) 0 l0_0 l0_1
theorem impl_ValidFlat.mono_l : ∀ k, (∀ y0 y1 y2 y3 y4, LeO (impl_ValidFlat.l0 k y0 y1 y2 y3 y4) (impl_ValidFlat.l0 (k + 1) y0 y1 y2 y3 y4))
 | 0 => fun _ _ _ _ _ r h => by simp [impl_ValidFlat.l0] at h
 | k + 1 => by
  have ih0 := impl_ValidFlat.mono_l k
  ·intro y0 y1 y2 y3 y4; unfold impl_ValidFlat.l0
   repeat' first
   | (with_reducible exact ih0 _ _ _ _ _)
   | (with_reducible exact impl_Pair_valid.mono _ _ _)
   | (with_reducible exact LeO.refl _)
   | (with_reducible exact LeO.none _)
   | (with_reducible refine LeO.ite ?_ ?_)
   | (with_reducible refine LeO.bind ?_ (fun _ => ?_))
   | exact ih0 _ _ _ _ _
   | exact impl_Pair_valid.mono _ _ _
   | exact LeO.none _
   | refine LeO.ite ?_ ?_
   | refine LeO.bind ?_ (fun _ => ?_)
theorem impl_ValidFlat.mono : ∀ a0 a1 k, LeO (impl_ValidFlat.f k a0 a1) (impl_ValidFlat.f (k + 1) a0 a1) := by
 intro a0 a1 k; have ih0 := impl_ValidFlat.mono_l k; unfold impl_ValidFlat.f
 repeat' first
   | (with_reducible exact ih0 _ _ _ _ _)
   | (with_reducible exact impl_Pair_valid.mono _ _ _)
   | (with_reducible exact LeO.refl _)
   | (with_reducible exact LeO.none _)
   | (with_reducible refine LeO.ite ?_ ?_)
   | (with_reducible refine LeO.bind ?_ (fun _ => ?_))
   | exact ih0 _ _ _ _ _
   | exact impl_Pair_valid.mono _ _ _
   | exact LeO.none _
   | refine LeO.ite ?_ ?_
   | refine LeO.bind ?_ (fun _ => ?_)
def impl_ValidFlat.T4 : Bool × List (List Nat × List Nat) := (true, [([], []), ([0], [0]), ([1], [1]), ([2, 1], [2]), ([3], [3]), ([4, 3], [3, 4]), ([3], [3]), ([5, 6, 3], [3, 5, 6]), ([3], [3]), ([8, 3], [3, 8]), ([7, 9, 3, 3], [3, 7, 9]), ([10, 3], [3, 10]), ([3, 11], [3, 11])])
def impl_ValidFlat.B4 : List Nat := [0, 1, 3, 7, 15, 31, 15, 127, 15, 271, 1023, 2047, 4095]
theorem impl_ValidFlat.tab4 : rtab .any (opsOf Try.f18 4) = impl_ValidFlat.T4 := by kernel_rfl
theorem impl_ValidFlat.bits4 : waitsOk impl_ValidFlat.T4.2 impl_ValidFlat.B4 = true := by kernel_rfl
set_option maxHeartbeats 8000000 in
set_option maxRecDepth 100000 in
theorem impl_ValidFlat.calls (k : Nat) (A0_0 : Option Addr) (c0_0 : Nat) (l0_0 : List Int) (A0_1 : Option Addr) (c0_1 : Nat) (l0_1 : List (S94)) (r : Bool) (w : World) (hr0_0 : Kd.C (Kd.int .i64) w A0_0 l0_0.length l0_0) (hc0_0 : l0_0.length ≤ c0_0) (hr0_1 : Kd.C k94 w A0_1 l0_1.length l0_1) (hc0_1 : l0_1.length ≤ c0_1) (h : impl_ValidFlat.f k l0_0 l0_1 = some r) :
  Calls Try.prog 18 #[.agg #[.slice A0_0 l0_0.length c0_0, .slice A0_1 l0_1.length c0_1]] w fun e w' => e = .returned (.bool r) ∧ Below w.heap.size w w' := by
 have hu30 := Try.underlying30; have hu94 := Try.underlying94; have HR0_0 := Aside0.mk hr0_0; have HC0_0 := Aside0.mk hc0_0; clear hr0_0 hc0_0; have HR0_1 := Aside0.mk hr0_1; have HC0_1 := Aside0.mk hc0_1; clear hr0_1 hc0_1; have HB := Aside0.mk (Below.refl w.heap.size w); have H : (impl_ValidFlat.l0 k l0_1 (l0_1.length : Int) 0 l0_0 l0_1) = some r := h; clear h; have H' := Aside0.mk H; clear H; go_enter Try.func18, Try.ntmps18; go_wp2_with (first | ((with_reducible refine gate_dst (N := 1) rfl ?_); refine zx (N := 1) (cs := #[.slice A0_0 l0_0.length c0_0, .slice A0_1 l0_1.length c0_1]) (t := 30) ?_; intro gb156 hg w2 hbox hb; have BK156 := Aside0.mk (hbox); have GW156 := Aside0.mk ((by rw [hg]; exact (below_size (zB HB)) : w.heap.size ≤ gb156)); have GE156 := GW156; replace HB := Aside0.mk (below_step (zB HB) hb); clear hb hbox hg; have hcz3_0 : w2.cell? ⟨gb156, 0, none⟩ = some (.slice A0_0 l0_0.length c0_0) := (blk_cell BK156.out 0).trans rfl; have hcz3_1 : w2.cell? ⟨gb156, 1, none⟩ = some (.slice A0_1 l0_1.length c0_1) := (blk_cell BK156.out 1).trans rfl; have hfz3_0 := blk_frozen BK156.out 0; have hfz3_1 := blk_frozen BK156.out 1)); go_loopg [8] k (fun kq v8 w' => ∃ (x8_1 : Int), v8 = .int .i64 x8_1 ∧ Aside0 (impl_ValidFlat.l0 kq l0_1 (l0_1.length : Int) x8_1 l0_0 l0_1 = some r) ∧ Aside0 (kq ≤ k) ∧ Aside0 (w'.heap[gb156]? = some (.cells #[(.slice A0_0 l0_0.length c0_0), (.slice A0_1 l0_1.length c0_1)] 30 (0, 0))) ∧ Aside0 (Below w.heap.size w w'))
 case atStart => exact ⟨(0), zr, H', ⟨Nat.le_refl _⟩, ⟨zb BK156⟩, ⟨zB HB⟩⟩
 case round =>
  clear H'; (try clear c1); (try clear p2); (try clear hcz3_0); (try clear hcz3_1); (try clear hfz3_0); (try clear hfz3_1); obtain ⟨x8_1, rfl, HA, HK1, BK156, HB⟩ := hrel
  cases gk with
  | zero => exact absurd HA.out (by simp [impl_ValidFlat.l0])
  | succ k1 =>
   have H := HA.out; clear HA; simp only [impl_ValidFlat.l0] at H
   by_cases c4 : x8_1 < (l0_1.length : Int)
   ·rw [if_pos c4] at H; have c4b0 : decide (x8_1 < (l0_1.length : Int)) = true := decide_eq_true c4; clear c4
    by_cases c5 : 0 ≤ x8_1
    ·rw [if_pos c5] at H; have c5b0 : decide (0 ≤ x8_1) = true := decide_eq_true c5; clear c5
     by_cases c6 : x8_1 < (l0_1.length : Int)
     ·rw [if_pos c6] at H; have c6b0 : decide (x8_1 < (l0_1.length : Int)) = true := decide_eq_true c6; clear c6; replace H := Option.bind_eq_some_iff.mp H; obtain ⟨t160, A70, H⟩ := H
      (try dsimp only at H)
      have A7 := Aside0.mk A70; clear A70
      by_cases c8 : t160 = true
      ·subst c8; rw [if_pos rfl] at H; have c9b0 := eq_true (of_decide_eq_true za : 0 ≤ x8_1)
       by_cases c10 : x8_1 ≤ (l0_1.length : Int)
       ·rw [if_pos c10] at H; have c10b0 := eq_true c10; have c10b1 : decide (x8_1 ≤ (l0_1.length : Int)) = true := decide_eq_true c10; clear c10; obtain ⟨y161, hy161⟩ : ∃ y_ : List (S94), y_ = (l0_1.take (x8_1 : Int).toNat) := ⟨_, rfl⟩
        replace H : ((impl_pairAt.f y161 ((rd_T94 l0_1 x8_1).f0)).bind fun t165 => (if t165 ≥ 0 then (some false) else (impl_ValidFlat.l0 k1 l0_1 (l0_1.length : Int) (wrap64 (x8_1 + 1)) l0_0 l0_1))) = some r := by first | (rw [hy161]; with_reducible exact H) | (have H2_ := (Option.bind_some _ _).symm.trans H; rw [hy161]; with_reducible exact H2_) | (have H2_ := (Option.bind_some _ _).symm.trans H; with_reducible exact H2_) | with_reducible exact H | (rw [hy161]; exact H) | exact H
        have Ny161 := Aside0.mk hy161; clear hy161; replace H := Option.bind_eq_some_iff.mp H; obtain ⟨t165, A110, H⟩ := H
        (try dsimp only at H)
        have A11 := Aside0.mk A110; clear A110
        by_cases c12 : t165 ≥ 0
        ·rw [if_pos c12] at H; have c12b0 : decide (0 ≤ t165) = true := decide_eq_true c12; clear c12; obtain rfl := Option.some.inj H; have p158 : 0 ≤ (x8_1 : Int) := of_decide_eq_true za; have q158 : x8_1 < (l0_1.length : Int) := of_decide_eq_true za; obtain ⟨ad158, e158, hx158_0, hx158_1⟩ := at_T94 HR0_1.out x8_1 p158 q158
         cases e158
         replace hx158_0 := (HB.out.cell (World.block_lt_of_cell? w _ hx158_0)).trans hx158_0; replace hx158_1 := (HB.out.cell (World.block_lt_of_cell? w _ hx158_1)).trans hx158_1; replace p158 := eq_true p158; replace q158 := eq_true q158
         try go_wp2_with (first | ((with_reducible refine gate_dst (N := 4) rfl ?_); refine zx (N := 4) (cs := #[.string (⟨#[]⟩ : ByteArray), .int .i64 0]) (t := 94) ?_; intro gb159 hg w13 hbox hb; have BK159 := Aside0.mk (hbox); have GW159 := Aside0.mk ((by rw [hg]; exact (below_size (zB HB)) : w.heap.size ≤ gb159)); have GE159 := GW159; replace HB := Aside0.mk (below_step (zB HB) hb); have NB156_159 := Aside0.mk ((by rw [hg]; exact Nat.ne_of_lt (blk_lt (g := gb156) (o := .cells #[.slice A0_0 l0_0.length c0_0, .slice (some ad158) l0_1.length c0_1] 30 (0, 0)) (zb BK156)) : gb156 ≠ gb159)); have NB159_156 := Aside0.mk NB156_159.out.symm; replace BK156 := Aside0.mk (blk_below (g := gb156) (o := .cells #[.slice A0_0 l0_0.length c0_0, .slice (some ad158) l0_1.length c0_1] 30 (0, 0)) (zb BK156) hb); clear hb hbox hg; have hnb14 := NB159_156.out; have hnc14 := NB156_159.out; have hcz15_0 : w13.cell? ⟨gb159, 0, none⟩ = some (.string (⟨#[]⟩ : ByteArray)) := (blk_cell BK159.out 0).trans rfl; have hcz15_1 : w13.cell? ⟨gb159, 1, none⟩ = some (.int .i64 0) := (blk_cell BK159.out 1).trans rfl; have hfz15_0 := blk_frozen BK159.out 0; have hfz15_1 := blk_frozen BK159.out 1))
         have n0_ : Aside0 (((w13.setCell ⟨gb159, 0, none⟩ (.string ((rd_T94 l0_1 x8_1).f0))).setCell ⟨gb159, 1, none⟩ (.int .i64 ((rd_T94 l0_1 x8_1).f1))).heap[gb156]? = some (.cells #[.slice A0_0 l0_0.length c0_0, .slice (some ad158) l0_1.length c0_1] 30 (0, 0))) := ⟨zf BK156⟩
         have n1_ : Aside0 (((w13.setCell ⟨gb159, 0, none⟩ (.string ((rd_T94 l0_1 x8_1).f0))).setCell ⟨gb159, 1, none⟩ (.int .i64 ((rd_T94 l0_1 x8_1).f1))).heap[gb159]? = some (.cells #[.string ((rd_T94 l0_1 x8_1).f0), .int .i64 ((rd_T94 l0_1 x8_1).f1)] 94 (0, 0))) := ⟨by (with_reducible repeat (first | refine blk_drewN ?_ _ | refine blk_drew ?_ | refine blk_alloc ?_ _)); refine blk_put (cs := #[.string ((rd_T94 l0_1 x8_1).f0), .int .i64 0]) ?_ 1 _ rfl; (with_reducible repeat (first | refine blk_drewN ?_ _ | refine blk_drew ?_ | refine blk_alloc ?_ _)); refine blk_put (cs := #[.string (⟨#[]⟩ : ByteArray), .int .i64 0]) ?_ 0 _ rfl; (with_reducible repeat (first | refine blk_drewN ?_ _ | refine blk_drew ?_ | refine blk_alloc ?_ _)); exact BK159.out⟩
         have n2_ : Aside0 (Below w.heap.size w ((w13.setCell ⟨gb159, 0, none⟩ (.string ((rd_T94 l0_1 x8_1).f0))).setCell ⟨gb159, 1, none⟩ (.int .i64 ((rd_T94 l0_1 x8_1).f1)))) := ⟨zB HB⟩
         (try clear BK156); (try clear BK159); (try clear HB); generalize ((w13.setCell ⟨gb159, 0, none⟩ (.string ((rd_T94 l0_1 x8_1).f0))).setCell ⟨gb159, 1, none⟩ (.int .i64 ((rd_T94 l0_1 x8_1).f1))) = w16 at n0_ n1_ n2_ ⊢; have BK156 := n0_; have BK159 := n1_; have HB := n2_; clear n0_ n1_ n2_; replace BK156 := Aside0.mk (blk_drew BK156.out); replace BK159 := Aside0.mk (blk_drew BK159.out); replace HB := Aside0.mk (below_drew1 HB.out); refine start_ (n := 13) (S := fun w' => w'.cell? ⟨gb159, 0, none⟩ = some (.string ((rd_T94 l0_1 x8_1).f0)) ∧ w'.cell? ⟨gb159, 1, none⟩ = some (.int .i64 ((rd_T94 l0_1 x8_1).f1)) ∧ w'.cell? ⟨gb156, 0, none⟩ = some (.slice A0_0 l0_0.length c0_0) ∧ w'.cell? ⟨gb156, 1, none⟩ = some (.slice (some ad158) l0_1.length c0_1)) (ds := []) #[false, false, false, false, false, false, false, false, false, false, false, false, false] (by kernel_rfl) rfl rfl ⟨(blk_cell BK159.out 0).trans rfl, (blk_cell BK159.out 1).trans rfl, (blk_cell BK156.out 0).trans rfl, (blk_cell BK156.out 1).trans rfl⟩ (fun hHeld => ?_); refine with_tabW impl_ValidFlat.tab4 impl_ValidFlat.bits4 (fun HT_ HW_ => ?_); generalize w16.drew = w17 at BK156 BK159 HB hHeld ⊢; refine take_ (i := 0) (N := some 13) (v := ?_) (a' := ?_) #[true, false, false, false, false, false, false, false, false, false, false, false, false] rfl rfl (take_ofW HT_.out HW_.out (by kernel_rfl)) (fun _ _ _ h => h) (Or.inl ⟨by rfl, ?_⟩) hHeld ?_ ?_; rotate_left
         ·rintro w' ⟨s0, s1, s2, s3⟩; go_simp; with_reducible rfl
         rotate_left
         ·simp only [Act.put, List.setIfInBounds_toArray, List.set_cons_zero, List.set_cons_succ, i64_w, i32_w]; rfl
         refine one_ (i := 1) (N := some 14) #[true, true, false, false, false, false, false, false, false, false, false, false, false] rfl rfl (one_of HT_.out (by kernel_rfl)) (by decide) (fun K hK => ?_); refine goes_ Try.func62 (by kernel_rfl) rfl #[.agg #[.string ((rd_T94 l0_1 x8_1).f0), .int .i64 ((rd_T94 l0_1 x8_1).f1)]] (by rfl) rfl rfl zl ?_; with_reducible refine (impl_Pair_valid.calls k1 ((rd_T94 l0_1 x8_1).f0) ((rd_T94 l0_1 x8_1).f1) true _ A7.out).mono ?_; rintro e w18 ⟨rfl, hb⟩; refine ⟨_, rfl, ?_⟩; replace BK156 := Aside0.mk (blk_below (g := gb156) (o := .cells #[.slice A0_0 l0_0.length c0_0, .slice (some ad158) l0_1.length c0_1] 30 (0, 0)) (zb BK156) hb); replace BK159 := Aside0.mk (blk_below (g := gb159) (o := .cells #[.string ((rd_T94 l0_1 x8_1).f0), .int .i64 ((rd_T94 l0_1 x8_1).f1)] 94 (0, 0)) (zb BK159) hb); replace HB := Aside0.mk (below_step (zB HB) hb); (try clear hb); (try clear hb2); (try clear hk); (try clear hi); have q19 : (x8_1 : Int) ≤ ((l0_1.length : Int) : Int) := of_decide_eq_true za; obtain ⟨i019, hi019, _, hsz19, _⟩ := info_parts info94; have hroom19 : l0_1.length ≤ c0_1 := HC0_1.out; have hC19 : Kd.C k94 _ (some ad158) l0_1.length l0_1 := HR0_1.out; have hcut19 := cut_to (P := Try.prog) 28 94 .i64 Try.underlying28 hi019 (some ad158) l0_1.length c0_1 x8_1 (of_decide_eq_true za) q19 hroom19; have hr19 := Kd.C_take (m := (x8_1 : Int).toNat) hC19 (by omega); have hy19 : y161.length = (x8_1 : Int).toNat := (by rw [Ny161.out, List.length_take]; omega)
         rw [← Ny161.out] at hr19; rw [← hy19] at hcut19; have HR164 := Aside0.mk hr19; have HC164 := Aside0.mk (show y161.length ≤ c0_1 from by omega); clear hr19 hC19 hroom19 hi019 hsz19; have KY19 := Aside0.mk hy19; clear hy19; replace q19 := eq_true q19; refine hK.out _ _ ⟨(blk_cell BK159.out 0).trans rfl, (blk_cell BK159.out 1).trans rfl, (blk_cell BK156.out 0).trans rfl, (blk_cell BK156.out 1).trans rfl⟩ (fun hHeld => ?_); clear hK K; refine norm_ (a' := ?_) ?_ ?_; rotate_left
         ·show Act.put _ (some 14) _ = _
          simp only [Act.put, List.setIfInBounds_toArray, List.set_cons_zero, List.set_cons_succ, i64_w, i32_w]; rfl
         refine pure_ (i := 2) (N := some 15) (v := ?_) (a' := ?_) #[true, true, true, false, false, false, false, false, false, false, false, false, false] rfl rfl (any_of HT_.out (by kernel_rfl)) (fun _ _ _ h => h) (Or.inl ⟨by rfl, ?_⟩) ?_ ?_; rotate_left
         ·intro w'; go_simp; with_reducible rfl
         rotate_left
         ·simp only [Act.put, List.setIfInBounds_toArray, List.set_cons_zero, List.set_cons_succ, i64_w, i32_w]; rfl
         refine pure_ (i := 3) (N := some 16) (v := ?_) (a' := ?_) #[true, true, true, true, false, false, false, false, false, false, false, false, false] rfl rfl (any_of HT_.out (by kernel_rfl)) (fun _ _ _ h => h) (Or.inl ⟨by rfl, ?_⟩) ?_ ?_; rotate_left
         ·intro w'; go_simp; with_reducible rfl
         rotate_left
         ·simp only [Act.put, List.setIfInBounds_toArray, List.set_cons_zero, List.set_cons_succ, i64_w, i32_w]; rfl
         refine pure_ (i := 4) (N := some 17) (v := ?_) (a' := ?_) #[true, true, true, true, true, false, false, false, false, false, false, false, false] rfl rfl (any_of HT_.out (by kernel_rfl)) (fun _ _ _ h => h) (Or.inl ⟨by rfl, ?_⟩) ?_ ?_; rotate_left
         ·intro w'; go_simp; with_reducible rfl
         rotate_left
         ·simp only [Act.put, List.setIfInBounds_toArray, List.set_cons_zero, List.set_cons_succ, i64_w, i32_w]; rfl
         refine pure_ (i := 6) (N := some 19) (v := ?_) (a' := ?_) #[true, true, true, true, true, false, true, false, false, false, false, false, false] rfl rfl (any_of HT_.out (by kernel_rfl)) (fun _ _ _ h => h) (Or.inl ⟨by rfl, ?_⟩) ?_ ?_; rotate_left
         ·intro w'; go_simp; with_reducible rfl
         rotate_left
         ·simp only [Act.put, List.setIfInBounds_toArray, List.set_cons_zero, List.set_cons_succ, i64_w, i32_w]; rfl
         refine pure_ (i := 8) (N := some 21) (v := ?_) (a' := ?_) #[true, true, true, true, true, false, true, false, true, false, false, false, false] rfl rfl (any_of HT_.out (by kernel_rfl)) (fun _ _ _ h => h) (Or.inl ⟨by rfl, ?_⟩) ?_ ?_; rotate_left
         ·intro w'; go_simp; with_reducible rfl
         rotate_left
         ·simp only [Act.put, List.setIfInBounds_toArray, List.set_cons_zero, List.set_cons_succ, i64_w, i32_w]; rfl
         refine take_ (i := 5) (N := some 18) (v := ?_) (a' := ?_) #[true, true, true, true, true, true, true, false, true, false, false, false, false] rfl rfl (take_ofW HT_.out HW_.out (by kernel_rfl)) (fun _ _ _ h => h) (Or.inl ⟨by rfl, ?_⟩) hHeld ?_ ?_; rotate_left
         ·rintro w' ⟨s0, s1, s2, s3⟩; go_simp; with_reducible rfl
         rotate_left
         ·simp only [Act.put, List.setIfInBounds_toArray, List.set_cons_zero, List.set_cons_succ, i64_w, i32_w]; rfl
         refine pure_ (i := 7) (N := some 20) (v := ?_) (a' := ?_) #[true, true, true, true, true, true, true, true, true, false, false, false, false] rfl rfl (any_of HT_.out (by kernel_rfl)) (fun _ _ _ h => h) (Or.inl ⟨by rfl, ?_⟩) ?_ ?_; rotate_left
         ·intro w'; go_simp; with_reducible rfl
         rotate_left
         ·simp only [Act.put, List.setIfInBounds_toArray, List.set_cons_zero, List.set_cons_succ, i64_w, i32_w]; rfl
         refine take_ (i := 9) (N := some 22) (v := ?_) (a' := ?_) #[true, true, true, true, true, true, true, true, true, true, false, false, false] rfl rfl (take_ofW HT_.out HW_.out (by kernel_rfl)) (fun _ _ _ h => h) (Or.inl ⟨by rfl, ?_⟩) hHeld ?_ ?_; rotate_left
         ·rintro w' ⟨s0, s1, s2, s3⟩; go_simp; with_reducible rfl
         rotate_left
         ·simp only [Act.put, List.setIfInBounds_toArray, List.set_cons_zero, List.set_cons_succ, i64_w, i32_w]; rfl
         refine one_ (i := 10) (N := some 23) #[true, true, true, true, true, true, true, true, true, true, true, false, false] rfl rfl (one_of HT_.out (by kernel_rfl)) (by decide) (fun K hK => ?_); refine goes_ Try.func63 (by kernel_rfl) rfl #[.slice (some ad158) y161.length c0_1, .string ((rd_T94 l0_1 x8_1).f0)] (by rfl) rfl rfl zl ?_; with_reducible refine (impl_pairAt.calls _ _ y161 ((rd_T94 l0_1 x8_1).f0) t165 _ ?side1 ?side2 A11.out).mono ?_
         (case side1 => repeat (first | exact (Kd.C_below HR164.out HB.out) | (with_reducible refine Kd.C_alloc ?_ _) | (with_reducible refine Kd.C_drewN ?_ _) | (with_reducible refine Kd.C_drew ?_)))
         (case side2 => exact HC164.out)
         rintro e w20 ⟨rfl, hb⟩; refine ⟨_, rfl, ?_⟩; replace BK156 := Aside0.mk (blk_below (g := gb156) (o := .cells #[.slice A0_0 l0_0.length c0_0, .slice (some ad158) l0_1.length c0_1] 30 (0, 0)) (zb BK156) hb); replace BK159 := Aside0.mk (blk_below (g := gb159) (o := .cells #[.string ((rd_T94 l0_1 x8_1).f0), .int .i64 ((rd_T94 l0_1 x8_1).f1)] 94 (0, 0)) (zb BK159) hb); replace HB := Aside0.mk (below_step (zB HB) hb); (try clear hb); (try clear hb2); (try clear hk); (try clear hi); refine hK.out _ _ ⟨(blk_cell BK159.out 0).trans rfl, (blk_cell BK159.out 1).trans rfl, (blk_cell BK156.out 0).trans rfl, (blk_cell BK156.out 1).trans rfl⟩ (fun hHeld => ?_); clear hK K; refine norm_ (a' := ?_) ?_ ?_; rotate_left
         ·show Act.put _ (some 23) _ = _
          simp only [Act.put, List.setIfInBounds_toArray, List.set_cons_zero, List.set_cons_succ, i64_w, i32_w]; rfl
         refine pure_ (i := 11) (N := some 24) (v := ?_) (a' := ?_) #[true, true, true, true, true, true, true, true, true, true, true, true, false] rfl rfl (any_of HT_.out (by kernel_rfl)) (fun _ _ _ h => h) (Or.inl ⟨by rfl, ?_⟩) ?_ ?_; rotate_left
         ·intro w'; go_simp; with_reducible rfl
         rotate_left
         ·simp only [Act.put, List.setIfInBounds_toArray, List.set_cons_zero, List.set_cons_succ, i64_w, i32_w]; rfl
         refine pure_ (i := 12) (N := some 25) (v := ?_) (a' := ?_) #[true, true, true, true, true, true, true, true, true, true, true, true, true] rfl rfl (any_of HT_.out (by kernel_rfl)) (fun _ _ _ h => h) (Or.inl ⟨by rfl, ?_⟩) ?_ ?_; rotate_left
         ·intro w'; go_simp; with_reducible rfl
         rotate_left
         ·simp only [Act.put, List.setIfInBounds_toArray, List.set_cons_zero, List.set_cons_succ, i64_w, i32_w]; rfl
         refine done_ (done_of HT_.out (by kernel_rfl)) ?_
         try go_wp2
         go_ret; exact ⟨by first | rfl | (simp [errW_none, errW_some] <;> rfl) | (simp [*, errW_none, errW_some] <;> rfl), zB HB⟩
        ·rw [if_neg c12] at H; have c12b0 : decide (0 ≤ t165) = false := decide_eq_false c12; clear c12; have H' := Aside0.mk H; clear H; have p158 : 0 ≤ (x8_1 : Int) := of_decide_eq_true za; have q158 : x8_1 < (l0_1.length : Int) := of_decide_eq_true za; obtain ⟨ad158, e158, hx158_0, hx158_1⟩ := at_T94 HR0_1.out x8_1 p158 q158
         cases e158
         replace hx158_0 := (HB.out.cell (World.block_lt_of_cell? w _ hx158_0)).trans hx158_0; replace hx158_1 := (HB.out.cell (World.block_lt_of_cell? w _ hx158_1)).trans hx158_1; replace p158 := eq_true p158; replace q158 := eq_true q158
         try go_wp2_with (first | ((with_reducible refine gate_dst (N := 4) rfl ?_); refine zx (N := 4) (cs := #[.string (⟨#[]⟩ : ByteArray), .int .i64 0]) (t := 94) ?_; intro gb159 hg w21 hbox hb; have BK159 := Aside0.mk (hbox); have GW159 := Aside0.mk ((by rw [hg]; exact (below_size (zB HB)) : w.heap.size ≤ gb159)); have GE159 := GW159; replace HB := Aside0.mk (below_step (zB HB) hb); have NB156_159 := Aside0.mk ((by rw [hg]; exact Nat.ne_of_lt (blk_lt (g := gb156) (o := .cells #[.slice A0_0 l0_0.length c0_0, .slice (some ad158) l0_1.length c0_1] 30 (0, 0)) (zb BK156)) : gb156 ≠ gb159)); have NB159_156 := Aside0.mk NB156_159.out.symm; replace BK156 := Aside0.mk (blk_below (g := gb156) (o := .cells #[.slice A0_0 l0_0.length c0_0, .slice (some ad158) l0_1.length c0_1] 30 (0, 0)) (zb BK156) hb); clear hb hbox hg; have hnb22 := NB159_156.out; have hnc22 := NB156_159.out; have hcz23_0 : w21.cell? ⟨gb159, 0, none⟩ = some (.string (⟨#[]⟩ : ByteArray)) := (blk_cell BK159.out 0).trans rfl; have hcz23_1 : w21.cell? ⟨gb159, 1, none⟩ = some (.int .i64 0) := (blk_cell BK159.out 1).trans rfl; have hfz23_0 := blk_frozen BK159.out 0; have hfz23_1 := blk_frozen BK159.out 1))
         have n0_ : Aside0 (((w21.setCell ⟨gb159, 0, none⟩ (.string ((rd_T94 l0_1 x8_1).f0))).setCell ⟨gb159, 1, none⟩ (.int .i64 ((rd_T94 l0_1 x8_1).f1))).heap[gb156]? = some (.cells #[.slice A0_0 l0_0.length c0_0, .slice (some ad158) l0_1.length c0_1] 30 (0, 0))) := ⟨zf BK156⟩
         have n1_ : Aside0 (((w21.setCell ⟨gb159, 0, none⟩ (.string ((rd_T94 l0_1 x8_1).f0))).setCell ⟨gb159, 1, none⟩ (.int .i64 ((rd_T94 l0_1 x8_1).f1))).heap[gb159]? = some (.cells #[.string ((rd_T94 l0_1 x8_1).f0), .int .i64 ((rd_T94 l0_1 x8_1).f1)] 94 (0, 0))) := ⟨by (with_reducible repeat (first | refine blk_drewN ?_ _ | refine blk_drew ?_ | refine blk_alloc ?_ _)); refine blk_put (cs := #[.string ((rd_T94 l0_1 x8_1).f0), .int .i64 0]) ?_ 1 _ rfl; (with_reducible repeat (first | refine blk_drewN ?_ _ | refine blk_drew ?_ | refine blk_alloc ?_ _)); refine blk_put (cs := #[.string (⟨#[]⟩ : ByteArray), .int .i64 0]) ?_ 0 _ rfl; (with_reducible repeat (first | refine blk_drewN ?_ _ | refine blk_drew ?_ | refine blk_alloc ?_ _)); exact BK159.out⟩
         have n2_ : Aside0 (Below w.heap.size w ((w21.setCell ⟨gb159, 0, none⟩ (.string ((rd_T94 l0_1 x8_1).f0))).setCell ⟨gb159, 1, none⟩ (.int .i64 ((rd_T94 l0_1 x8_1).f1)))) := ⟨zB HB⟩
         (try clear BK156); (try clear BK159); (try clear HB); generalize ((w21.setCell ⟨gb159, 0, none⟩ (.string ((rd_T94 l0_1 x8_1).f0))).setCell ⟨gb159, 1, none⟩ (.int .i64 ((rd_T94 l0_1 x8_1).f1))) = w24 at n0_ n1_ n2_ ⊢; have BK156 := n0_; have BK159 := n1_; have HB := n2_; clear n0_ n1_ n2_; replace BK156 := Aside0.mk (blk_drew BK156.out); replace BK159 := Aside0.mk (blk_drew BK159.out); replace HB := Aside0.mk (below_drew1 HB.out); refine start_ (n := 13) (S := fun w' => w'.cell? ⟨gb159, 0, none⟩ = some (.string ((rd_T94 l0_1 x8_1).f0)) ∧ w'.cell? ⟨gb159, 1, none⟩ = some (.int .i64 ((rd_T94 l0_1 x8_1).f1)) ∧ w'.cell? ⟨gb156, 0, none⟩ = some (.slice A0_0 l0_0.length c0_0) ∧ w'.cell? ⟨gb156, 1, none⟩ = some (.slice (some ad158) l0_1.length c0_1)) (ds := []) #[false, false, false, false, false, false, false, false, false, false, false, false, false] (by kernel_rfl) rfl rfl ⟨(blk_cell BK159.out 0).trans rfl, (blk_cell BK159.out 1).trans rfl, (blk_cell BK156.out 0).trans rfl, (blk_cell BK156.out 1).trans rfl⟩ (fun hHeld => ?_); refine with_tabW impl_ValidFlat.tab4 impl_ValidFlat.bits4 (fun HT_ HW_ => ?_); generalize w24.drew = w25 at BK156 BK159 HB hHeld ⊢; refine take_ (i := 0) (N := some 13) (v := ?_) (a' := ?_) #[true, false, false, false, false, false, false, false, false, false, false, false, false] rfl rfl (take_ofW HT_.out HW_.out (by kernel_rfl)) (fun _ _ _ h => h) (Or.inl ⟨by rfl, ?_⟩) hHeld ?_ ?_; rotate_left
         ·rintro w' ⟨s0, s1, s2, s3⟩; go_simp; with_reducible rfl
         rotate_left
         ·simp only [Act.put, List.setIfInBounds_toArray, List.set_cons_zero, List.set_cons_succ, i64_w, i32_w]; rfl
         refine one_ (i := 1) (N := some 14) #[true, true, false, false, false, false, false, false, false, false, false, false, false] rfl rfl (one_of HT_.out (by kernel_rfl)) (by decide) (fun K hK => ?_); refine goes_ Try.func62 (by kernel_rfl) rfl #[.agg #[.string ((rd_T94 l0_1 x8_1).f0), .int .i64 ((rd_T94 l0_1 x8_1).f1)]] (by rfl) rfl rfl zl ?_; with_reducible refine (impl_Pair_valid.calls k1 ((rd_T94 l0_1 x8_1).f0) ((rd_T94 l0_1 x8_1).f1) true _ A7.out).mono ?_; rintro e w26 ⟨rfl, hb⟩; refine ⟨_, rfl, ?_⟩; replace BK156 := Aside0.mk (blk_below (g := gb156) (o := .cells #[.slice A0_0 l0_0.length c0_0, .slice (some ad158) l0_1.length c0_1] 30 (0, 0)) (zb BK156) hb); replace BK159 := Aside0.mk (blk_below (g := gb159) (o := .cells #[.string ((rd_T94 l0_1 x8_1).f0), .int .i64 ((rd_T94 l0_1 x8_1).f1)] 94 (0, 0)) (zb BK159) hb); replace HB := Aside0.mk (below_step (zB HB) hb); (try clear hb); (try clear hb2); (try clear hk); (try clear hi); have q27 : (x8_1 : Int) ≤ ((l0_1.length : Int) : Int) := of_decide_eq_true za; obtain ⟨i027, hi027, _, hsz27, _⟩ := info_parts info94; have hroom27 : l0_1.length ≤ c0_1 := HC0_1.out; have hC27 : Kd.C k94 _ (some ad158) l0_1.length l0_1 := HR0_1.out; have hcut27 := cut_to (P := Try.prog) 28 94 .i64 Try.underlying28 hi027 (some ad158) l0_1.length c0_1 x8_1 (of_decide_eq_true za) q27 hroom27; have hr27 := Kd.C_take (m := (x8_1 : Int).toNat) hC27 (by omega); have hy27 : y161.length = (x8_1 : Int).toNat := (by rw [Ny161.out, List.length_take]; omega)
         rw [← Ny161.out] at hr27; rw [← hy27] at hcut27; have HR164 := Aside0.mk hr27; have HC164 := Aside0.mk (show y161.length ≤ c0_1 from by omega); clear hr27 hC27 hroom27 hi027 hsz27; have KY27 := Aside0.mk hy27; clear hy27; replace q27 := eq_true q27; refine hK.out _ _ ⟨(blk_cell BK159.out 0).trans rfl, (blk_cell BK159.out 1).trans rfl, (blk_cell BK156.out 0).trans rfl, (blk_cell BK156.out 1).trans rfl⟩ (fun hHeld => ?_); clear hK K; refine norm_ (a' := ?_) ?_ ?_; rotate_left
         ·show Act.put _ (some 14) _ = _
          simp only [Act.put, List.setIfInBounds_toArray, List.set_cons_zero, List.set_cons_succ, i64_w, i32_w]; rfl
         refine pure_ (i := 2) (N := some 15) (v := ?_) (a' := ?_) #[true, true, true, false, false, false, false, false, false, false, false, false, false] rfl rfl (any_of HT_.out (by kernel_rfl)) (fun _ _ _ h => h) (Or.inl ⟨by rfl, ?_⟩) ?_ ?_; rotate_left
         ·intro w'; go_simp; with_reducible rfl
         rotate_left
         ·simp only [Act.put, List.setIfInBounds_toArray, List.set_cons_zero, List.set_cons_succ, i64_w, i32_w]; rfl
         refine pure_ (i := 3) (N := some 16) (v := ?_) (a' := ?_) #[true, true, true, true, false, false, false, false, false, false, false, false, false] rfl rfl (any_of HT_.out (by kernel_rfl)) (fun _ _ _ h => h) (Or.inl ⟨by rfl, ?_⟩) ?_ ?_; rotate_left
         ·intro w'; go_simp; with_reducible rfl
         rotate_left
         ·simp only [Act.put, List.setIfInBounds_toArray, List.set_cons_zero, List.set_cons_succ, i64_w, i32_w]; rfl
         refine pure_ (i := 4) (N := some 17) (v := ?_) (a' := ?_) #[true, true, true, true, true, false, false, false, false, false, false, false, false] rfl rfl (any_of HT_.out (by kernel_rfl)) (fun _ _ _ h => h) (Or.inl ⟨by rfl, ?_⟩) ?_ ?_; rotate_left
         ·intro w'; go_simp; with_reducible rfl
         rotate_left
         ·simp only [Act.put, List.setIfInBounds_toArray, List.set_cons_zero, List.set_cons_succ, i64_w, i32_w]; rfl
         refine pure_ (i := 6) (N := some 19) (v := ?_) (a' := ?_) #[true, true, true, true, true, false, true, false, false, false, false, false, false] rfl rfl (any_of HT_.out (by kernel_rfl)) (fun _ _ _ h => h) (Or.inl ⟨by rfl, ?_⟩) ?_ ?_; rotate_left
         ·intro w'; go_simp; with_reducible rfl
         rotate_left
         ·simp only [Act.put, List.setIfInBounds_toArray, List.set_cons_zero, List.set_cons_succ, i64_w, i32_w]; rfl
         refine pure_ (i := 8) (N := some 21) (v := ?_) (a' := ?_) #[true, true, true, true, true, false, true, false, true, false, false, false, false] rfl rfl (any_of HT_.out (by kernel_rfl)) (fun _ _ _ h => h) (Or.inl ⟨by rfl, ?_⟩) ?_ ?_; rotate_left
         ·intro w'; go_simp; with_reducible rfl
         rotate_left
         ·simp only [Act.put, List.setIfInBounds_toArray, List.set_cons_zero, List.set_cons_succ, i64_w, i32_w]; rfl
         refine take_ (i := 5) (N := some 18) (v := ?_) (a' := ?_) #[true, true, true, true, true, true, true, false, true, false, false, false, false] rfl rfl (take_ofW HT_.out HW_.out (by kernel_rfl)) (fun _ _ _ h => h) (Or.inl ⟨by rfl, ?_⟩) hHeld ?_ ?_; rotate_left
         ·rintro w' ⟨s0, s1, s2, s3⟩; go_simp; with_reducible rfl
         rotate_left
         ·simp only [Act.put, List.setIfInBounds_toArray, List.set_cons_zero, List.set_cons_succ, i64_w, i32_w]; rfl
         refine pure_ (i := 7) (N := some 20) (v := ?_) (a' := ?_) #[true, true, true, true, true, true, true, true, true, false, false, false, false] rfl rfl (any_of HT_.out (by kernel_rfl)) (fun _ _ _ h => h) (Or.inl ⟨by rfl, ?_⟩) ?_ ?_; rotate_left
         ·intro w'; go_simp; with_reducible rfl
         rotate_left
         ·simp only [Act.put, List.setIfInBounds_toArray, List.set_cons_zero, List.set_cons_succ, i64_w, i32_w]; rfl
         refine take_ (i := 9) (N := some 22) (v := ?_) (a' := ?_) #[true, true, true, true, true, true, true, true, true, true, false, false, false] rfl rfl (take_ofW HT_.out HW_.out (by kernel_rfl)) (fun _ _ _ h => h) (Or.inl ⟨by rfl, ?_⟩) hHeld ?_ ?_; rotate_left
         ·rintro w' ⟨s0, s1, s2, s3⟩; go_simp; with_reducible rfl
         rotate_left
         ·simp only [Act.put, List.setIfInBounds_toArray, List.set_cons_zero, List.set_cons_succ, i64_w, i32_w]; rfl
         refine one_ (i := 10) (N := some 23) #[true, true, true, true, true, true, true, true, true, true, true, false, false] rfl rfl (one_of HT_.out (by kernel_rfl)) (by decide) (fun K hK => ?_); refine goes_ Try.func63 (by kernel_rfl) rfl #[.slice (some ad158) y161.length c0_1, .string ((rd_T94 l0_1 x8_1).f0)] (by rfl) rfl rfl zl ?_; with_reducible refine (impl_pairAt.calls _ _ y161 ((rd_T94 l0_1 x8_1).f0) t165 _ ?side1 ?side2 A11.out).mono ?_
         (case side1 => repeat (first | exact (Kd.C_below HR164.out HB.out) | (with_reducible refine Kd.C_alloc ?_ _) | (with_reducible refine Kd.C_drewN ?_ _) | (with_reducible refine Kd.C_drew ?_)))
         (case side2 => exact HC164.out)
         rintro e w28 ⟨rfl, hb⟩; refine ⟨_, rfl, ?_⟩; replace BK156 := Aside0.mk (blk_below (g := gb156) (o := .cells #[.slice A0_0 l0_0.length c0_0, .slice (some ad158) l0_1.length c0_1] 30 (0, 0)) (zb BK156) hb); replace BK159 := Aside0.mk (blk_below (g := gb159) (o := .cells #[.string ((rd_T94 l0_1 x8_1).f0), .int .i64 ((rd_T94 l0_1 x8_1).f1)] 94 (0, 0)) (zb BK159) hb); replace HB := Aside0.mk (below_step (zB HB) hb); (try clear hb); (try clear hb2); (try clear hk); (try clear hi); refine hK.out _ _ ⟨(blk_cell BK159.out 0).trans rfl, (blk_cell BK159.out 1).trans rfl, (blk_cell BK156.out 0).trans rfl, (blk_cell BK156.out 1).trans rfl⟩ (fun hHeld => ?_); clear hK K; refine norm_ (a' := ?_) ?_ ?_; rotate_left
         ·show Act.put _ (some 23) _ = _
          simp only [Act.put, List.setIfInBounds_toArray, List.set_cons_zero, List.set_cons_succ, i64_w, i32_w]; rfl
         refine pure_ (i := 11) (N := some 24) (v := ?_) (a' := ?_) #[true, true, true, true, true, true, true, true, true, true, true, true, false] rfl rfl (any_of HT_.out (by kernel_rfl)) (fun _ _ _ h => h) (Or.inl ⟨by rfl, ?_⟩) ?_ ?_; rotate_left
         ·intro w'; go_simp; with_reducible rfl
         rotate_left
         ·simp only [Act.put, List.setIfInBounds_toArray, List.set_cons_zero, List.set_cons_succ, i64_w, i32_w]; rfl
         refine pure_ (i := 12) (N := some 25) (v := ?_) (a' := ?_) #[true, true, true, true, true, true, true, true, true, true, true, true, true] rfl rfl (any_of HT_.out (by kernel_rfl)) (fun _ _ _ h => h) (Or.inl ⟨by rfl, ?_⟩) ?_ ?_; rotate_left
         ·intro w'; go_simp; with_reducible rfl
         rotate_left
         ·simp only [Act.put, List.setIfInBounds_toArray, List.set_cons_zero, List.set_cons_succ, i64_w, i32_w]; rfl
         refine done_ (done_of HT_.out (by kernel_rfl)) ?_
         try go_wp2
         go_roundg k1
         case measure => have := HK1.out; omega
         case rel => exact ⟨(wrap64 (x8_1 + 1)), zr, H', ⟨by have := HK1.out; omega⟩, ⟨zb BK156⟩, ⟨zB HB⟩⟩
       ·rw [if_neg c10] at H; exact absurd H (by simp)
      ·replace c8 := Bool.eq_false_iff.mpr c8; subst c8; rw [if_neg (show ¬ (false = true) by decide)] at H; obtain rfl := Option.some.inj H; have p158 : 0 ≤ (x8_1 : Int) := of_decide_eq_true za; have q158 : x8_1 < (l0_1.length : Int) := of_decide_eq_true za; obtain ⟨ad158, e158, hx158_0, hx158_1⟩ := at_T94 HR0_1.out x8_1 p158 q158
       cases e158
       replace hx158_0 := (HB.out.cell (World.block_lt_of_cell? w _ hx158_0)).trans hx158_0; replace hx158_1 := (HB.out.cell (World.block_lt_of_cell? w _ hx158_1)).trans hx158_1; replace p158 := eq_true p158; replace q158 := eq_true q158
       try go_wp2_with (first | ((with_reducible refine gate_dst (N := 4) rfl ?_); refine zx (N := 4) (cs := #[.string (⟨#[]⟩ : ByteArray), .int .i64 0]) (t := 94) ?_; intro gb159 hg w29 hbox hb; have BK159 := Aside0.mk (hbox); have GW159 := Aside0.mk ((by rw [hg]; exact (below_size (zB HB)) : w.heap.size ≤ gb159)); have GE159 := GW159; replace HB := Aside0.mk (below_step (zB HB) hb); have NB156_159 := Aside0.mk ((by rw [hg]; exact Nat.ne_of_lt (blk_lt (g := gb156) (o := .cells #[.slice A0_0 l0_0.length c0_0, .slice (some ad158) l0_1.length c0_1] 30 (0, 0)) (zb BK156)) : gb156 ≠ gb159)); have NB159_156 := Aside0.mk NB156_159.out.symm; replace BK156 := Aside0.mk (blk_below (g := gb156) (o := .cells #[.slice A0_0 l0_0.length c0_0, .slice (some ad158) l0_1.length c0_1] 30 (0, 0)) (zb BK156) hb); clear hb hbox hg; have hnb30 := NB159_156.out; have hnc30 := NB156_159.out; have hcz31_0 : w29.cell? ⟨gb159, 0, none⟩ = some (.string (⟨#[]⟩ : ByteArray)) := (blk_cell BK159.out 0).trans rfl; have hcz31_1 : w29.cell? ⟨gb159, 1, none⟩ = some (.int .i64 0) := (blk_cell BK159.out 1).trans rfl; have hfz31_0 := blk_frozen BK159.out 0; have hfz31_1 := blk_frozen BK159.out 1))
       have n0_ : Aside0 (((w29.setCell ⟨gb159, 0, none⟩ (.string ((rd_T94 l0_1 x8_1).f0))).setCell ⟨gb159, 1, none⟩ (.int .i64 ((rd_T94 l0_1 x8_1).f1))).heap[gb156]? = some (.cells #[.slice A0_0 l0_0.length c0_0, .slice (some ad158) l0_1.length c0_1] 30 (0, 0))) := ⟨zf BK156⟩
       have n1_ : Aside0 (((w29.setCell ⟨gb159, 0, none⟩ (.string ((rd_T94 l0_1 x8_1).f0))).setCell ⟨gb159, 1, none⟩ (.int .i64 ((rd_T94 l0_1 x8_1).f1))).heap[gb159]? = some (.cells #[.string ((rd_T94 l0_1 x8_1).f0), .int .i64 ((rd_T94 l0_1 x8_1).f1)] 94 (0, 0))) := ⟨by (with_reducible repeat (first | refine blk_drewN ?_ _ | refine blk_drew ?_ | refine blk_alloc ?_ _)); refine blk_put (cs := #[.string ((rd_T94 l0_1 x8_1).f0), .int .i64 0]) ?_ 1 _ rfl; (with_reducible repeat (first | refine blk_drewN ?_ _ | refine blk_drew ?_ | refine blk_alloc ?_ _)); refine blk_put (cs := #[.string (⟨#[]⟩ : ByteArray), .int .i64 0]) ?_ 0 _ rfl; (with_reducible repeat (first | refine blk_drewN ?_ _ | refine blk_drew ?_ | refine blk_alloc ?_ _)); exact BK159.out⟩
       have n2_ : Aside0 (Below w.heap.size w ((w29.setCell ⟨gb159, 0, none⟩ (.string ((rd_T94 l0_1 x8_1).f0))).setCell ⟨gb159, 1, none⟩ (.int .i64 ((rd_T94 l0_1 x8_1).f1)))) := ⟨zB HB⟩
       (try clear BK156); (try clear BK159); (try clear HB); generalize ((w29.setCell ⟨gb159, 0, none⟩ (.string ((rd_T94 l0_1 x8_1).f0))).setCell ⟨gb159, 1, none⟩ (.int .i64 ((rd_T94 l0_1 x8_1).f1))) = w32 at n0_ n1_ n2_ ⊢; have BK156 := n0_; have BK159 := n1_; have HB := n2_; clear n0_ n1_ n2_; replace BK156 := Aside0.mk (blk_drew BK156.out); replace BK159 := Aside0.mk (blk_drew BK159.out); replace HB := Aside0.mk (below_drew1 HB.out); refine start_ (n := 13) (S := fun w' => w'.cell? ⟨gb159, 0, none⟩ = some (.string ((rd_T94 l0_1 x8_1).f0)) ∧ w'.cell? ⟨gb159, 1, none⟩ = some (.int .i64 ((rd_T94 l0_1 x8_1).f1))) (ds := []) #[false, false, false, false, false, false, false, false, false, false, false, false, false] (by kernel_rfl) rfl rfl ⟨(blk_cell BK159.out 0).trans rfl, (blk_cell BK159.out 1).trans rfl⟩ (fun hHeld => ?_); refine with_tabW impl_ValidFlat.tab4 impl_ValidFlat.bits4 (fun HT_ HW_ => ?_); generalize w32.drew = w33 at BK156 BK159 HB hHeld ⊢; refine take_ (i := 0) (N := some 13) (v := ?_) (a' := ?_) #[true, false, false, false, false, false, false, false, false, false, false, false, false] rfl rfl (take_ofW HT_.out HW_.out (by kernel_rfl)) (fun _ _ _ h => h) (Or.inl ⟨by rfl, ?_⟩) hHeld ?_ ?_; rotate_left
       ·rintro w' ⟨s0, s1⟩; go_simp; with_reducible rfl
       rotate_left
       ·simp only [Act.put, List.setIfInBounds_toArray, List.set_cons_zero, List.set_cons_succ, i64_w, i32_w]; rfl
       refine one_ (i := 1) (N := some 14) #[true, true, false, false, false, false, false, false, false, false, false, false, false] rfl rfl (one_of HT_.out (by kernel_rfl)) (by decide) (fun K hK => ?_); refine goes_ Try.func62 (by kernel_rfl) rfl #[.agg #[.string ((rd_T94 l0_1 x8_1).f0), .int .i64 ((rd_T94 l0_1 x8_1).f1)]] (by rfl) rfl rfl zl ?_; with_reducible refine (impl_Pair_valid.calls k1 ((rd_T94 l0_1 x8_1).f0) ((rd_T94 l0_1 x8_1).f1) false _ A7.out).mono ?_; rintro e w34 ⟨rfl, hb⟩; refine ⟨_, rfl, ?_⟩; replace BK156 := Aside0.mk (blk_below (g := gb156) (o := .cells #[.slice A0_0 l0_0.length c0_0, .slice (some ad158) l0_1.length c0_1] 30 (0, 0)) (zb BK156) hb); replace BK159 := Aside0.mk (blk_below (g := gb159) (o := .cells #[.string ((rd_T94 l0_1 x8_1).f0), .int .i64 ((rd_T94 l0_1 x8_1).f1)] 94 (0, 0)) (zb BK159) hb); replace HB := Aside0.mk (below_step (zB HB) hb); (try clear hb); (try clear hb2); (try clear hk); (try clear hi); refine hK.out _ _ ⟨(blk_cell BK159.out 0).trans rfl, (blk_cell BK159.out 1).trans rfl⟩ (fun hHeld => ?_); clear hK K; refine norm_ (a' := ?_) ?_ ?_; rotate_left
       ·show Act.put _ (some 14) _ = _
        simp only [Act.put, List.setIfInBounds_toArray, List.set_cons_zero, List.set_cons_succ, i64_w, i32_w]; rfl
       refine pure_ (i := 2) (N := some 15) (v := ?_) (a' := ?_) #[true, true, true, false, false, false, false, false, false, false, false, false, false] rfl rfl (any_of HT_.out (by kernel_rfl)) (fun _ _ _ h => h) (Or.inl ⟨by rfl, ?_⟩) ?_ ?_; rotate_left
       ·intro w'; go_simp; with_reducible rfl
       rotate_left
       ·simp only [Act.put, List.setIfInBounds_toArray, List.set_cons_zero, List.set_cons_succ, i64_w, i32_w]; rfl
       refine pure_ (i := 3) (N := some 16) (v := ?_) (a' := ?_) #[true, true, true, true, false, false, false, false, false, false, false, false, false] rfl rfl (any_of HT_.out (by kernel_rfl)) (fun _ _ _ h => h) (Or.inl ⟨by rfl, ?_⟩) ?_ ?_; rotate_left
       ·intro w'; go_simp; with_reducible rfl
       rotate_left
       ·simp only [Act.put, List.setIfInBounds_toArray, List.set_cons_zero, List.set_cons_succ, i64_w, i32_w]; rfl
       refine pure_ (i := 4) (N := some 17) (v := undef) (a' := ?_) #[true, true, true, true, true, false, false, false, false, false, false, false, false] rfl rfl (any_of HT_.out (by kernel_rfl)) (fun _ _ _ h => h) (Or.inr ⟨by rfl, rfl⟩) ?_ ?_; rotate_left
       ·simp only [Act.put, List.setIfInBounds_toArray, List.set_cons_zero, List.set_cons_succ, i64_w, i32_w]; rfl
       refine pure_ (i := 5) (N := some 18) (v := undef) (a' := ?_) #[true, true, true, true, true, true, false, false, false, false, false, false, false] rfl rfl (any_of HT_.out (by kernel_rfl)) (fun _ _ _ h => h) (Or.inr ⟨by rfl, rfl⟩) ?_ ?_; rotate_left
       ·simp only [Act.put, List.setIfInBounds_toArray, List.set_cons_zero, List.set_cons_succ, i64_w, i32_w]; rfl
       refine pure_ (i := 6) (N := some 19) (v := undef) (a' := ?_) #[true, true, true, true, true, true, true, false, false, false, false, false, false] rfl rfl (any_of HT_.out (by kernel_rfl)) (fun _ _ _ h => h) (Or.inr ⟨by rfl, rfl⟩) ?_ ?_; rotate_left
       ·simp only [Act.put, List.setIfInBounds_toArray, List.set_cons_zero, List.set_cons_succ, i64_w, i32_w]; rfl
       refine pure_ (i := 7) (N := some 20) (v := undef) (a' := ?_) #[true, true, true, true, true, true, true, true, false, false, false, false, false] rfl rfl (any_of HT_.out (by kernel_rfl)) (fun _ _ _ h => h) (Or.inr ⟨by rfl, rfl⟩) ?_ ?_; rotate_left
       ·simp only [Act.put, List.setIfInBounds_toArray, List.set_cons_zero, List.set_cons_succ, i64_w, i32_w]; rfl
       refine pure_ (i := 8) (N := some 21) (v := undef) (a' := ?_) #[true, true, true, true, true, true, true, true, true, false, false, false, false] rfl rfl (any_of HT_.out (by kernel_rfl)) (fun _ _ _ h => h) (Or.inr ⟨by rfl, rfl⟩) ?_ ?_; rotate_left
       ·simp only [Act.put, List.setIfInBounds_toArray, List.set_cons_zero, List.set_cons_succ, i64_w, i32_w]; rfl
       refine pure_ (i := 9) (N := some 22) (v := undef) (a' := ?_) #[true, true, true, true, true, true, true, true, true, true, false, false, false] rfl rfl (any_of HT_.out (by kernel_rfl)) (fun _ _ _ h => h) (Or.inr ⟨by rfl, rfl⟩) ?_ ?_; rotate_left
       ·simp only [Act.put, List.setIfInBounds_toArray, List.set_cons_zero, List.set_cons_succ, i64_w, i32_w]; rfl
       refine pure_ (i := 10) (N := some 23) (v := undef) (a' := ?_) #[true, true, true, true, true, true, true, true, true, true, true, false, false] rfl rfl (any_of HT_.out (by kernel_rfl)) (fun _ _ _ h => h) (Or.inr ⟨by rfl, rfl⟩) ?_ ?_; rotate_left
       ·simp only [Act.put, List.setIfInBounds_toArray, List.set_cons_zero, List.set_cons_succ, i64_w, i32_w]; rfl
       refine pure_ (i := 11) (N := some 24) (v := undef) (a' := ?_) #[true, true, true, true, true, true, true, true, true, true, true, true, false] rfl rfl (any_of HT_.out (by kernel_rfl)) (fun _ _ _ h => h) (Or.inr ⟨by rfl, rfl⟩) ?_ ?_; rotate_left
       ·simp only [Act.put, List.setIfInBounds_toArray, List.set_cons_zero, List.set_cons_succ, i64_w, i32_w]; rfl
       refine pure_ (i := 12) (N := some 25) (v := ?_) (a' := ?_) #[true, true, true, true, true, true, true, true, true, true, true, true, true] rfl rfl (any_of HT_.out (by kernel_rfl)) (fun _ _ _ h => h) (Or.inl ⟨by rfl, ?_⟩) ?_ ?_; rotate_left
       ·intro w'; go_simp; with_reducible rfl
       rotate_left
       ·simp only [Act.put, List.setIfInBounds_toArray, List.set_cons_zero, List.set_cons_succ, i64_w, i32_w]; rfl
       refine done_ (done_of HT_.out (by kernel_rfl)) ?_
       try go_wp2
       go_ret; exact ⟨by first | rfl | (simp [errW_none, errW_some] <;> rfl) | (simp [*, errW_none, errW_some] <;> rfl), zB HB⟩
     ·rw [if_neg c6] at H; exact absurd H (by simp)
    ·rw [if_neg c5] at H; exact absurd H (by simp)
   ·rw [if_neg c4] at H; have c4b0 : decide (x8_1 < (l0_1.length : Int)) = false := decide_eq_false c4; clear c4
    by_cases c35 : (l0_0.length : Int) ≤ 8
    ·rw [if_pos c35] at H; have c35b0 : decide ((l0_0.length : Int) ≤ 8) = true := decide_eq_true c35; have c35b1 : decide (l0_0.length ≤ 8) = true := decide_eq_true (by omega); clear c35
     by_cases c36 : (l0_1.length : Int) ≤ 8
     ·rw [if_pos c36] at H; have c36b0 : decide ((l0_1.length : Int) ≤ 8) = true := decide_eq_true c36; have c36b1 : decide (l0_1.length ≤ 8) = true := decide_eq_true (by omega); clear c36; replace H := Option.bind_eq_some_iff.mp H; obtain ⟨t157, A370, H⟩ := H
      (try dsimp only at H)
      have A37 := Aside0.mk A370; clear A370; obtain rfl := Option.some.inj H; have hcz38_0 : wr.cell? ⟨gb156, 0, none⟩ = some (.slice A0_0 l0_0.length c0_0) := (blk_cell BK156.out 0).trans rfl; have hcz38_1 : wr.cell? ⟨gb156, 1, none⟩ = some (.slice A0_1 l0_1.length c0_1) := (blk_cell BK156.out 1).trans rfl; have hfz38_0 := blk_frozen BK156.out 0; have hfz38_1 := blk_frozen BK156.out 1; go_wp2_with (first | (go_at_call 64; (with_reducible refine (impl_areValues.calls _ _ l0_0 t157 _ ?side1 ?side2 A37.out).mono ?_); (case side1 => repeat (first | exact (Kd.C_below HR0_0.out HB.out) | (with_reducible refine Kd.C_alloc ?_ _) | (with_reducible refine Kd.C_drewN ?_ _) | (with_reducible refine Kd.C_drew ?_))); (case side2 => exact HC0_0.out); rintro e w39 ⟨rfl, hb⟩; replace BK156 := Aside0.mk (blk_below (g := gb156) (o := .cells #[.slice A0_0 l0_0.length c0_0, .slice A0_1 l0_1.length c0_1] 30 (0, 0)) (zb BK156) hb); replace HB := Aside0.mk (below_step (zB HB) hb); (try clear hb); (try clear hb2); (try clear hk); (try clear hi))); go_ret; exact ⟨by first | rfl | (simp [errW_none, errW_some] <;> rfl) | (simp [*, errW_none, errW_some] <;> rfl), zB HB⟩
     ·rw [if_neg c36] at H; have c36b0 : decide ((l0_1.length : Int) ≤ 8) = false := decide_eq_false c36; have c36b1 : decide (l0_1.length ≤ 8) = false := decide_eq_false (by omega); clear c36; obtain rfl := Option.some.inj H; have hcz40_0 : wr.cell? ⟨gb156, 0, none⟩ = some (.slice A0_0 l0_0.length c0_0) := (blk_cell BK156.out 0).trans rfl; have hcz40_1 : wr.cell? ⟨gb156, 1, none⟩ = some (.slice A0_1 l0_1.length c0_1) := (blk_cell BK156.out 1).trans rfl; have hfz40_0 := blk_frozen BK156.out 0; have hfz40_1 := blk_frozen BK156.out 1; go_wp2; go_ret; exact ⟨by first | rfl | (simp [errW_none, errW_some] <;> rfl) | (simp [*, errW_none, errW_some] <;> rfl), zB HB⟩
    ·rw [if_neg c35] at H; have c35b0 : decide ((l0_0.length : Int) ≤ 8) = false := decide_eq_false c35; have c35b1 : decide (l0_0.length ≤ 8) = false := decide_eq_false (by omega); clear c35; obtain rfl := Option.some.inj H; have hcz41_0 : wr.cell? ⟨gb156, 0, none⟩ = some (.slice A0_0 l0_0.length c0_0) := (blk_cell BK156.out 0).trans rfl; have hcz41_1 : wr.cell? ⟨gb156, 1, none⟩ = some (.slice A0_1 l0_1.length c0_1) := (blk_cell BK156.out 1).trans rfl; have hfz41_0 := blk_frozen BK156.out 0; have hfz41_1 := blk_frozen BK156.out 1; go_wp2; go_ret; exact ⟨by first | rfl | (simp [errW_none, errW_some] <;> rfl) | (simp [*, errW_none, errW_some] <;> rfl), zB HB⟩

end Go.Proofs.Ytkandhljbbolnaa.Q

namespace Go.Proofs.Ytkandhljbbolnaa.Q
open Go.RowKit Go.Proofs.YtkandhljbbolnaaL.PrintWords Go.Proofs.YtkandhljbbolnaaL.PrintLast Go.Proofs.YtkandhljbbolnaaL.PrintMore
attribute [local go_sem] max2_int min2_int max_two min_two max_three min_three max_four min_four   -- for this text's walks alone
set_option linter.unusedVariables false
set_option linter.unusedSimpArgs false

/-! ### slices_Clip_int_int: function 135 (a contract of our own) -/
def slices_Clip_int_int.f (l0 : List (Int)) : Option (List (Int)) := some l0
set_option maxHeartbeats 8000000 in
set_option maxRecDepth 100000 in
theorem slices_Clip_int_int.calls (P0_ : Nat → Prop) (u9000_ : Value) (l0 : List (Int)) (r : List (Int)) (w0 w : World) (hB : Below w0.heap.size w0 w) (ho0 : Kd.R (Kd.int .i64) 3 w w0.heap.size P0_ u9000_ l0) (h : slices_Clip_int_int.f l0 = some r) :
  Calls Try.prog 135 #[u9000_] w fun e w' => ∃ v0_ : Value, e = .returned (v0_) ∧ Kd.R (Kd.int .i64) 3 w' w0.heap.size (fun k_ => (P0_ k_ ∨ w.heap.size ≤ k_)) v0_ r ∧ Below w0.heap.size w0 w' ∧ Kept w w' (fun k_ => P0_ k_) := by
 obtain rfl := Option.some.inj h; clear h; obtain ⟨A0, c0, rfl⟩ := Kd.R_slice ho0; obtain ⟨_, hl, hC⟩ := Kd.R_reads' ho0; have hbig : l0.length ≤ 9223372036854775807 := hC.2.1; have HO := Aside0.mk ho0; have HB := Aside0.mk hB; clear ho0 hB hC; go_enter Try.func135, Try.ntmps135; go_wp2; go_ret; exact ⟨_, rfl, Kd.R_mono (Kd.R_clip HO.out (Nat.le_refl _) hl) (fun _ h => .inl h), HB.out, Kept.refl _ _⟩

end Go.Proofs.Ytkandhljbbolnaa.Q

namespace Go.Proofs.Ytkandhljbbolnaa.Q
open Go.RowKit Go.Proofs.YtkandhljbbolnaaL.PrintWords Go.Proofs.YtkandhljbbolnaaL.PrintLast Go.Proofs.YtkandhljbbolnaaL.PrintMore
attribute [local go_sem] max2_int min2_int max_two min_two max_three min_three max_four min_four   -- for this text's walks alone
set_option linter.unusedVariables false
set_option linter.unusedSimpArgs false

/-! ### slices.Clone at int: function 136 -/
set_option maxHeartbeats 8000000 in
set_option maxRecDepth 100000 in
theorem cl136.calls (A0 : Option Addr) (c0 : Nat) (l0 : List (Int)) (w : World) (hr0 : Kd.C (Kd.int .i64) w A0 l0.length l0) (hl : l0.length * 8 ≤ 140737488355328) :
  Calls Try.prog 136 #[.slice A0 l0.length c0] w fun e w' => ∃ v0_ : Value, e = .returned v0_ ∧ Kd.R (Kd.int .i64) 3 w' w.heap.size (fun _ => True) v0_ l0 ∧ Below w.heap.size w w' := by
 cases A0 with
 | none =>
  have h0 : l0 = [] := by
   rcases Nat.eq_zero_or_pos l0.length with h | h
   ·exact List.eq_nil_of_length_eq_zero h
   ·obtain ⟨ad, e, _⟩ := hr0.2.2 h; cases e
  subst h0; clear hr0; have hE := fun (W : World) => Go.Lib.run_eql_slice_nil (P := Try.prog) W 22 3 none 0 c0 0 0 Try.underlying22
  go_enter Try.func136, Try.ntmps136; go_wp2; go_ret; exact ⟨_, rfl, Kd.R_nil _ _ _ _ _, px_refl _⟩
 | some ad =>
  have HR := Aside0.mk hr0; have HL := Aside0.mk hl; clear hr0 hl; have hE := fun (W : World) => Go.Lib.run_eql_slice_nil (P := Try.prog) W 22 3 (some ad) l0.length c0 0 0 Try.underlying22
  go_enter Try.func136, Try.ntmps136; go_wp2_with (first | ((with_reducible refine gate_dst (N := 5) rfl ?_); refine Kd.R_lit (Kd.int .i64) w.heap.size 3 ?hg (N := 5) ?hd (xs := ([] : List (Int))) (inner := []) (ok := fun _ => True) (okp := fun _ => True) ?hr ?hp (fun _ hk => hk) trivial (Below.refl _ _) (Nat.le_refl _) (by simp) ?_; (case hd => rfl); (case hg => rfl); (case hr => first | (go_simp; done) | (go_simp; rfl)); (case hp => exact (Reps.none _ _)); intro v5 w5 ho5 hb5 hg_ hnew_; clear hg_ hnew_; have HO := Aside0.mk ho5; have HB := Aside0.mk hb5; clear ho5 hb5) | ((with_reducible refine gate_dst (N := 7) rfl ?_); refine Kd.R_append_rows (Kd.int .i64) (Rr := (Kd.int .i64).K w) (w0 := w) w.heap.size (by rfl) (.tmp 5) (.tmp 6) 22 3 (.int .i64 0) 8 rfl Try.underlying22 info3 rfl (by decide) (by omega) v5 ([] : List (Int)) l0 _ _ _ (fun _ => True) (fun _ => False) rfl rfl HO.out ?aR (fun _ _ h => h) (fun _ h => h.elim) (fun _ _ => trivial) HB.out (below_size HB.out) ?aL ?_; (case aR => exact ReadsRow.imp_ HR.out HB.out (fun _ _ h => h)); (case aL => simpa using HL.out); intro v7 w7 ho7 hb7 hg_ hnew_; clear hg_ hnew_; have HO7 := Aside0.mk ho7; have HB7 := Aside0.mk hb7; clear ho7 hb7)); go_ret; exact ⟨_, rfl, HO7.out, HB7.out⟩
/-! ### impl_clone_int: function 84 (a contract of our own) -/
def impl_clone_int.f (l0 : List Int) : Option (List Int) := if l0.length * 8 ≤ 140737488355328 then some l0 else none
set_option maxHeartbeats 8000000 in
set_option maxRecDepth 100000 in
theorem impl_clone_int.calls (A0 : Option Addr) (c0 : Nat) (l0 : List Int) (r : List Int) (w : World) (hr0 : Kd.C (Kd.int .i64) w A0 l0.length l0) (hc0 : l0.length ≤ c0) (h : impl_clone_int.f l0 = some r) :
  Calls Try.prog 84 #[.slice A0 l0.length c0] w fun e w' => ∃ v0_ : Value, e = .returned (v0_) ∧ Kd.R (Kd.int .i64) 3 w' w.heap.size (fun _ => True) v0_ r ∧ Below w.heap.size w w' := by
 have hl : l0.length * 8 ≤ 140737488355328 := by unfold impl_clone_int.f at h; split at h; assumption; cases h
 have hr : r = l0 := by unfold impl_clone_int.f at h; rw [if_pos hl] at h; exact (Option.some.inj h).symm
 subst hr; clear h; have HR := Aside0.mk hr0; have HL := Aside0.mk hl; clear hr0 hl hc0; go_enter Try.func84, Try.ntmps84; go_wp2_with fail; refine (cl136.calls _ _ _ _ HR.out HL.out).mono ?_; rintro e w1 ⟨v1, rfl, hv1, hb1⟩; have HO1 := Aside0.mk hv1; have HB1 := Aside0.mk hb1; clear hv1 hb1; go_wp2_with fail; refine (slices_Clip_int_int.calls (fun _ => True) _ _ r w _ HB1.out HO1.out rfl).mono ?_; rintro e w2 ⟨v2, rfl, hv2, hb2, hk2⟩; have HO2 := Aside0.mk hv2; have HB2 := Aside0.mk hb2; clear hv2 hb2 hk2; go_wp2; go_ret; exact ⟨_, rfl, Kd.R_mono HO2.out (fun _ _ => trivial), HB2.out⟩

/-! ### impl_Pair_143: function 143 (a contract of our own) -/
def impl_Pair_143.f (l0 : List (S94)) : Option (List (S94)) := some l0
set_option maxHeartbeats 8000000 in
set_option maxRecDepth 100000 in
theorem impl_Pair_143.calls (P0_ : Nat → Prop) (u9000_ : Value) (l0 : List (S94)) (r : List (S94)) (w0 w : World) (hB : Below w0.heap.size w0 w) (ho0 : Kd.R k94 94 w w0.heap.size P0_ u9000_ l0) (h : impl_Pair_143.f l0 = some r) :
  Calls Try.prog 143 #[u9000_] w fun e w' => ∃ v0_ : Value, e = .returned (v0_) ∧ Kd.R k94 94 w' w0.heap.size (fun k_ => (P0_ k_ ∨ w.heap.size ≤ k_)) v0_ r ∧ Below w0.heap.size w0 w' ∧ Kept w w' (fun k_ => P0_ k_) := by
 obtain rfl := Option.some.inj h; clear h; obtain ⟨A0, c0, rfl⟩ := Kd.R_slice ho0; obtain ⟨_, hl, hC⟩ := Kd.R_reads' ho0; have hbig : l0.length ≤ 9223372036854775807 := hC.2.1; have HO := Aside0.mk ho0; have HB := Aside0.mk hB; clear ho0 hB hC; go_enter Try.func143, Try.ntmps143; go_wp2; go_ret; exact ⟨_, rfl, Kd.R_mono (Kd.R_clip HO.out (Nat.le_refl _) hl) (fun _ h => .inl h), HB.out, Kept.refl _ _⟩

end Go.Proofs.Ytkandhljbbolnaa.Q

namespace Go.Proofs.Ytkandhljbbolnaa.Q
open Go.RowKit Go.Proofs.YtkandhljbbolnaaL.PrintWords Go.Proofs.YtkandhljbbolnaaL.PrintLast Go.Proofs.YtkandhljbbolnaaL.PrintMore
attribute [local go_sem] max2_int min2_int max_two min_two max_three min_three max_four min_four   -- for this text's walks alone
set_option linter.unusedVariables false
set_option linter.unusedSimpArgs false

/-! ### slices.Clone at impl.Pair: function 144 -/
set_option maxHeartbeats 8000000 in
set_option maxRecDepth 100000 in
theorem cl144.calls (A0 : Option Addr) (c0 : Nat) (l0 : List (S94)) (w : World) (hr0 : Kd.C k94 w A0 l0.length l0) (hl : l0.length * 24 ≤ 140737488355328) :
  Calls Try.prog 144 #[.slice A0 l0.length c0] w fun e w' => ∃ v0_ : Value, e = .returned v0_ ∧ Kd.R k94 94 w' w.heap.size (fun _ => True) v0_ l0 ∧ Below w.heap.size w w' := by
 cases A0 with
 | none =>
  have h0 : l0 = [] := by
   rcases Nat.eq_zero_or_pos l0.length with h | h
   ·exact List.eq_nil_of_length_eq_zero h
   ·obtain ⟨ad, e, _⟩ := hr0.2.2 h; cases e
  subst h0; clear hr0; have hE := fun (W : World) => Go.Lib.run_eql_slice_nil (P := Try.prog) W 28 94 none 0 c0 0 0 Try.underlying28
  go_enter Try.func144, Try.ntmps144; go_wp2; go_ret; exact ⟨_, rfl, Kd.R_nil _ _ _ _ _, px_refl _⟩
 | some ad =>
  have HR := Aside0.mk hr0; have HL := Aside0.mk hl; clear hr0 hl; have hE := fun (W : World) => Go.Lib.run_eql_slice_nil (P := Try.prog) W 28 94 (some ad) l0.length c0 0 0 Try.underlying28
  go_enter Try.func144, Try.ntmps144; go_wp2_with (first | ((with_reducible refine gate_dst (N := 5) rfl ?_); refine Kd.R_lit k94 w.heap.size 94 ?hg (N := 5) ?hd (xs := ([] : List (S94))) (inner := []) (ok := fun _ => True) (okp := fun _ => True) ?hr ?hp (fun _ hk => hk) trivial (Below.refl _ _) (Nat.le_refl _) (by simp) ?_; (case hd => rfl); (case hg => rfl); (case hr => first | (go_simp; done) | (go_simp; rfl)); (case hp => exact (Reps.none _ _)); intro v5 w5 ho5 hb5 hg_ hnew_; clear hg_ hnew_; have HO := Aside0.mk ho5; have HB := Aside0.mk hb5; clear ho5 hb5) | ((with_reducible refine gate_dst (N := 7) rfl ?_); refine Kd.R_append_rows k94 (Rr := k94.K w) (w0 := w) w.heap.size (by rfl) (.tmp 5) (.tmp 6) 28 94 (.agg #[(.string ⟨#[]⟩), (.int .i64 0)]) 24 rfl Try.underlying28 info94 rfl (by decide) (by omega) v5 ([] : List (S94)) l0 _ _ _ (fun _ => True) (fun _ => False) rfl rfl HO.out ?aR (fun x cs h => by rw [k94_open h]; exact k94_mkM _ _ _ _) (fun _ h => h.elim) (fun _ _ => trivial) HB.out (below_size HB.out) ?aL ?_; (case aR => exact ReadsRow.imp_ HR.out HB.out (fun _ _ h => h)); (case aL => simpa using HL.out); intro v7 w7 ho7 hb7 hg_ hnew_; clear hg_ hnew_; have HO7 := Aside0.mk ho7; have HB7 := Aside0.mk hb7; clear ho7 hb7)); go_ret; exact ⟨_, rfl, HO7.out, HB7.out⟩
/-! ### impl_Pair_105: function 105 (a contract of our own) -/
def impl_Pair_105.f (l0 : List (S94)) : Option ((List (S94))) := if l0.length * 24 ≤ 140737488355328 then some l0 else none
set_option maxHeartbeats 8000000 in
set_option maxRecDepth 100000 in
theorem impl_Pair_105.calls (A0 : Option Addr) (c0 : Nat) (l0 : List (S94)) (r : List (S94)) (w : World) (hr0 : Kd.C k94 w A0 l0.length l0) (hc0 : l0.length ≤ c0) (h : impl_Pair_105.f l0 = some r) :
  Calls Try.prog 105 #[.slice A0 l0.length c0] w fun e w' => ∃ v0_ : Value, e = .returned (v0_) ∧ Kd.R k94 94 w' w.heap.size (fun _ => True) v0_ r ∧ Below w.heap.size w w' := by
 have hl : l0.length * 24 ≤ 140737488355328 := by unfold impl_Pair_105.f at h; split at h; assumption; cases h
 have hr : r = l0 := by unfold impl_Pair_105.f at h; rw [if_pos hl] at h; exact (Option.some.inj h).symm
 subst hr; clear h; have HR := Aside0.mk hr0; have HL := Aside0.mk hl; clear hr0 hl hc0; go_enter Try.func105, Try.ntmps105; go_wp2_with fail; refine (cl144.calls _ _ _ _ HR.out HL.out).mono ?_; rintro e w1 ⟨v1, rfl, hv1, hb1⟩; have HO1 := Aside0.mk hv1; have HB1 := Aside0.mk hb1; clear hv1 hb1; go_wp2_with fail; refine (impl_Pair_143.calls (fun _ => True) _ _ r w _ HB1.out HO1.out rfl).mono ?_; rintro e w2 ⟨v2, rfl, hv2, hb2, hk2⟩; have HO2 := Aside0.mk hv2; have HB2 := Aside0.mk hb2; clear hv2 hb2 hk2; go_wp2; go_ret; exact ⟨_, rfl, Kd.R_mono HO2.out (fun _ _ => trivial), HB2.out⟩

/-! ### impl_Flat_copyOf: function 96 -/
def impl_Flat_copyOf.f (l0_0 : List Int) (l0_1 : List (S94)) : Option (List Int × (List (S94))) := (impl_clone_int.f l0_0).bind fun t550 => ((impl_Pair_105.f l0_1).bind fun t553 => (some (t550, t553)))
def impl_Flat_copyOf.T1 : Bool × List (List Nat × List Nat) := (true, [([], []), ([0], [0]), ([1], [1]), ([], []), ([3], [3]), ([4, 2], [4]), ([2, 5], [2, 5]), ([6, 5, 0, 1, 2, 3, 4, 5, 6], [6])])
def impl_Flat_copyOf.B1 : List Nat := [0, 1, 3, 0, 8, 31, 63, 127]
theorem impl_Flat_copyOf.tab1 : rtab .any (opsOf Try.f96 1) = impl_Flat_copyOf.T1 := by kernel_rfl
theorem impl_Flat_copyOf.bits1 : waitsOk impl_Flat_copyOf.T1.2 impl_Flat_copyOf.B1 = true := by kernel_rfl
set_option maxHeartbeats 8000000 in
set_option maxRecDepth 100000 in
theorem impl_Flat_copyOf.calls (A0_0 : Option Addr) (c0_0 : Nat) (l0_0 : List Int) (A0_1 : Option Addr) (c0_1 : Nat) (l0_1 : List (S94)) (r1 : List Int) (r2 : List (S94)) (w : World) (hr0_0 : Kd.C (Kd.int .i64) w A0_0 l0_0.length l0_0) (hc0_0 : l0_0.length ≤ c0_0) (hr0_1 : Kd.C k94 w A0_1 l0_1.length l0_1) (hc0_1 : l0_1.length ≤ c0_1) (h : impl_Flat_copyOf.f l0_0 l0_1 = some (r1, r2)) :
  Calls Try.prog 96 #[.agg #[.slice A0_0 l0_0.length c0_0, .slice A0_1 l0_1.length c0_1]] w fun e w' => ∃ v0_ v1_ : Value, e = .returned (.agg #[v0_, v1_]) ∧ Kd.R (Kd.int .i64) 3 w' w.heap.size (fun _ => True) v0_ r1 ∧ Kd.R k94 94 w' w.heap.size (fun _ => True) v1_ r2 ∧ Below w.heap.size w w' := by
 have hu30 := Try.underlying30; have HR0_0 := Aside0.mk hr0_0; have HC0_0 := Aside0.mk hc0_0; clear hr0_0 hc0_0; have HR0_1 := Aside0.mk hr0_1; have HC0_1 := Aside0.mk hc0_1; clear hr0_1 hc0_1; have HB := Aside0.mk (Below.refl w.heap.size w); have H : ((impl_clone_int.f l0_0).bind fun t550 => ((impl_Pair_105.f l0_1).bind fun t553 => (some (t550, t553)))) = some (r1, r2) := h; clear h; replace H := Option.bind_eq_some_iff.mp H; obtain ⟨t550, A20, H⟩ := H
 (try dsimp only at H)
 have A2 := Aside0.mk A20; clear A20; replace H := Option.bind_eq_some_iff.mp H; obtain ⟨t553, A30, H⟩ := H
 (try dsimp only at H)
 have A3 := Aside0.mk A30; clear A30; simp only [Option.some.injEq, Prod.mk.injEq] at H; obtain ⟨rfl, rfl⟩ := H; go_enter Try.func96, Try.ntmps96
 try go_wp2_with (first | ((with_reducible refine gate_dst (N := 1) rfl ?_); refine zx (N := 1) (cs := #[.slice A0_0 l0_0.length c0_0, .slice A0_1 l0_1.length c0_1]) (t := 30) ?_; intro gb548 hg w4 hbox hb; have BK548 := Aside0.mk (hbox); have GW548 := Aside0.mk ((by rw [hg]; exact (below_size (zB HB)) : w.heap.size ≤ gb548)); have GE548 := GW548; replace HB := Aside0.mk (below_step (zB HB) hb); clear hb hbox hg) | ((with_reducible refine gate_dst (N := 2) rfl ?_); refine zx (N := 2) (cs := #[.slice none 0 0, .slice none 0 0]) (t := 30) ?_; intro gb549 hg w5 hbox hb; have BK549 := Aside0.mk (hbox); have GW549 := Aside0.mk ((by rw [hg]; exact (below_size (zB HB)) : w.heap.size ≤ gb549)); have GE549 := GW549; replace HB := Aside0.mk (below_step (zB HB) hb); have NB548_549 := Aside0.mk ((by rw [hg]; exact Nat.ne_of_lt (blk_lt (g := gb548) (o := .cells #[.slice A0_0 l0_0.length c0_0, .slice A0_1 l0_1.length c0_1] 30 (0, 0)) (zb BK548)) : gb548 ≠ gb549)); have NB549_548 := Aside0.mk NB548_549.out.symm; replace BK548 := Aside0.mk (blk_below (g := gb548) (o := .cells #[.slice A0_0 l0_0.length c0_0, .slice A0_1 l0_1.length c0_1] 30 (0, 0)) (zb BK548) hb); clear hb hbox hg))
 replace BK548 := Aside0.mk (blk_drew BK548.out); replace BK549 := Aside0.mk (blk_drew BK549.out); replace HB := Aside0.mk (below_drew1 HB.out); refine start_ (n := 8) (S := fun w' => w'.cell? ⟨gb548, 0, none⟩ = some (.slice A0_0 l0_0.length c0_0) ∧ w'.cell? ⟨gb548, 1, none⟩ = some (.slice A0_1 l0_1.length c0_1)) (ds := []) #[false, false, false, false, false, false, false, false] (by kernel_rfl) rfl rfl ⟨(blk_cell BK548.out 0).trans rfl, (blk_cell BK548.out 1).trans rfl⟩ (fun hHeld => ?_); refine with_tabW impl_Flat_copyOf.tab1 impl_Flat_copyOf.bits1 (fun HT_ HW_ => ?_); generalize w5.drew = w6 at BK548 BK549 HB hHeld ⊢; refine pure_ (i := 0) (N := some 3) (v := ?_) (a' := ?_) #[true, false, false, false, false, false, false, false] rfl rfl (any_of HT_.out (by kernel_rfl)) (fun _ _ _ h => h) (Or.inl ⟨by rfl, ?_⟩) ?_ ?_; rotate_left
 ·intro w'; go_simp; with_reducible rfl
 rotate_left
 ·simp only [Act.put, List.setIfInBounds_toArray, List.set_cons_zero, List.set_cons_succ, i64_w, i32_w]; rfl
 refine pure_ (i := 3) (N := some 6) (v := ?_) (a' := ?_) #[true, false, false, true, false, false, false, false] rfl rfl (any_of HT_.out (by kernel_rfl)) (fun _ _ _ h => h) (Or.inl ⟨by rfl, ?_⟩) ?_ ?_; rotate_left
 ·intro w'; go_simp; with_reducible rfl
 rotate_left
 ·simp only [Act.put, List.setIfInBounds_toArray, List.set_cons_zero, List.set_cons_succ, i64_w, i32_w]; rfl
 refine take_ (i := 1) (N := some 4) (v := ?_) (a' := ?_) #[true, true, false, true, false, false, false, false] rfl rfl (take_ofW HT_.out HW_.out (by kernel_rfl)) (fun _ _ _ h => h) (Or.inl ⟨by rfl, ?_⟩) hHeld ?_ ?_; rotate_left
 ·rintro w' ⟨s0, s1⟩; go_simp; with_reducible rfl
 rotate_left
 ·simp only [Act.put, List.setIfInBounds_toArray, List.set_cons_zero, List.set_cons_succ, i64_w, i32_w]; rfl
 refine take_ (i := 4) (N := some 7) (v := ?_) (a' := ?_) #[true, true, false, true, true, false, false, false] rfl rfl (take_ofW HT_.out HW_.out (by kernel_rfl)) (fun _ _ _ h => h) (Or.inl ⟨by rfl, ?_⟩) hHeld ?_ ?_; rotate_left
 ·rintro w' ⟨s0, s1⟩; go_simp; with_reducible rfl
 rotate_left
 ·simp only [Act.put, List.setIfInBounds_toArray, List.set_cons_zero, List.set_cons_succ, i64_w, i32_w]; rfl
 refine one_ (i := 2) (N := some 5) #[true, true, true, true, true, false, false, false] rfl rfl (one_of HT_.out (by kernel_rfl)) (by decide) (fun K hK => ?_); refine goes_ Try.func84 (by kernel_rfl) rfl #[.slice A0_0 l0_0.length c0_0] (by rfl) rfl rfl zl ?_; with_reducible refine (impl_clone_int.calls _ _ l0_0 t550 _ ?side1 ?side2 A2.out).mono ?_
 (case side1 => repeat (first | exact (Kd.C_below HR0_0.out HB.out) | (with_reducible refine Kd.C_alloc ?_ _) | (with_reducible refine Kd.C_drewN ?_ _) | (with_reducible refine Kd.C_drew ?_)))
 (case side2 => exact HC0_0.out)
 rintro e w7 ⟨v551, rfl, ho0, hb⟩; refine ⟨_, rfl, ?_⟩; have HO552 := Aside0.mk (Kd.R_lower ho0 (below_size (zB HB))); replace BK548 := Aside0.mk (blk_below (g := gb548) (o := .cells #[.slice A0_0 l0_0.length c0_0, .slice A0_1 l0_1.length c0_1] 30 (0, 0)) (zb BK548) hb); replace BK549 := Aside0.mk (blk_below (g := gb549) (o := .cells #[.slice none 0 0, .slice none 0 0] 30 (0, 0)) (zb BK549) hb); replace HB := Aside0.mk (below_step (zB HB) hb); (try clear hb); (try clear hb2); (try clear hk); (try clear hi); (try clear ho0); refine hK.out _ _ ⟨(blk_cell BK548.out 0).trans rfl, (blk_cell BK548.out 1).trans rfl⟩ (fun hHeld => ?_); clear hK K; refine norm_ (a' := ?_) ?_ ?_; rotate_left
 ·show Act.put _ (some 5) _ = _
  simp only [Act.put, List.setIfInBounds_toArray, List.set_cons_zero, List.set_cons_succ, i64_w, i32_w]; rfl
 refine one_ (i := 5) (N := some 8) #[true, true, true, true, true, true, false, false] rfl rfl (one_of HT_.out (by kernel_rfl)) (by decide) (fun K hK => ?_); refine goes_ Try.func105 (by kernel_rfl) rfl #[.slice A0_1 l0_1.length c0_1] (by rfl) rfl rfl zl ?_; with_reducible refine (impl_Pair_105.calls _ _ l0_1 t553 _ ?side1 ?side2 A3.out).mono ?_
 (case side1 => repeat (first | exact (Kd.C_below HR0_1.out HB.out) | (with_reducible refine Kd.C_alloc ?_ _) | (with_reducible refine Kd.C_drewN ?_ _) | (with_reducible refine Kd.C_drew ?_)))
 (case side2 => exact HC0_1.out)
 rintro e w8 ⟨v554, rfl, ho0, hb⟩; refine ⟨_, rfl, ?_⟩; replace HO552 := Aside0.mk (Kd.R_below (zo HO552) hb); have HO555 := Aside0.mk (Kd.R_lower ho0 (below_size (zB HB))); replace BK548 := Aside0.mk (blk_below (g := gb548) (o := .cells #[.slice A0_0 l0_0.length c0_0, .slice A0_1 l0_1.length c0_1] 30 (0, 0)) (zb BK548) hb); replace BK549 := Aside0.mk (blk_below (g := gb549) (o := .cells #[.slice none 0 0, .slice none 0 0] 30 (0, 0)) (zb BK549) hb); replace HB := Aside0.mk (below_step (zB HB) hb); (try clear hb); (try clear hb2); (try clear hk); (try clear hi); (try clear ho0); obtain ⟨Ao9, co9, eo9⟩ := Kd.R_slice HO555.out
 (first | subst eo9 | (injection eo9 with f1_ f2_ f3_; have f4_ := f1_.symm; have f5_ := f3_.symm; clear f1_ f2_ f3_; subst f4_; subst f5_))
 obtain ⟨Ao10, co10, eo10⟩ := Kd.R_slice HO552.out
 (first | subst eo10 | (injection eo10 with f1_ f2_ f3_; have f4_ := f1_.symm; have f5_ := f3_.symm; clear f1_ f2_ f3_; subst f4_; subst f5_))
 refine hK.out _ _ ⟨(blk_cell BK548.out 0).trans rfl, (blk_cell BK548.out 1).trans rfl⟩ (fun hHeld => ?_); clear hK K; refine norm_ (a' := ?_) ?_ ?_; rotate_left
 ·show Act.put _ (some 8) _ = _
  simp only [Act.put, List.setIfInBounds_toArray, List.set_cons_zero, List.set_cons_succ, i64_w, i32_w]; rfl
 refine pure_ (i := 6) (N := some 9) (v := ?_) (a' := ?_) #[true, true, true, true, true, true, true, false] rfl rfl (any_of HT_.out (by kernel_rfl)) (fun _ _ _ h => h) (Or.inl ⟨by rfl, ?_⟩) ?_ ?_; rotate_left
 ·intro w'; go_simp; with_reducible rfl
 rotate_left
 ·simp only [Act.put, List.setIfInBounds_toArray, List.set_cons_zero, List.set_cons_succ, i64_w, i32_w]; rfl
 refine one_ (i := 7) (N := none) #[true, true, true, true, true, true, true, true] rfl rfl (one_of HT_.out (by kernel_rfl)) (by decide) (fun K hK => ?_); have hs11 : w8.cell? ⟨gb549, 0, none⟩ = some (.slice none 0 0) := (blk_cell BK549.out 0).trans rfl; have hfs11 := blk_frozen BK549.out 0; have hns11_0 := NB548_549.out; have hms11_0 := NB549_548.out; have hs12 : w8.cell? ⟨gb549, 1, none⟩ = some (.slice none 0 0) := (blk_cell BK549.out 1).trans rfl; have hfs12 := blk_frozen BK549.out 1; have hns12_0 := NB548_549.out; have hms12_0 := NB549_548.out; refine skip_ (w1 := ?_) (by rfl) rfl ?_ ?_; rotate_left
 ·go_simp; rfl
 refine hK.out _ _ ⟨((cell_far (p := ⟨gb549, _, none⟩) NB548_549.out _).trans (((cell_far (p := ⟨gb549, _, none⟩) NB548_549.out _).trans (hHeld.1)))), ((cell_far (p := ⟨gb549, _, none⟩) NB548_549.out _).trans (((cell_far (p := ⟨gb549, _, none⟩) NB548_549.out _).trans (hHeld.2))))⟩ (fun hHeld => ?_); clear hK K; refine done_ (done_of HT_.out (by kernel_rfl)) ?_
 try go_wp2
 refine bodyPost_ret (results_cell_row rfl _ _ gb549 30 #[.slice Ao10 t550.length co10, .slice Ao9 t553.length co9] (0, 0) _ rfl (by (with_reducible repeat (first | refine blk_drewN ?_ _ | refine blk_drew ?_ | refine blk_alloc ?_ _)); refine blk_put (cs := #[.slice Ao10 t550.length co10, .slice none 0 0]) ?_ 1 _ rfl; (with_reducible repeat (first | refine blk_drewN ?_ _ | refine blk_drew ?_ | refine blk_alloc ?_ _)); refine blk_put (cs := #[.slice none 0 0, .slice none 0 0]) ?_ 0 _ rfl; (with_reducible repeat (first | refine blk_drewN ?_ _ | refine blk_drew ?_ | refine blk_alloc ?_ _)); exact BK549.out) Try.underlying30 rfl (by kernel_rfl)) rfl ?_; exact ⟨_, _, by first | rfl | (simp [errW_none, errW_some] <;> rfl) | (simp [*, errW_none, errW_some] <;> rfl), by (with_reducible repeat (first | apply Kd.R_alloc | apply Kd.R_drewN | apply Kd.R_drew)); exact Kd.R_mono (Kd.R_far (p := ⟨gb549, 1, none⟩) (Kd.R_far (p := ⟨gb549, 0, none⟩) (Kd.R_types HO552.out BK549.out (by decide)) (fun _ hk => hk.2) (.slice Ao10 t550.length co10)) (fun _ hk => hk.2) (.slice Ao9 t553.length co9)) (fun _ hk => trivial), by (with_reducible repeat (first | apply Kd.R_alloc | apply Kd.R_drewN | apply Kd.R_drew)); exact Kd.R_mono (Kd.R_far (p := ⟨gb549, 1, none⟩) (Kd.R_far (p := ⟨gb549, 0, none⟩) (Kd.R_types HO555.out BK549.out (by decide)) (fun _ hk => hk.2) (.slice Ao10 t550.length co10)) (fun _ hk => hk.2) (.slice Ao9 t553.length co9)) (fun _ hk => trivial), zB HB⟩

end Go.Proofs.Ytkandhljbbolnaa.Q

namespace Go.Proofs.Ytkandhljbbolnaa.Q
open Go.RowKit Go.Proofs.YtkandhljbbolnaaL.PrintWords Go.Proofs.YtkandhljbbolnaaL.PrintLast Go.Proofs.YtkandhljbbolnaaL.PrintMore
attribute [local go_sem] max2_int min2_int max_two min_two max_three min_three max_four min_four   -- for this text's walks alone
set_option linter.unusedVariables false
set_option linter.unusedSimpArgs false

/-! ### impl_checked: function 83 -/
def impl_checked.f (k : Nat) (l0_0 : List Int) (l0_1 : List (S94)) (a1 : Bool) : Option (List Int × (List (S94)) × Bool) := if a1 = true then ((impl_ValidFlat.f k l0_0 l0_1).bind fun t558 => (if t558 = true then ((impl_Flat_copyOf.f l0_0 l0_1).bind fun bt559 => (some (bt559.1, bt559.2, true))) else (some (([] : List Int), ([] : List (S94)), false)))) else (some (([] : List Int), ([] : List (S94)), false))
theorem impl_checked.mono : ∀ a0 a1 a2 k, LeO (impl_checked.f k a0 a1 a2) (impl_checked.f (k + 1) a0 a1 a2) := by
 intro a0 a1 a2 k; unfold impl_checked.f
 repeat' first
   | (with_reducible exact impl_ValidFlat.mono _ _ _)
   | (with_reducible exact LeO.refl _)
   | (with_reducible exact LeO.none _)
   | (with_reducible refine LeO.ite ?_ ?_)
   | (with_reducible refine LeO.bind ?_ (fun _ => ?_))
   | exact impl_ValidFlat.mono _ _ _
   | exact LeO.none _
   | refine LeO.ite ?_ ?_
   | refine LeO.bind ?_ (fun _ => ?_)
set_option maxHeartbeats 8000000 in
set_option maxRecDepth 100000 in
theorem impl_checked.calls (k : Nat) (A0_0 : Option Addr) (c0_0 : Nat) (l0_0 : List Int) (A0_1 : Option Addr) (c0_1 : Nat) (l0_1 : List (S94)) (a1 : Bool) (r1 : List Int) (r2 : List (S94)) (r3 : Bool) (w : World) (hr0_0 : Kd.C (Kd.int .i64) w A0_0 l0_0.length l0_0) (hc0_0 : l0_0.length ≤ c0_0) (hr0_1 : Kd.C k94 w A0_1 l0_1.length l0_1) (hc0_1 : l0_1.length ≤ c0_1) (h : impl_checked.f k l0_0 l0_1 a1 = some (r1, r2, r3)) :
  Calls Try.prog 83 #[.agg #[.slice A0_0 l0_0.length c0_0, .slice A0_1 l0_1.length c0_1], .bool a1] w fun e w' => ∃ v0_ v1_ : Value, e = .returned (.tuple #[.agg #[v0_, v1_], .bool r3]) ∧ Kd.R (Kd.int .i64) 3 w' w.heap.size (fun _ => True) v0_ r1 ∧ Kd.R k94 94 w' w.heap.size (fun _ => True) v1_ r2 ∧ Below w.heap.size w w' := by
 have hu30 := Try.underlying30; have HR0_0 := Aside0.mk hr0_0; have HC0_0 := Aside0.mk hc0_0; clear hr0_0 hc0_0; have HR0_1 := Aside0.mk hr0_1; have HC0_1 := Aside0.mk hc0_1; clear hr0_1 hc0_1; have HB := Aside0.mk (Below.refl w.heap.size w); have H : (if a1 = true then ((impl_ValidFlat.f k l0_0 l0_1).bind fun t558 => (if t558 = true then ((impl_Flat_copyOf.f l0_0 l0_1).bind fun bt559 => (some (bt559.1, bt559.2, true))) else (some (([] : List Int), ([] : List (S94)), false)))) else (some (([] : List Int), ([] : List (S94)), false))) = some (r1, r2, r3) := h; clear h
 by_cases c3 : a1 = true
 ·subst c3; rw [if_pos rfl] at H; replace H := Option.bind_eq_some_iff.mp H; obtain ⟨t558, A40, H⟩ := H
  (try dsimp only at H)
  have A4 := Aside0.mk A40; clear A40
  by_cases c5 : t558 = true
  ·subst c5; rw [if_pos rfl] at H; replace H := Option.bind_eq_some_iff.mp H; obtain ⟨⟨t559, t562⟩, A60, H⟩ := H
   (try dsimp only at H)
   have A6 := Aside0.mk A60; clear A60; simp only [Option.some.injEq, Prod.mk.injEq] at H; obtain ⟨rfl, rfl, rfl⟩ := H; go_enter Try.func83, Try.ntmps83; go_wp2_with (first | ((with_reducible refine gate_dst (N := 2) rfl ?_); refine zx (N := 2) (cs := #[.slice A0_0 l0_0.length c0_0, .slice A0_1 l0_1.length c0_1]) (t := 30) ?_; intro gb556 hg w7 hbox hb; have BK556 := Aside0.mk (hbox); have GW556 := Aside0.mk ((by rw [hg]; exact (below_size (zB HB)) : w.heap.size ≤ gb556)); have GE556 := GW556; replace HB := Aside0.mk (below_step (zB HB) hb); clear hb hbox hg) | ((with_reducible refine gate_dst (N := 4) rfl ?_); refine zx (N := 4) (cs := #[.slice none 0 0, .slice none 0 0]) (t := 30) ?_; intro gb557 hg w8 hbox hb; have BK557 := Aside0.mk (hbox); have GW557 := Aside0.mk ((by rw [hg]; exact (below_size (zB HB)) : w.heap.size ≤ gb557)); have GE557 := GW557; replace HB := Aside0.mk (below_step (zB HB) hb); have NB556_557 := Aside0.mk ((by rw [hg]; exact Nat.ne_of_lt (blk_lt (g := gb556) (o := .cells #[.slice A0_0 l0_0.length c0_0, .slice A0_1 l0_1.length c0_1] 30 (0, 0)) (zb BK556)) : gb556 ≠ gb557)); have NB557_556 := Aside0.mk NB556_557.out.symm; replace BK556 := Aside0.mk (blk_below (g := gb556) (o := .cells #[.slice A0_0 l0_0.length c0_0, .slice A0_1 l0_1.length c0_1] 30 (0, 0)) (zb BK556) hb); clear hb hbox hg; have hnb9 := NB556_557.out; have hnc9 := NB557_556.out; have hcz10_0 : w8.cell? ⟨gb556, 0, none⟩ = some (.slice A0_0 l0_0.length c0_0) := (blk_cell BK556.out 0).trans rfl; have hcz10_1 : w8.cell? ⟨gb556, 1, none⟩ = some (.slice A0_1 l0_1.length c0_1) := (blk_cell BK556.out 1).trans rfl; have hfz10_0 := blk_frozen BK556.out 0; have hfz10_1 := blk_frozen BK556.out 1) | (go_at_call 18; (with_reducible refine (impl_ValidFlat.calls k _ _ l0_0 _ _ l0_1 true _ ?side1 ?side2 ?side3 ?side4 A4.out).mono ?_); (case side1 => repeat (first | exact (Kd.C_below HR0_0.out HB.out) | (with_reducible refine Kd.C_alloc ?_ _) | (with_reducible refine Kd.C_drewN ?_ _) | (with_reducible refine Kd.C_drew ?_))); (case side2 => exact HC0_0.out); (case side3 => repeat (first | exact (Kd.C_below HR0_1.out HB.out) | (with_reducible refine Kd.C_alloc ?_ _) | (with_reducible refine Kd.C_drewN ?_ _) | (with_reducible refine Kd.C_drew ?_))); (case side4 => exact HC0_1.out); rintro e w11 ⟨rfl, hb⟩; replace BK556 := Aside0.mk (blk_below (g := gb556) (o := .cells #[.slice A0_0 l0_0.length c0_0, .slice A0_1 l0_1.length c0_1] 30 (0, 0)) (zb BK556) hb); replace BK557 := Aside0.mk (blk_below (g := gb557) (o := .cells #[.slice none 0 0, .slice none 0 0] 30 (0, 0)) (zb BK557) hb); replace HB := Aside0.mk (below_step (zB HB) hb); (try clear hb); (try clear hb2); (try clear hk); (try clear hi); have hcz12_0 : w11.cell? ⟨gb556, 0, none⟩ = some (.slice A0_0 l0_0.length c0_0) := (blk_cell BK556.out 0).trans rfl; have hcz12_1 : w11.cell? ⟨gb556, 1, none⟩ = some (.slice A0_1 l0_1.length c0_1) := (blk_cell BK556.out 1).trans rfl; have hfz12_0 := blk_frozen BK556.out 0; have hfz12_1 := blk_frozen BK556.out 1) | ((with_reducible refine gate_callee (f := 96) rfl ?_); refine goesL_ (some 15) rfl rfl Try.func96 (by kernel_rfl) rfl #[.agg #[.slice A0_0 l0_0.length c0_0, .slice A0_1 l0_1.length c0_1]] rfl zl ?_; (with_reducible refine (impl_Flat_copyOf.calls _ _ l0_0 _ _ l0_1 t559 t562 _ ?side1 ?side2 ?side3 ?side4 A6.out).mono ?_); (case side1 => repeat (first | exact (Kd.C_below HR0_0.out HB.out) | (with_reducible refine Kd.C_alloc ?_ _) | (with_reducible refine Kd.C_drewN ?_ _) | (with_reducible refine Kd.C_drew ?_))); (case side2 => exact HC0_0.out); (case side3 => repeat (first | exact (Kd.C_below HR0_1.out HB.out) | (with_reducible refine Kd.C_alloc ?_ _) | (with_reducible refine Kd.C_drewN ?_ _) | (with_reducible refine Kd.C_drew ?_))); (case side4 => exact HC0_1.out); rintro e w13 ⟨v560, v563, rfl, ho0, ho1, hb⟩; refine ⟨_, rfl, ?_⟩; have HO561 := Aside0.mk (Kd.R_lower ho0 (below_size (zB HB))); have HO564 := Aside0.mk (Kd.R_lower ho1 (below_size (zB HB))); replace BK556 := Aside0.mk (blk_below (g := gb556) (o := .cells #[.slice A0_0 l0_0.length c0_0, .slice A0_1 l0_1.length c0_1] 30 (0, 0)) (zb BK556) hb); replace BK557 := Aside0.mk (blk_below (g := gb557) (o := .cells #[.slice none 0 0, .slice none 0 0] 30 (0, 0)) (zb BK557) hb); replace HB := Aside0.mk (below_step (zB HB) hb); (try clear hb); (try clear hb2); (try clear hk); (try clear hi); (try clear ho0); (try clear ho1); obtain ⟨Ao14, co14, eo14⟩ := Kd.R_slice HO561.out; subst eo14; have hcz15_0 : w13.cell? ⟨gb557, 0, none⟩ = some (.slice none 0 0) := (blk_cell BK557.out 0).trans rfl; have hcz15_1 : w13.cell? ⟨gb557, 1, none⟩ = some (.slice none 0 0) := (blk_cell BK557.out 1).trans rfl; have hfz15_0 := blk_frozen BK557.out 0; have hfz15_1 := blk_frozen BK557.out 1; obtain ⟨Ao16, co16, eo16⟩ := Kd.R_slice HO564.out; subst eo16)); refine bodyPost_ret (results_ct rfl _ _ gb557 30 #[.slice Ao14 t559.length co14, .slice Ao16 t562.length co16] (0, 0) _ rfl (by (with_reducible repeat (first | refine blk_drewN ?_ _ | refine blk_drew ?_ | refine blk_alloc ?_ _)); refine blk_put (cs := #[.slice Ao14 t559.length co14, .slice none 0 0]) ?_ 1 _ rfl; (with_reducible repeat (first | refine blk_drewN ?_ _ | refine blk_drew ?_ | refine blk_alloc ?_ _)); refine blk_put (cs := #[.slice none 0 0, .slice none 0 0]) ?_ 0 _ rfl; (with_reducible repeat (first | refine blk_drewN ?_ _ | refine blk_drew ?_ | refine blk_alloc ?_ _)); exact BK557.out) Try.underlying30 rfl (by kernel_rfl)) rfl ?_; exact ⟨_, _, by first | rfl | (simp [errW_none, errW_some] <;> rfl) | (simp [*, errW_none, errW_some] <;> rfl), by (with_reducible repeat (first | apply Kd.R_alloc | apply Kd.R_drewN | apply Kd.R_drew)); exact Kd.R_mono (Kd.R_far (p := ⟨gb557, 1, none⟩) (Kd.R_far (p := ⟨gb557, 0, none⟩) (Kd.R_types HO561.out BK557.out (by decide)) (fun _ hk => hk.2) (.slice Ao14 t559.length co14)) (fun _ hk => hk.2) (.slice Ao16 t562.length co16)) (fun _ hk => trivial), by (with_reducible repeat (first | apply Kd.R_alloc | apply Kd.R_drewN | apply Kd.R_drew)); exact Kd.R_mono (Kd.R_far (p := ⟨gb557, 1, none⟩) (Kd.R_far (p := ⟨gb557, 0, none⟩) (Kd.R_types HO564.out BK557.out (by decide)) (fun _ hk => hk.2) (.slice Ao14 t559.length co14)) (fun _ hk => hk.2) (.slice Ao16 t562.length co16)) (fun _ hk => trivial), zB HB⟩
  ·replace c5 := Bool.eq_false_iff.mpr c5; subst c5; rw [if_neg (show ¬ (false = true) by decide)] at H; simp only [Option.some.injEq, Prod.mk.injEq] at H; obtain ⟨rfl, rfl, rfl⟩ := H; go_enter Try.func83, Try.ntmps83; go_wp2_with (first | ((with_reducible refine gate_dst (N := 2) rfl ?_); refine zx (N := 2) (cs := #[.slice A0_0 l0_0.length c0_0, .slice A0_1 l0_1.length c0_1]) (t := 30) ?_; intro gb556 hg w17 hbox hb; have BK556 := Aside0.mk (hbox); have GW556 := Aside0.mk ((by rw [hg]; exact (below_size (zB HB)) : w.heap.size ≤ gb556)); have GE556 := GW556; replace HB := Aside0.mk (below_step (zB HB) hb); clear hb hbox hg) | ((with_reducible refine gate_dst (N := 4) rfl ?_); refine zx (N := 4) (cs := #[.slice none 0 0, .slice none 0 0]) (t := 30) ?_; intro gb557 hg w18 hbox hb; have BK557 := Aside0.mk (hbox); have GW557 := Aside0.mk ((by rw [hg]; exact (below_size (zB HB)) : w.heap.size ≤ gb557)); have GE557 := GW557; replace HB := Aside0.mk (below_step (zB HB) hb); have NB556_557 := Aside0.mk ((by rw [hg]; exact Nat.ne_of_lt (blk_lt (g := gb556) (o := .cells #[.slice A0_0 l0_0.length c0_0, .slice A0_1 l0_1.length c0_1] 30 (0, 0)) (zb BK556)) : gb556 ≠ gb557)); have NB557_556 := Aside0.mk NB556_557.out.symm; replace BK556 := Aside0.mk (blk_below (g := gb556) (o := .cells #[.slice A0_0 l0_0.length c0_0, .slice A0_1 l0_1.length c0_1] 30 (0, 0)) (zb BK556) hb); clear hb hbox hg; have hnb19 := NB556_557.out; have hnc19 := NB557_556.out; have hcz20_0 : w18.cell? ⟨gb556, 0, none⟩ = some (.slice A0_0 l0_0.length c0_0) := (blk_cell BK556.out 0).trans rfl; have hcz20_1 : w18.cell? ⟨gb556, 1, none⟩ = some (.slice A0_1 l0_1.length c0_1) := (blk_cell BK556.out 1).trans rfl; have hfz20_0 := blk_frozen BK556.out 0; have hfz20_1 := blk_frozen BK556.out 1) | (go_at_call 18; (with_reducible refine (impl_ValidFlat.calls k _ _ l0_0 _ _ l0_1 false _ ?side1 ?side2 ?side3 ?side4 A4.out).mono ?_); (case side1 => repeat (first | exact (Kd.C_below HR0_0.out HB.out) | (with_reducible refine Kd.C_alloc ?_ _) | (with_reducible refine Kd.C_drewN ?_ _) | (with_reducible refine Kd.C_drew ?_))); (case side2 => exact HC0_0.out); (case side3 => repeat (first | exact (Kd.C_below HR0_1.out HB.out) | (with_reducible refine Kd.C_alloc ?_ _) | (with_reducible refine Kd.C_drewN ?_ _) | (with_reducible refine Kd.C_drew ?_))); (case side4 => exact HC0_1.out); rintro e w21 ⟨rfl, hb⟩; replace BK556 := Aside0.mk (blk_below (g := gb556) (o := .cells #[.slice A0_0 l0_0.length c0_0, .slice A0_1 l0_1.length c0_1] 30 (0, 0)) (zb BK556) hb); replace BK557 := Aside0.mk (blk_below (g := gb557) (o := .cells #[.slice none 0 0, .slice none 0 0] 30 (0, 0)) (zb BK557) hb); replace HB := Aside0.mk (below_step (zB HB) hb); (try clear hb); (try clear hb2); (try clear hk); (try clear hi); have hcz22_0 : w21.cell? ⟨gb557, 0, none⟩ = some (.slice none 0 0) := (blk_cell BK557.out 0).trans rfl; have hcz22_1 : w21.cell? ⟨gb557, 1, none⟩ = some (.slice none 0 0) := (blk_cell BK557.out 1).trans rfl; have hfz22_0 := blk_frozen BK557.out 0; have hfz22_1 := blk_frozen BK557.out 1)); refine bodyPost_ret (results_ct rfl _ _ gb557 30 #[.slice none 0 0, .slice none 0 0] (0, 0) _ rfl (by (with_reducible repeat (first | refine blk_drewN ?_ _ | refine blk_drew ?_ | refine blk_alloc ?_ _)); refine blk_put (cs := #[.slice none 0 0, .slice none 0 0]) ?_ 1 _ rfl; (with_reducible repeat (first | refine blk_drewN ?_ _ | refine blk_drew ?_ | refine blk_alloc ?_ _)); refine blk_put (cs := #[.slice none 0 0, .slice none 0 0]) ?_ 0 _ rfl; (with_reducible repeat (first | refine blk_drewN ?_ _ | refine blk_drew ?_ | refine blk_alloc ?_ _)); exact BK557.out) Try.underlying30 rfl (by kernel_rfl)) rfl ?_; exact ⟨_, _, by first | rfl | (simp [errW_none, errW_some] <;> rfl) | (simp [*, errW_none, errW_some] <;> rfl), by first | exact Kd.R_nil _ _ _ _ _ | exact Kd.N_nil _ _ _ _ _ | exact Kd.V_nil _ _ _ _ _ | exact Kd.Q_nil _ _ _ _ _ | exact Kd.S_nil _ _ _ _ _, by first | exact Kd.R_nil _ _ _ _ _ | exact Kd.N_nil _ _ _ _ _ | exact Kd.V_nil _ _ _ _ _ | exact Kd.Q_nil _ _ _ _ _ | exact Kd.S_nil _ _ _ _ _, zB HB⟩
 ·replace c3 := Bool.eq_false_iff.mpr c3; subst c3; rw [if_neg (show ¬ (false = true) by decide)] at H; simp only [Option.some.injEq, Prod.mk.injEq] at H; obtain ⟨rfl, rfl, rfl⟩ := H; go_enter Try.func83, Try.ntmps83; go_wp2_with (first | ((with_reducible refine gate_dst (N := 2) rfl ?_); refine zx (N := 2) (cs := #[.slice A0_0 l0_0.length c0_0, .slice A0_1 l0_1.length c0_1]) (t := 30) ?_; intro gb556 hg w23 hbox hb; have BK556 := Aside0.mk (hbox); have GW556 := Aside0.mk ((by rw [hg]; exact (below_size (zB HB)) : w.heap.size ≤ gb556)); have GE556 := GW556; replace HB := Aside0.mk (below_step (zB HB) hb); clear hb hbox hg) | ((with_reducible refine gate_dst (N := 4) rfl ?_); refine zx (N := 4) (cs := #[.slice none 0 0, .slice none 0 0]) (t := 30) ?_; intro gb557 hg w24 hbox hb; have BK557 := Aside0.mk (hbox); have GW557 := Aside0.mk ((by rw [hg]; exact (below_size (zB HB)) : w.heap.size ≤ gb557)); have GE557 := GW557; replace HB := Aside0.mk (below_step (zB HB) hb); have NB556_557 := Aside0.mk ((by rw [hg]; exact Nat.ne_of_lt (blk_lt (g := gb556) (o := .cells #[.slice A0_0 l0_0.length c0_0, .slice A0_1 l0_1.length c0_1] 30 (0, 0)) (zb BK556)) : gb556 ≠ gb557)); have NB557_556 := Aside0.mk NB556_557.out.symm; replace BK556 := Aside0.mk (blk_below (g := gb556) (o := .cells #[.slice A0_0 l0_0.length c0_0, .slice A0_1 l0_1.length c0_1] 30 (0, 0)) (zb BK556) hb); clear hb hbox hg; have hnb25 := NB557_556.out; have hnc25 := NB556_557.out; have hcz26_0 : w24.cell? ⟨gb557, 0, none⟩ = some (.slice none 0 0) := (blk_cell BK557.out 0).trans rfl; have hcz26_1 : w24.cell? ⟨gb557, 1, none⟩ = some (.slice none 0 0) := (blk_cell BK557.out 1).trans rfl; have hfz26_0 := blk_frozen BK557.out 0; have hfz26_1 := blk_frozen BK557.out 1)); refine bodyPost_ret (results_ct rfl _ _ gb557 30 #[.slice none 0 0, .slice none 0 0] (0, 0) _ rfl (by (with_reducible repeat (first | refine blk_drewN ?_ _ | refine blk_drew ?_ | refine blk_alloc ?_ _)); refine blk_put (cs := #[.slice none 0 0, .slice none 0 0]) ?_ 1 _ rfl; (with_reducible repeat (first | refine blk_drewN ?_ _ | refine blk_drew ?_ | refine blk_alloc ?_ _)); refine blk_put (cs := #[.slice none 0 0, .slice none 0 0]) ?_ 0 _ rfl; (with_reducible repeat (first | refine blk_drewN ?_ _ | refine blk_drew ?_ | refine blk_alloc ?_ _)); exact BK557.out) Try.underlying30 rfl (by kernel_rfl)) rfl ?_; exact ⟨_, _, by first | rfl | (simp [errW_none, errW_some] <;> rfl) | (simp [*, errW_none, errW_some] <;> rfl), by first | exact Kd.R_nil _ _ _ _ _ | exact Kd.N_nil _ _ _ _ _ | exact Kd.V_nil _ _ _ _ _ | exact Kd.Q_nil _ _ _ _ _ | exact Kd.S_nil _ _ _ _ _, by first | exact Kd.R_nil _ _ _ _ _ | exact Kd.N_nil _ _ _ _ _ | exact Kd.V_nil _ _ _ _ _ | exact Kd.Q_nil _ _ _ _ _ | exact Kd.S_nil _ _ _ _ _, zB HB⟩

end Go.Proofs.Ytkandhljbbolnaa.Q
