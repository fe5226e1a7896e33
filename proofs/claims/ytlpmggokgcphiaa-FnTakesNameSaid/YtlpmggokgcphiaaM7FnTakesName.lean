-- written by px.py and merge.py (programs of this claim's), over the kit's print. Not trusted: Lean checks it.
import Derived.Test.YtlpmggokgcphiaaQ0
import Derived.Test.YtlpmggokgcphiaaM3FnTakesName
import Derived.Test.YtlpmggokgcphiaaM6FnTakesName
import Derived.Test.YtlpmggokgcphiaaM0FnTakesName
import Derived.Test.YtlpmggokgcphiaaM1FnTakesName
import Derived.Test.YtlpmggokgcphiaaM4FnTakesName
namespace Go.Proofs.Ytlpmggokgcphiaa.Q
open Go.RowKit Go.Proofs.YtlpmggokgcphiaaL.PrintWords Go.Proofs.YtlpmggokgcphiaaL.PrintLast Go.Proofs.YtlpmggokgcphiaaL.PrintMore
attribute [local go_sem] max2_int min2_int max_two min_two max_three min_three max_four min_four   -- for this text's walks alone
set_option linter.unusedVariables false
set_option linter.unusedSimpArgs false

/-! ### spec_newReader: function 52 -/
def spec_newReader.f (l0 : List Int) : Option (List Int × Int) := if (l0.length : Int) > 2000 then (if 2000 ≤ (l0.length : Int) then (some (l0.take 2000, 0)) else (none)) else (some (l0, 0))
set_option maxHeartbeats 8000000 in
set_option maxRecDepth 100000 in
theorem spec_newReader.calls (A0 : Option Addr) (c0 : Nat) (l0 : List Int) (r1 : List Int) (r2 : Int) (w0 w : World) (hB : Below w0.heap.size w0 w) (hr0 : Kd.C (Kd.int .u8) w0 A0 l0.length l0) (hc0 : l0.length ≤ c0) (h : spec_newReader.f l0 = some (r1, r2)) :
  Calls Try.prog 52 #[.slice A0 l0.length c0] w fun e w' => ∃ g_ : Nat, e = .returned (.pointer (some ⟨g_, 0, none⟩)) ∧ IsS117 w0 w' g_ r1 r2 ∧ Below w0.heap.size w0 w' ∧ Below w.heap.size w w' := by
 have hu117 := Try.underlying117; have HR0 := Aside0.mk hr0; have HC0 := Aside0.mk hc0; clear hr0 hc0; have HBW := Aside0.mk (Below.refl w.heap.size w); have HW0 := Aside0.mk hB.size; have HB := Aside0.mk hB; clear hB; have H : (if (l0.length : Int) > 2000 then (if 2000 ≤ (l0.length : Int) then (some (l0.take 2000, 0)) else (none)) else (some (l0, 0))) = some (r1, r2) := h; clear h
 by_cases c2 : (l0.length : Int) > 2000
 ·rw [if_pos c2] at H; have c2b0 : decide (2000 < (l0.length : Int)) = true := decide_eq_true c2; have c2b1 : decide (2000 < l0.length) = true := decide_eq_true (by omega); clear c2
  by_cases c3 : 2000 ≤ (l0.length : Int)
  ·rw [if_pos c3] at H; have c3b0 := eq_true c3; have c3b1 : decide (2000 ≤ (l0.length : Int)) = true := decide_eq_true c3; clear c3; simp only [Option.some.injEq, Prod.mk.injEq] at H; obtain ⟨rfl, rfl⟩ := H; obtain ⟨i04, hi04, _, hsz4, _⟩ := info_parts info5; obtain ⟨hcut4, hA4, hC4⟩ := print_take_of (P := Try.prog) (Value.int .u8) 0 22 5 .i64 Try.underlying22 hi04 hsz4 A0 c0 l0 2000 (by omega) (of_decide_eq_true za) HC0.out; have HR241 := Aside0.mk (Kd.C_of_reads (h1 := fun _ => rfl) (hA4 _ (Kd.reads_of_C HR0.out))); have HC241 := Aside0.mk hC4; clear hA4 hC4 hi04 hsz4; go_enter Try.func52, Try.ntmps52; go_wp2_with (first | ((with_reducible refine gate_dst (N := 10) rfl ?_); refine zx (N := 10) (cs := #[.slice A0 (l0.take 2000).length c0, .int .i64 0]) (t := 117) ?_; intro gb242 hg w5 hbox hb; replace HB := zh HB hb; have BK242 := Aside0.mk (hbox); have GW242 := Aside0.mk ((by rw [hg]; exact (below_size (zB HBW)) : w.heap.size ≤ gb242)); have GE242 := Aside0.mk (Nat.le_trans HW0.out GW242.out); replace HBW := Aside0.mk (below_step HBW.out hb); clear hb hbox hg)); go_ret; exact ⟨_, rfl, (show IsS117 w0 _ gb242 (l0.take 2000) 0 from ⟨_, _, by (with_reducible repeat (first | refine blk_drewN ?_ _ | refine blk_drew ?_ | refine blk_alloc ?_ _)); exact BK242.out, GE242.out, HR241.out⟩), by repeat (first | (with_reducible first | exact HB.out | apply below_alloc | apply pw_below_drewN | apply below_drew1 | refine below_set ?_ GE242.out) | exact HB.out), by repeat (first | (with_reducible first | exact HBW.out | apply below_alloc | apply pw_below_drewN | apply below_drew1 | refine below_set ?_ GW242.out) | exact HBW.out)⟩
  ·rw [if_neg c3] at H; exact absurd H (by simp)
 ·rw [if_neg c2] at H; have c2b0 : decide (2000 < (l0.length : Int)) = false := decide_eq_false c2; have c2b1 : decide (2000 < l0.length) = false := decide_eq_false (by omega); clear c2; simp only [Option.some.injEq, Prod.mk.injEq] at H; obtain ⟨rfl, rfl⟩ := H; go_enter Try.func52, Try.ntmps52; go_wp2_with (first | ((with_reducible refine gate_dst (N := 10) rfl ?_); refine zx (N := 10) (cs := #[.slice A0 l0.length c0, .int .i64 0]) (t := 117) ?_; intro gb243 hg w6 hbox hb; replace HB := zh HB hb; have BK243 := Aside0.mk (hbox); have GW243 := Aside0.mk ((by rw [hg]; exact (below_size (zB HBW)) : w.heap.size ≤ gb243)); have GE243 := Aside0.mk (Nat.le_trans HW0.out GW243.out); replace HBW := Aside0.mk (below_step HBW.out hb); clear hb hbox hg)); go_ret; exact ⟨_, rfl, (show IsS117 w0 _ gb243 l0 0 from ⟨_, _, by (with_reducible repeat (first | refine blk_drewN ?_ _ | refine blk_drew ?_ | refine blk_alloc ?_ _)); exact BK243.out, GE243.out, HR0.out⟩), by repeat (first | (with_reducible first | exact HB.out | apply below_alloc | apply pw_below_drewN | apply below_drew1 | refine below_set ?_ GE243.out) | exact HB.out), by repeat (first | (with_reducible first | exact HBW.out | apply below_alloc | apply pw_below_drewN | apply below_drew1 | refine below_set ?_ GW243.out) | exact HBW.out)⟩

end Go.Proofs.Ytlpmggokgcphiaa.Q

namespace Go.Proofs.Ytlpmggokgcphiaa.Q
open Go.RowKit Go.Proofs.YtlpmggokgcphiaaL.PrintWords Go.Proofs.YtlpmggokgcphiaaL.PrintLast Go.Proofs.YtlpmggokgcphiaaL.PrintMore
attribute [local go_sem] max2_int min2_int max_two min_two max_three min_three max_four min_four   -- for this text's walks alone
set_option linter.unusedVariables false
set_option linter.unusedSimpArgs false

theorem zi117_83 {w0 W W' : World} {g : Nat} {f0 f0' : List Int} {f1 f1' : Int} (h : Aside0 (IsS117 w0 W g f0 f1)) (i : IsS117 w0 W g f0 f1 → IsS117 w0 W' g f0' f1' := by intro hh_; repeat (first | (with_reducible first | exact hh_ | apply IsS117.alloc | apply IsS117.drewN | apply IsS117.drew | apply IsS117.set_1 | refine IsS117.far ?_ (Aside0.out (by assumption)) _) | exact hh_)) : IsS117 w0 W' g f0' f1' := i h.out
theorem zj117_83 {B : Nat} {w W W' : World} (h : Aside0 (Below B w W)) (i : Below B w W → Below B w W' := by intro hh_; repeat (first | (with_reducible first | exact hh_ | apply below_alloc | apply pw_below_drewN | apply below_drew1 | refine below_set ?_ (IsS117.ge (Aside0.out (by assumption))) | refine below_set ?_ (Aside0.out (by assumption))) | exact hh_)) : Below B w W' := i h.out
/-! ### spec_DrawTakesName: function 47 -/
def spec_DrawTakesName.f (k : Nat) (l0 : List Int) : Option ((List (S33)) × ByteArray) := (spec_newReader.f l0).bind fun bt1220 => ((spec_nameIn.f k bt1220.1 bt1220.2).bind fun bt1223 => (some (bt1223.1, bt1223.2.1)))
theorem spec_DrawTakesName.mono : ∀ a0 k, LeO (spec_DrawTakesName.f k a0) (spec_DrawTakesName.f (k + 1) a0) := by
 intro a0 k; unfold spec_DrawTakesName.f
 repeat' first
   | (with_reducible exact spec_nameIn.mono _ _ _)
   | (with_reducible exact LeO.refl _)
   | (with_reducible exact LeO.none _)
   | (with_reducible refine LeO.ite ?_ ?_)
   | (with_reducible refine LeO.bind ?_ (fun _ => ?_))
   | exact spec_nameIn.mono _ _ _
   | exact LeO.none _
   | refine LeO.ite ?_ ?_
   | refine LeO.bind ?_ (fun _ => ?_)
set_option maxHeartbeats 8000000 in
set_option maxRecDepth 100000 in
theorem spec_DrawTakesName.calls (k : Nat) (A0 : Option Addr) (c0 : Nat) (l0 : List Int) (r1 : List (S33)) (r2 : ByteArray) (w : World) (hr0 : Kd.C (Kd.int .u8) w A0 l0.length l0) (hc0 : l0.length ≤ c0) (h : spec_DrawTakesName.f k l0 = some (r1, r2)) :
  Calls Try.prog 47 #[.slice A0 l0.length c0] w fun e w' => ∃ v0_ : Value, e = .returned (.tuple #[.agg #[v0_], .string r2]) ∧ Kd.R k33 33 w' w.heap.size (fun _ => True) v0_ r1 ∧ Below w.heap.size w w' := by
 have hu25 := Try.underlying25; have HR0 := Aside0.mk hr0; have HC0 := Aside0.mk hc0; clear hr0 hc0; have HB := Aside0.mk (Below.refl w.heap.size w); have H : ((spec_newReader.f l0).bind fun bt1220 => ((spec_nameIn.f k bt1220.1 bt1220.2).bind fun bt1223 => (some (bt1223.1, bt1223.2.1)))) = some (r1, r2) := h; clear h; replace H := Option.bind_eq_some_iff.mp H; obtain ⟨⟨t1220, t1221⟩, A20, H⟩ := H
 (try dsimp only at H)
 have A2 := Aside0.mk A20; clear A20; replace H := Option.bind_eq_some_iff.mp H; obtain ⟨⟨t1223, t1226, t1227⟩, A30, H⟩ := H
 (try dsimp only at H)
 have A3 := Aside0.mk A30; clear A30; simp only [Option.some.injEq, Prod.mk.injEq] at H; obtain ⟨rfl, rfl⟩ := H; go_enter Try.func47, Try.ntmps47; go_wp2_with (first | ((with_reducible refine gate_dst (N := 2) rfl ?_); refine zx (N := 2) (cs := #[.slice none 0 0]) (t := 25) ?_; intro gb1219 hg w4 hbox hb; have BK1219 := Aside0.mk (hbox); have GW1219 := zg HB hg; have GE1219 := GW1219; replace HB := zh HB hb; clear hb hbox hg) | ((with_reducible refine gate_callee (f := 52) rfl ?_); refine goesL_ (some 5) rfl rfl Try.func52 (by kernel_rfl) rfl #[.slice A0 l0.length c0] rfl zl ?_; (with_reducible refine (spec_newReader.calls _ _ l0 t1220 t1221 w _ ?side1 ?side2 ?side3 A2.out).mono ?_); (case side1 => exact zB HB); (case side2 => exact HR0.out); (case side3 => exact HC0.out); rintro e w5 ⟨g1222, rfl, hi, hb, hb2⟩; refine ⟨_, rfl, ?_⟩; replace HB := Aside0.mk (hb); have HI1222 := Aside0.mk (hi); have NB1222_1219 := Aside0.mk (IsS117.ne_blk hi (blk_below (g := gb1219) (o := .cells #[.slice none 0 0] 25 (0, 0)) (zb BK1219) hb2) (by decide)); have NB1219_1222 := Aside0.mk (Ne.symm (IsS117.ne_blk hi (blk_below (g := gb1219) (o := .cells #[.slice none 0 0] 25 (0, 0)) (zb BK1219) hb2) (by decide))); replace BK1219 := Aside0.mk (blk_below (g := gb1219) (o := .cells #[.slice none 0 0] 25 (0, 0)) (zb BK1219) hb2); (try clear hb); (try clear hb2); (try clear hk); (try clear hi)) | ((with_reducible refine gate_callee (f := 51) rfl ?_); refine goesL_ (some 6) rfl rfl Try.func51 (by kernel_rfl) rfl #[.pointer (some ⟨g1222, 0, none⟩)] rfl zl ?_; (with_reducible refine (spec_nameIn.calls k g1222 t1220 t1221 t1223 t1226 t1227 w _ ?side1 ?side2 A3.out).mono ?_); (case side1 => exact zi117_83 HI1222); (case side2 => exact zj117_83 HB); rintro e w6 ⟨v1224, rfl, ho0, hi, hb, hk⟩; refine ⟨_, rfl, ?_⟩; replace BK1219 := zd BK1219 hk NB1219_1222; have HO1225 := Aside0.mk (Kd.R_lower ho0 (below_size (zj117_83 HB))); replace HB := Aside0.mk (hb); replace HI1222 := Aside0.mk (hi); (try clear hb); (try clear hb2); (try clear hk); (try clear hi); (try clear ho0); obtain ⟨Ao7, co7, eo7⟩ := Kd.R_slice HO1225.out; subst eo7; have hnb8 := NB1219_1222.out; have hnc8 := NB1222_1219.out; obtain ⟨hcz9_0, hfz9_0⟩ := zy1 BK1219)); refine bodyPost_ret (results_ct rfl _ _ gb1219 25 #[.slice Ao7 t1223.length co7] (0, 0) _ rfl (zbp BK1219) Try.underlying25 rfl (by kernel_rfl)) rfl ?_; exact ⟨_, by first | rfl | (simp [errW_none, errW_some] <;> rfl) | (simp [*, errW_none, errW_some] <;> rfl), by (with_reducible repeat (first | apply Kd.R_alloc | apply Kd.R_drewN | apply Kd.R_drew)); exact Kd.R_mono (Kd.R_far (p := ⟨gb1219, 0, none⟩) (Kd.R_types HO1225.out BK1219.out (by decide)) (fun _ hk => hk.2) (.slice Ao7 t1223.length co7)) (fun _ hk => trivial), by repeat (first | (with_reducible first | exact HB.out | apply below_alloc | apply pw_below_drewN | apply below_drew1 | refine below_set ?_ (IsS117.ge HI1222.out) | refine below_set ?_ GE1219.out) | exact HB.out)⟩

end Go.Proofs.Ytlpmggokgcphiaa.Q

namespace Go.Proofs.Ytlpmggokgcphiaa.Q
open Go.RowKit Go.Proofs.YtlpmggokgcphiaaL.PrintWords Go.Proofs.YtlpmggokgcphiaaL.PrintLast Go.Proofs.YtlpmggokgcphiaaL.PrintMore
attribute [local go_sem] max2_int min2_int max_two min_two max_three min_three max_four min_four   -- for this text's walks alone
set_option linter.unusedVariables false
set_option linter.unusedSimpArgs false

/-! ### impl_TakesName: function 48 -/
def impl_TakesName.f (k : Nat) (l0_0 : List (S33)) (a1 : ByteArray) : Option (Int) := (impl_ValidSignature.f k l0_0).bind fun t1229 => (if t1229 = true then ((impl_isName.f k a1).bind fun t1230 => (if t1230 = true then ((impl_Signature_takes.f l0_0 a1).bind fun t1231 => (some t1231)) else (some (-1)))) else (some (-1)))
theorem impl_TakesName.mono : ∀ a0 a1 k, LeO (impl_TakesName.f k a0 a1) (impl_TakesName.f (k + 1) a0 a1) := by
 intro a0 a1 k; unfold impl_TakesName.f
 repeat' first
   | (with_reducible exact impl_ValidSignature.mono _ _)
   | (with_reducible exact impl_isName.mono _ _)
   | (with_reducible exact LeO.refl _)
   | (with_reducible exact LeO.none _)
   | (with_reducible refine LeO.ite ?_ ?_)
   | (with_reducible refine LeO.bind ?_ (fun _ => ?_))
   | exact impl_ValidSignature.mono _ _
   | exact impl_isName.mono _ _
   | exact LeO.none _
   | refine LeO.ite ?_ ?_
   | refine LeO.bind ?_ (fun _ => ?_)
set_option maxHeartbeats 8000000 in
set_option maxRecDepth 100000 in
theorem impl_TakesName.calls (k : Nat) (A0_0 : Option Addr) (c0_0 : Nat) (l0_0 : List (S33)) (a1 : ByteArray) (r : Int) (w : World) (hr0_0 : Kd.C k33 w A0_0 l0_0.length l0_0) (hc0_0 : l0_0.length ≤ c0_0) (h : impl_TakesName.f k l0_0 a1 = some r) :
  Calls Try.prog 48 #[.agg #[.slice A0_0 l0_0.length c0_0], .string a1] w fun e w' => e = .returned (.int .i64 r) ∧ Below w.heap.size w w' := by
 have hu25 := Try.underlying25; have HR0_0 := Aside0.mk hr0_0; have HC0_0 := Aside0.mk hc0_0; clear hr0_0 hc0_0; have HB := Aside0.mk (Below.refl w.heap.size w); have H : ((impl_ValidSignature.f k l0_0).bind fun t1229 => (if t1229 = true then ((impl_isName.f k a1).bind fun t1230 => (if t1230 = true then ((impl_Signature_takes.f l0_0 a1).bind fun t1231 => (some t1231)) else (some (-1)))) else (some (-1)))) = some r := h; clear h; replace H := Option.bind_eq_some_iff.mp H; obtain ⟨t1229, A30, H⟩ := H
 (try dsimp only at H)
 have A3 := Aside0.mk A30; clear A30
 by_cases c4 : t1229 = true
 ·subst c4; rw [if_pos rfl] at H; replace H := Option.bind_eq_some_iff.mp H; obtain ⟨t1230, A50, H⟩ := H
  (try dsimp only at H)
  have A5 := Aside0.mk A50; clear A50
  by_cases c6 : t1230 = true
  ·subst c6; rw [if_pos rfl] at H; replace H := Option.bind_eq_some_iff.mp H; obtain ⟨t1231, A70, H⟩ := H
   (try dsimp only at H)
   have A7 := Aside0.mk A70; clear A70; obtain rfl := Option.some.inj H; go_enter Try.func48, Try.ntmps48; go_wp2_with (first | ((with_reducible refine gate_dst (N := 2) rfl ?_); refine zx (N := 2) (cs := #[.slice A0_0 l0_0.length c0_0]) (t := 25) ?_; intro gb1228 hg w8 hbox hb; have BK1228 := Aside0.mk (hbox); have GW1228 := zg HB hg; have GE1228 := GW1228; replace HB := zh HB hb; clear hb hbox hg; obtain ⟨hcz9_0, hfz9_0⟩ := zy1 BK1228) | ((with_reducible refine gate_callee (f := 20) rfl ?_); refine goesL_ (some 6) rfl rfl Try.func20 (by kernel_rfl) rfl #[.agg #[.slice A0_0 l0_0.length c0_0]] rfl zl ?_; (with_reducible refine (impl_ValidSignature.calls k _ _ l0_0 true _ ?side1 ?side2 A3.out).mono ?_); (case side1 => exact zC HR0_0 HB); (case side2 => exact HC0_0.out); rintro e w10 ⟨rfl, hb⟩; refine ⟨_, rfl, ?_⟩; replace BK1228 := zc BK1228 hb; replace HB := zh HB hb; (try clear hb); (try clear hb2); (try clear hk); (try clear hi)) | (go_at_call 59; (with_reducible refine (impl_isName.calls k a1 true _ A5.out).mono ?_); rintro e w' ⟨rfl, ⟨nd, rfl⟩⟩; obtain ⟨hcz11_0, hfz11_0⟩ := zy1 BK1228) | ((with_reducible refine gate_callee (f := 94) rfl ?_); refine goesL_ (some 15) rfl rfl Try.func94 (by kernel_rfl) rfl #[.agg #[.slice A0_0 l0_0.length c0_0], .string a1] rfl zl ?_; (with_reducible refine (impl_Signature_takes.calls _ _ l0_0 a1 t1231 _ ?side1 ?side2 A7.out).mono ?_); (case side1 => repeat (first | exact (Kd.C_below HR0_0.out (zB HB)) | (with_reducible refine Kd.C_alloc ?_ _) | (with_reducible refine Kd.C_drewN ?_ _) | (with_reducible refine Kd.C_drew ?_))); (case side2 => exact HC0_0.out); rintro e w12 ⟨rfl, hb⟩; refine ⟨_, rfl, ?_⟩; replace BK1228 := zc BK1228 hb; replace HB := zh HB hb; (try clear hb); (try clear hb2); (try clear hk); (try clear hi))); go_ret; exact ⟨zv, zB HB⟩
  ·replace c6 := Bool.eq_false_iff.mpr c6; subst c6; rw [if_neg (show ¬ (false = true) by decide)] at H; obtain rfl := Option.some.inj H; go_enter Try.func48, Try.ntmps48; go_wp2_with (first | ((with_reducible refine gate_dst (N := 2) rfl ?_); refine zx (N := 2) (cs := #[.slice A0_0 l0_0.length c0_0]) (t := 25) ?_; intro gb1228 hg w13 hbox hb; have BK1228 := Aside0.mk (hbox); have GW1228 := zg HB hg; have GE1228 := GW1228; replace HB := zh HB hb; clear hb hbox hg; obtain ⟨hcz14_0, hfz14_0⟩ := zy1 BK1228) | ((with_reducible refine gate_callee (f := 20) rfl ?_); refine goesL_ (some 6) rfl rfl Try.func20 (by kernel_rfl) rfl #[.agg #[.slice A0_0 l0_0.length c0_0]] rfl zl ?_; (with_reducible refine (impl_ValidSignature.calls k _ _ l0_0 true _ ?side1 ?side2 A3.out).mono ?_); (case side1 => exact zC HR0_0 HB); (case side2 => exact HC0_0.out); rintro e w15 ⟨rfl, hb⟩; refine ⟨_, rfl, ?_⟩; replace BK1228 := zc BK1228 hb; replace HB := zh HB hb; (try clear hb); (try clear hb2); (try clear hk); (try clear hi)) | (go_at_call 59; (with_reducible refine (impl_isName.calls k a1 false _ A5.out).mono ?_); rintro e w' ⟨rfl, ⟨nd, rfl⟩⟩)); go_ret; exact ⟨zv, zB HB⟩
 ·replace c4 := Bool.eq_false_iff.mpr c4; subst c4; rw [if_neg (show ¬ (false = true) by decide)] at H; obtain rfl := Option.some.inj H; go_enter Try.func48, Try.ntmps48; go_wp2_with (first | ((with_reducible refine gate_dst (N := 2) rfl ?_); refine zx (N := 2) (cs := #[.slice A0_0 l0_0.length c0_0]) (t := 25) ?_; intro gb1228 hg w16 hbox hb; have BK1228 := Aside0.mk (hbox); have GW1228 := zg HB hg; have GE1228 := GW1228; replace HB := zh HB hb; clear hb hbox hg; obtain ⟨hcz17_0, hfz17_0⟩ := zy1 BK1228) | ((with_reducible refine gate_callee (f := 20) rfl ?_); refine goesL_ (some 6) rfl rfl Try.func20 (by kernel_rfl) rfl #[.agg #[.slice A0_0 l0_0.length c0_0]] rfl zl ?_; (with_reducible refine (impl_ValidSignature.calls k _ _ l0_0 false _ ?side1 ?side2 A3.out).mono ?_); (case side1 => exact zC HR0_0 HB); (case side2 => exact HC0_0.out); rintro e w18 ⟨rfl, hb⟩; refine ⟨_, rfl, ?_⟩; replace BK1228 := zc BK1228 hb; replace HB := zh HB hb; (try clear hb); (try clear hb2); (try clear hk); (try clear hi))); go_ret; exact ⟨zv, zB HB⟩

end Go.Proofs.Ytlpmggokgcphiaa.Q

namespace Go.Proofs.Ytlpmggokgcphiaa.Q
open Go.RowKit Go.Proofs.YtlpmggokgcphiaaL.PrintWords Go.Proofs.YtlpmggokgcphiaaL.PrintLast Go.Proofs.YtlpmggokgcphiaaL.PrintMore
attribute [local go_sem] max2_int min2_int max_two min_two max_three min_three max_four min_four   -- for this text's walks alone
set_option linter.unusedVariables false
set_option linter.unusedSimpArgs false

/-! ### spec_validSignature: function 56 -/
def spec_validSignature.f (k : Nat) (l0_0 : List (S33)) : Option (Bool) := (spec_validParams.f k l0_0).bind fun t305 => (some t305)
theorem spec_validSignature.mono : ∀ a0 k, LeO (spec_validSignature.f k a0) (spec_validSignature.f (k + 1) a0) := by
 intro a0 k; unfold spec_validSignature.f
 repeat' first
   | (with_reducible exact spec_validParams.mono _ _)
   | (with_reducible exact LeO.refl _)
   | (with_reducible exact LeO.none _)
   | (with_reducible refine LeO.ite ?_ ?_)
   | (with_reducible refine LeO.bind ?_ (fun _ => ?_))
   | exact spec_validParams.mono _ _
   | exact LeO.none _
   | refine LeO.ite ?_ ?_
   | refine LeO.bind ?_ (fun _ => ?_)
set_option maxHeartbeats 8000000 in
set_option maxRecDepth 100000 in
theorem spec_validSignature.calls (k : Nat) (A0_0 : Option Addr) (c0_0 : Nat) (l0_0 : List (S33)) (r : Bool) (w : World) (hr0_0 : Kd.C k33 w A0_0 l0_0.length l0_0) (hc0_0 : l0_0.length ≤ c0_0) (h : spec_validSignature.f k l0_0 = some r) :
  Calls Try.prog 56 #[.agg #[.slice A0_0 l0_0.length c0_0]] w fun e w' => e = .returned (.bool r) ∧ Below w.heap.size w w' := by
 have hu25 := Try.underlying25; have HR0_0 := Aside0.mk hr0_0; have HC0_0 := Aside0.mk hc0_0; clear hr0_0 hc0_0; have HB := Aside0.mk (Below.refl w.heap.size w); have H : ((spec_validParams.f k l0_0).bind fun t305 => (some t305)) = some r := h; clear h; replace H := Option.bind_eq_some_iff.mp H; obtain ⟨t305, A20, H⟩ := H
 (try dsimp only at H)
 have A2 := Aside0.mk A20; clear A20; obtain rfl := Option.some.inj H; go_enter Try.func56, Try.ntmps56; go_wp2_with (first | ((with_reducible refine gate_dst (N := 1) rfl ?_); refine zx (N := 1) (cs := #[.slice A0_0 l0_0.length c0_0]) (t := 25) ?_; intro gb304 hg w3 hbox hb; have BK304 := Aside0.mk (hbox); have GW304 := zg HB hg; have GE304 := GW304; replace HB := zh HB hb; clear hb hbox hg; obtain ⟨hcz4_0, hfz4_0⟩ := zy1 BK304) | ((with_reducible refine gate_callee (f := 102) rfl ?_); refine goesL_ (some 5) rfl rfl Try.func102 (by kernel_rfl) rfl #[.slice A0_0 l0_0.length c0_0] rfl zl ?_; (with_reducible refine (spec_validParams.calls k _ _ l0_0 t305 _ ?side1 ?side2 A2.out).mono ?_); (case side1 => exact zC HR0_0 HB); (case side2 => exact HC0_0.out); rintro e w5 ⟨rfl, hb⟩; refine ⟨_, rfl, ?_⟩; replace BK304 := zc BK304 hb; replace HB := zh HB hb; (try clear hb); (try clear hb2); (try clear hk); (try clear hi))); go_ret; exact ⟨zv, zB HB⟩

end Go.Proofs.Ytlpmggokgcphiaa.Q

namespace Go.Proofs.Ytlpmggokgcphiaa.Q
open Go.RowKit Go.Proofs.YtlpmggokgcphiaaL.PrintWords Go.Proofs.YtlpmggokgcphiaaL.PrintLast Go.Proofs.YtlpmggokgcphiaaL.PrintMore
attribute [local go_sem] max2_int min2_int max_two min_two max_three min_three max_four min_four   -- for this text's walks alone
set_option linter.unusedVariables false
set_option linter.unusedSimpArgs false

/-! ### spec_kindAt: function 112 -/
def spec_kindAt.l0 : Nat → List (S33) → Int → Int → Option (Int)
 | 0, _, _, _ => none
 | k + 1, x0, x1, x5 => if x5 < (x0.length : Int) then (if 0 ≤ x5 then (if ((rd_T33 x0 x5).f1) = x1 then (some x5) else (spec_kindAt.l0 k x0 x1 (wrap64 (x5 + 1)))) else (none)) else (some (-1))
def spec_kindAt.f (k : Nat) (l0 : List (S33)) (a1 : Int) : Option (Int) := spec_kindAt.l0 k l0 a1 0
theorem spec_kindAt.mono_l : ∀ k, (∀ y0 y1 y2, LeO (spec_kindAt.l0 k y0 y1 y2) (spec_kindAt.l0 (k + 1) y0 y1 y2))
 | 0 => fun _ _ _ r h => by simp [spec_kindAt.l0] at h
 | k + 1 => by
  have ih0 := spec_kindAt.mono_l k
  ·intro y0 y1 y2; unfold spec_kindAt.l0
   repeat' first
   | (with_reducible exact ih0 _ _ _)
   | (with_reducible exact LeO.refl _)
   | (with_reducible exact LeO.none _)
   | (with_reducible refine LeO.ite ?_ ?_)
   | (with_reducible refine LeO.bind ?_ (fun _ => ?_))
   | exact ih0 _ _ _
   | exact LeO.none _
   | refine LeO.ite ?_ ?_
   | refine LeO.bind ?_ (fun _ => ?_)
theorem spec_kindAt.mono : ∀ a0 a1 k, LeO (spec_kindAt.f k a0 a1) (spec_kindAt.f (k + 1) a0 a1) := by
 intro a0 a1 k; have ih0 := spec_kindAt.mono_l k; unfold spec_kindAt.f
 repeat' first
   | (with_reducible exact ih0 _ _ _)
   | (with_reducible exact LeO.refl _)
   | (with_reducible exact LeO.none _)
   | (with_reducible refine LeO.ite ?_ ?_)
   | (with_reducible refine LeO.bind ?_ (fun _ => ?_))
   | exact ih0 _ _ _
   | exact LeO.none _
   | refine LeO.ite ?_ ?_
   | refine LeO.bind ?_ (fun _ => ?_)
set_option maxHeartbeats 8000000 in
set_option maxRecDepth 100000 in
theorem spec_kindAt.calls (k : Nat) (A0 : Option Addr) (c0 : Nat) (l0 : List (S33)) (a1 : Int) (r : Int) (w : World) (hr0 : Kd.C k33 w A0 l0.length l0) (hc0 : l0.length ≤ c0) (h : spec_kindAt.f k l0 a1 = some r) :
  Calls Try.prog 112 #[.slice A0 l0.length c0, .int .i64 a1] w fun e w' => e = .returned (.int .i64 r) ∧ Drawn0 w w' := by
 have HR0 := Aside0.mk hr0; have HC0 := Aside0.mk hc0; clear hr0 hc0; have H : (spec_kindAt.l0 k l0 a1 0) = some r := h; clear h; have H' := Aside0.mk H; clear H; go_enter Try.func112, Try.ntmps112; go_wp2; go_loopg [5] k (fun kq v5 w' => ∃ (x5_1 : Int), v5 = .int .i64 x5_1 ∧ Aside0 (spec_kindAt.l0 kq l0 a1 x5_1 = some r) ∧ Aside0 (kq ≤ k) ∧ Drawn0 w w')
 case atStart => exact ⟨(0), zr, H', ⟨Nat.le_refl _⟩, by repeat (first | exact Drawn0.refl _ | apply Drawn0.step)⟩
 case round =>
  clear H'; (try clear c1); (try clear p2); obtain ⟨x5_1, rfl, HA, HK1, ⟨m1, rfl⟩⟩ := hrel
  cases gk with
  | zero => exact absurd HA.out (by simp [spec_kindAt.l0])
  | succ k1 =>
   have H := HA.out; clear HA; simp only [spec_kindAt.l0] at H
   by_cases c3 : x5_1 < (l0.length : Int)
   ·rw [if_pos c3] at H; have c3b0 : decide (x5_1 < (l0.length : Int)) = true := decide_eq_true c3; clear c3
    by_cases c4 : 0 ≤ x5_1
    ·rw [if_pos c4] at H; have c4b0 : decide (0 ≤ x5_1) = true := decide_eq_true c4; clear c4
     by_cases c5 : ((rd_T33 l0 x5_1).f1) = a1
     ·rw [if_pos c5] at H; have c5b0 : (((rd_T33 l0 x5_1).f1) == a1) = true := beq_iff_eq.mpr c5; have c5b1 : (((rd_T33 l0 x5_1).f1) != a1) = false := bne_eq_false_iff_eq.mpr c5; clear c5; obtain rfl := Option.some.inj H; have p860 : 0 ≤ (x5_1 : Int) := of_decide_eq_true za; have q860 : x5_1 < (l0.length : Int) := of_decide_eq_true za; obtain ⟨ad860, e860, hx860_0, hx860_1, hx860_2, hx860_3⟩ := at_T33 HR0.out x5_1 p860 q860
      cases e860
      replace p860 := eq_true p860; replace q860 := eq_true q860; go_wp2; go_ret; exact ⟨by first | rfl | (simp; done) | (simp [*]; done), by repeat (first | exact Drawn0.refl _ | apply Drawn0.step)⟩
     ·rw [if_neg c5] at H; have c5b0 : (((rd_T33 l0 x5_1).f1) == a1) = false := beq_eq_false_iff_ne.mpr c5; have c5b1 : (((rd_T33 l0 x5_1).f1) != a1) = true := bne_iff_ne.mpr c5; have H' := Aside0.mk H; clear H; have p860 : 0 ≤ (x5_1 : Int) := of_decide_eq_true za; have q860 : x5_1 < (l0.length : Int) := of_decide_eq_true za; obtain ⟨ad860, e860, hx860_0, hx860_1, hx860_2, hx860_3⟩ := at_T33 HR0.out x5_1 p860 q860
      cases e860
      replace p860 := eq_true p860; replace q860 := eq_true q860; go_wp2; go_roundg k1
      case measure => have := HK1.out; omega
      case rel => exact ⟨(wrap64 (x5_1 + 1)), zr, H', ⟨by have := HK1.out; omega⟩, by repeat (first | exact Drawn0.refl _ | apply Drawn0.step)⟩
    ·rw [if_neg c4] at H; exact absurd H (by simp)
   ·rw [if_neg c3] at H; have c3b0 : decide (x5_1 < (l0.length : Int)) = false := decide_eq_false c3; clear c3; obtain rfl := Option.some.inj H; go_wp2; go_ret; exact ⟨by first | rfl | (simp; done) | (simp [*]; done), by repeat (first | exact Drawn0.refl _ | apply Drawn0.step)⟩

/-! ### spec_isWrapper: function 83 -/
def spec_isWrapper.f (k : Nat) (l0_0 : List (S33)) : Option (Bool) := (spec_validSignature.f k l0_0).bind fun t862 => (if t862 = true then ((spec_kindAt.f k l0_0 2).bind fun t863 => (if t863 ≥ 0 then ((spec_kindAt.f k l0_0 4).bind fun t864 => (some (decide (t864 ≥ 0)))) else (some false))) else (some false))
theorem spec_isWrapper.mono : ∀ a0 k, LeO (spec_isWrapper.f k a0) (spec_isWrapper.f (k + 1) a0) := by
 intro a0 k; unfold spec_isWrapper.f
 repeat' first
   | (with_reducible exact spec_kindAt.mono _ _ _)
   | (with_reducible exact spec_validSignature.mono _ _)
   | (with_reducible exact LeO.refl _)
   | (with_reducible exact LeO.none _)
   | (with_reducible refine LeO.ite ?_ ?_)
   | (with_reducible refine LeO.bind ?_ (fun _ => ?_))
   | exact spec_kindAt.mono _ _ _
   | exact spec_validSignature.mono _ _
   | exact LeO.none _
   | refine LeO.ite ?_ ?_
   | refine LeO.bind ?_ (fun _ => ?_)
set_option maxHeartbeats 8000000 in
set_option maxRecDepth 100000 in
theorem spec_isWrapper.calls (k : Nat) (A0_0 : Option Addr) (c0_0 : Nat) (l0_0 : List (S33)) (r : Bool) (w : World) (hr0_0 : Kd.C k33 w A0_0 l0_0.length l0_0) (hc0_0 : l0_0.length ≤ c0_0) (h : spec_isWrapper.f k l0_0 = some r) :
  Calls Try.prog 83 #[.agg #[.slice A0_0 l0_0.length c0_0]] w fun e w' => e = .returned (.bool r) ∧ Below w.heap.size w w' := by
 have hu25 := Try.underlying25; have HR0_0 := Aside0.mk hr0_0; have HC0_0 := Aside0.mk hc0_0; clear hr0_0 hc0_0; have HB := Aside0.mk (Below.refl w.heap.size w); have H : ((spec_validSignature.f k l0_0).bind fun t862 => (if t862 = true then ((spec_kindAt.f k l0_0 2).bind fun t863 => (if t863 ≥ 0 then ((spec_kindAt.f k l0_0 4).bind fun t864 => (some (decide (t864 ≥ 0)))) else (some false))) else (some false))) = some r := h; clear h; replace H := Option.bind_eq_some_iff.mp H; obtain ⟨t862, A20, H⟩ := H
 (try dsimp only at H)
 have A2 := Aside0.mk A20; clear A20
 by_cases c3 : t862 = true
 ·subst c3; rw [if_pos rfl] at H; replace H := Option.bind_eq_some_iff.mp H; obtain ⟨t863, A40, H⟩ := H
  (try dsimp only at H)
  have A4 := Aside0.mk A40; clear A40
  by_cases c5 : t863 ≥ 0
  ·rw [if_pos c5] at H; have c5b0 : decide (0 ≤ t863) = true := decide_eq_true c5; clear c5; replace H := Option.bind_eq_some_iff.mp H; obtain ⟨t864, A60, H⟩ := H
   (try dsimp only at H)
   have A6 := Aside0.mk A60; clear A60; obtain rfl := Option.some.inj H; go_enter Try.func83, Try.ntmps83; go_wp2_with (first | ((with_reducible refine gate_dst (N := 1) rfl ?_); refine zx (N := 1) (cs := #[.slice A0_0 l0_0.length c0_0]) (t := 25) ?_; intro gb861 hg w7 hbox hb; have BK861 := Aside0.mk (hbox); have GW861 := zg HB hg; have GE861 := GW861; replace HB := zh HB hb; clear hb hbox hg; obtain ⟨hcz8_0, hfz8_0⟩ := zy1 BK861) | ((with_reducible refine gate_callee (f := 56) rfl ?_); refine goesL_ (some 4) rfl rfl Try.func56 (by kernel_rfl) rfl #[.agg #[.slice A0_0 l0_0.length c0_0]] rfl zl ?_; (with_reducible refine (spec_validSignature.calls k _ _ l0_0 true _ ?side1 ?side2 A2.out).mono ?_); (case side1 => exact zC HR0_0 HB); (case side2 => exact HC0_0.out); rintro e w9 ⟨rfl, hb⟩; refine ⟨_, rfl, ?_⟩; replace BK861 := zc BK861 hb; replace HB := zh HB hb; (try clear hb); (try clear hb2); (try clear hk); (try clear hi); obtain ⟨hcz10_0, hfz10_0⟩ := zy1 BK861) | (go_at_call 112; (with_reducible refine (spec_kindAt.calls k _ _ l0_0 2 t863 _ ?side1 ?side2 A4.out).mono ?_); (case side1 => exact zC HR0_0 HB); (case side2 => exact HC0_0.out); rintro e w' ⟨rfl, ⟨nd, rfl⟩⟩) | (go_at_call 112; (with_reducible refine (spec_kindAt.calls k _ _ l0_0 4 t864 _ ?side1 ?side2 A6.out).mono ?_); (case side1 => repeat (first | exact (Kd.C_below HR0_0.out (zB HB)) | (with_reducible refine Kd.C_alloc ?_ _) | (with_reducible refine Kd.C_drewN ?_ _) | (with_reducible refine Kd.C_drew ?_))); (case side2 => exact HC0_0.out); rintro e w' ⟨rfl, ⟨nd, rfl⟩⟩)); go_ret; exact ⟨zv, zB HB⟩
  ·rw [if_neg c5] at H; have c5b0 : decide (0 ≤ t863) = false := decide_eq_false c5; clear c5; obtain rfl := Option.some.inj H; go_enter Try.func83, Try.ntmps83; go_wp2_with (first | ((with_reducible refine gate_dst (N := 1) rfl ?_); refine zx (N := 1) (cs := #[.slice A0_0 l0_0.length c0_0]) (t := 25) ?_; intro gb861 hg w11 hbox hb; have BK861 := Aside0.mk (hbox); have GW861 := zg HB hg; have GE861 := GW861; replace HB := zh HB hb; clear hb hbox hg; obtain ⟨hcz12_0, hfz12_0⟩ := zy1 BK861) | ((with_reducible refine gate_callee (f := 56) rfl ?_); refine goesL_ (some 4) rfl rfl Try.func56 (by kernel_rfl) rfl #[.agg #[.slice A0_0 l0_0.length c0_0]] rfl zl ?_; (with_reducible refine (spec_validSignature.calls k _ _ l0_0 true _ ?side1 ?side2 A2.out).mono ?_); (case side1 => exact zC HR0_0 HB); (case side2 => exact HC0_0.out); rintro e w13 ⟨rfl, hb⟩; refine ⟨_, rfl, ?_⟩; replace BK861 := zc BK861 hb; replace HB := zh HB hb; (try clear hb); (try clear hb2); (try clear hk); (try clear hi); obtain ⟨hcz14_0, hfz14_0⟩ := zy1 BK861) | (go_at_call 112; (with_reducible refine (spec_kindAt.calls k _ _ l0_0 2 t863 _ ?side1 ?side2 A4.out).mono ?_); (case side1 => exact zC HR0_0 HB); (case side2 => exact HC0_0.out); rintro e w' ⟨rfl, ⟨nd, rfl⟩⟩)); go_ret; exact ⟨zv, zB HB⟩
 ·replace c3 := Bool.eq_false_iff.mpr c3; subst c3; rw [if_neg (show ¬ (false = true) by decide)] at H; obtain rfl := Option.some.inj H; go_enter Try.func83, Try.ntmps83; go_wp2_with (first | ((with_reducible refine gate_dst (N := 1) rfl ?_); refine zx (N := 1) (cs := #[.slice A0_0 l0_0.length c0_0]) (t := 25) ?_; intro gb861 hg w15 hbox hb; have BK861 := Aside0.mk (hbox); have GW861 := zg HB hg; have GE861 := GW861; replace HB := zh HB hb; clear hb hbox hg; obtain ⟨hcz16_0, hfz16_0⟩ := zy1 BK861) | ((with_reducible refine gate_callee (f := 56) rfl ?_); refine goesL_ (some 4) rfl rfl Try.func56 (by kernel_rfl) rfl #[.agg #[.slice A0_0 l0_0.length c0_0]] rfl zl ?_; (with_reducible refine (spec_validSignature.calls k _ _ l0_0 false _ ?side1 ?side2 A2.out).mono ?_); (case side1 => exact zC HR0_0 HB); (case side2 => exact HC0_0.out); rintro e w17 ⟨rfl, hb⟩; refine ⟨_, rfl, ?_⟩; replace BK861 := zc BK861 hb; replace HB := zh HB hb; (try clear hb); (try clear hb2); (try clear hk); (try clear hi))); go_ret; exact ⟨zv, zB HB⟩

end Go.Proofs.Ytlpmggokgcphiaa.Q

namespace Go.Proofs.Ytlpmggokgcphiaa.Q
open Go.RowKit Go.Proofs.YtlpmggokgcphiaaL.PrintWords Go.Proofs.YtlpmggokgcphiaaL.PrintLast Go.Proofs.YtlpmggokgcphiaaL.PrintMore
attribute [local go_sem] max2_int min2_int max_two min_two max_three min_three max_four min_four   -- for this text's walks alone
set_option linter.unusedVariables false
set_option linter.unusedSimpArgs false

/-! ### spec_takesName: function 96 -/
def spec_takesName.f (k : Nat) (l0_0 : List (S33)) (a1 : ByteArray) : Option (Int) := (spec_findParam.f k l0_0 a1).bind fun t1233 => (if t1233 ≥ 0 then (if 0 ≤ t1233 then (if t1233 < (l0_0.length : Int) then ((spec_byName.f ((rd_T33 l0_0 t1233).f0) ((rd_T33 l0_0 t1233).f1) ((rd_T33 l0_0 t1233).f2) ((rd_T33 l0_0 t1233).f3)).bind fun t1235 => (if t1235 = true then (some t1233) else ((spec_kindAt.f k l0_0 4).bind fun t1236 => (some t1236)))) else (none)) else (none)) else ((spec_kindAt.f k l0_0 4).bind fun t1237 => (some t1237)))
theorem spec_takesName.mono : ∀ a0 a1 k, LeO (spec_takesName.f k a0 a1) (spec_takesName.f (k + 1) a0 a1) := by
 intro a0 a1 k; unfold spec_takesName.f
 repeat' first
   | (with_reducible exact spec_findParam.mono _ _ _)
   | (with_reducible exact spec_kindAt.mono _ _ _)
   | (with_reducible exact LeO.refl _)
   | (with_reducible exact LeO.none _)
   | (with_reducible refine LeO.ite ?_ ?_)
   | (with_reducible refine LeO.bind ?_ (fun _ => ?_))
   | exact spec_findParam.mono _ _ _
   | exact spec_kindAt.mono _ _ _
   | exact LeO.none _
   | refine LeO.ite ?_ ?_
   | refine LeO.bind ?_ (fun _ => ?_)
set_option maxHeartbeats 8000000 in
set_option maxRecDepth 100000 in
theorem spec_takesName.calls (k : Nat) (A0_0 : Option Addr) (c0_0 : Nat) (l0_0 : List (S33)) (a1 : ByteArray) (r : Int) (w : World) (hr0_0 : Kd.C k33 w A0_0 l0_0.length l0_0) (hc0_0 : l0_0.length ≤ c0_0) (h : spec_takesName.f k l0_0 a1 = some r) :
  Calls Try.prog 96 #[.agg #[.slice A0_0 l0_0.length c0_0], .string a1] w fun e w' => e = .returned (.int .i64 r) ∧ Below w.heap.size w w' := by
 have hu25 := Try.underlying25; have hu33 := Try.underlying33; have HR0_0 := Aside0.mk hr0_0; have HC0_0 := Aside0.mk hc0_0; clear hr0_0 hc0_0; have HB := Aside0.mk (Below.refl w.heap.size w); have H : ((spec_findParam.f k l0_0 a1).bind fun t1233 => (if t1233 ≥ 0 then (if 0 ≤ t1233 then (if t1233 < (l0_0.length : Int) then ((spec_byName.f ((rd_T33 l0_0 t1233).f0) ((rd_T33 l0_0 t1233).f1) ((rd_T33 l0_0 t1233).f2) ((rd_T33 l0_0 t1233).f3)).bind fun t1235 => (if t1235 = true then (some t1233) else ((spec_kindAt.f k l0_0 4).bind fun t1236 => (some t1236)))) else (none)) else (none)) else ((spec_kindAt.f k l0_0 4).bind fun t1237 => (some t1237)))) = some r := h; clear h; replace H := Option.bind_eq_some_iff.mp H; obtain ⟨t1233, A30, H⟩ := H
 (try dsimp only at H)
 have A3 := Aside0.mk A30; clear A30
 by_cases c4 : t1233 ≥ 0
 ·rw [if_pos c4] at H; have c4b0 : decide (0 ≤ t1233) = true := decide_eq_true c4; clear c4
  by_cases c5 : 0 ≤ t1233
  ·rw [if_pos c5] at H; have c5b0 : decide (0 ≤ t1233) = true := decide_eq_true c5; clear c5
   by_cases c6 : t1233 < (l0_0.length : Int)
   ·rw [if_pos c6] at H; have c6b0 : decide (t1233 < (l0_0.length : Int)) = true := decide_eq_true c6; clear c6; replace H := Option.bind_eq_some_iff.mp H; obtain ⟨t1235, A70, H⟩ := H
    (try dsimp only at H)
    have A7 := Aside0.mk A70; clear A70
    by_cases c8 : t1235 = true
    ·subst c8; rw [if_pos rfl] at H; obtain rfl := Option.some.inj H; go_enter Try.func96, Try.ntmps96; go_wp2_with (first | ((with_reducible refine gate_dst (N := 2) rfl ?_); refine zx (N := 2) (cs := #[.slice A0_0 l0_0.length c0_0]) (t := 25) ?_; intro gb1232 hg w9 hbox hb; have BK1232 := Aside0.mk (hbox); have GW1232 := zg HB hg; have GE1232 := GW1232; replace HB := zh HB hb; clear hb hbox hg; obtain ⟨hcz10_0, hfz10_0⟩ := zy1 BK1232) | ((with_reducible refine gate_callee (f := 55) rfl ?_); refine goesL_ (some 9) rfl rfl Try.func55 (by kernel_rfl) rfl #[.slice A0_0 l0_0.length c0_0, .string a1] rfl zl ?_; (with_reducible refine (spec_findParam.calls k _ _ l0_0 a1 t1233 _ ?side1 ?side2 A3.out).mono ?_); (case side1 => exact zC HR0_0 HB); (case side2 => exact HC0_0.out); rintro e w' ⟨rfl, ⟨nd, rfl⟩⟩; refine ⟨_, rfl, ?_⟩; have p1234 : 0 ≤ (t1233 : Int) := of_decide_eq_true za; have q1234 : t1233 < (l0_0.length : Int) := of_decide_eq_true za; obtain ⟨ad1234, e1234, hx1234_0, hx1234_1, hx1234_2, hx1234_3⟩ := at_T33 HR0_0.out t1233 p1234 q1234; cases e1234; replace hx1234_0 := zt HB hx1234_0; replace hx1234_1 := zt HB hx1234_1; replace hx1234_2 := zt HB hx1234_2; replace hx1234_3 := zt HB hx1234_3; replace p1234 := eq_true p1234; replace q1234 := eq_true q1234) | (go_at_call 115; (with_reducible refine (spec_byName.calls ((rd_T33 l0_0 t1233).f0) ((rd_T33 l0_0 t1233).f1) ((rd_T33 l0_0 t1233).f2) ((rd_T33 l0_0 t1233).f3) true _ A7.out).mono ?_); rintro e w11 ⟨rfl, hb⟩; replace BK1232 := zc BK1232 hb; replace HB := zh HB hb; (try clear hb); (try clear hb2); (try clear hk); (try clear hi))); go_ret; exact ⟨zv, zB HB⟩
    ·replace c8 := Bool.eq_false_iff.mpr c8; subst c8; rw [if_neg (show ¬ (false = true) by decide)] at H; replace H := Option.bind_eq_some_iff.mp H; obtain ⟨t1236, A120, H⟩ := H
     (try dsimp only at H)
     have A12 := Aside0.mk A120; clear A120; obtain rfl := Option.some.inj H; go_enter Try.func96, Try.ntmps96; go_wp2_with (first | ((with_reducible refine gate_dst (N := 2) rfl ?_); refine zx (N := 2) (cs := #[.slice A0_0 l0_0.length c0_0]) (t := 25) ?_; intro gb1232 hg w13 hbox hb; have BK1232 := Aside0.mk (hbox); have GW1232 := zg HB hg; have GE1232 := GW1232; replace HB := zh HB hb; clear hb hbox hg; obtain ⟨hcz14_0, hfz14_0⟩ := zy1 BK1232) | ((with_reducible refine gate_callee (f := 55) rfl ?_); refine goesL_ (some 9) rfl rfl Try.func55 (by kernel_rfl) rfl #[.slice A0_0 l0_0.length c0_0, .string a1] rfl zl ?_; (with_reducible refine (spec_findParam.calls k _ _ l0_0 a1 t1233 _ ?side1 ?side2 A3.out).mono ?_); (case side1 => exact zC HR0_0 HB); (case side2 => exact HC0_0.out); rintro e w' ⟨rfl, ⟨nd, rfl⟩⟩; refine ⟨_, rfl, ?_⟩; have p1234 : 0 ≤ (t1233 : Int) := of_decide_eq_true za; have q1234 : t1233 < (l0_0.length : Int) := of_decide_eq_true za; obtain ⟨ad1234, e1234, hx1234_0, hx1234_1, hx1234_2, hx1234_3⟩ := at_T33 HR0_0.out t1233 p1234 q1234; cases e1234; replace hx1234_0 := zt HB hx1234_0; replace hx1234_1 := zt HB hx1234_1; replace hx1234_2 := zt HB hx1234_2; replace hx1234_3 := zt HB hx1234_3; replace p1234 := eq_true p1234; replace q1234 := eq_true q1234) | (go_at_call 115; (with_reducible refine (spec_byName.calls ((rd_T33 l0_0 t1233).f0) ((rd_T33 l0_0 t1233).f1) ((rd_T33 l0_0 t1233).f2) ((rd_T33 l0_0 t1233).f3) false _ A7.out).mono ?_); rintro e w15 ⟨rfl, hb⟩; replace BK1232 := zc BK1232 hb; replace HB := zh HB hb; (try clear hb); (try clear hb2); (try clear hk); (try clear hi); obtain ⟨hcz16_0, hfz16_0⟩ := zy1 BK1232) | ((with_reducible refine gate_callee (f := 112) rfl ?_); refine goesL_ (some 23) rfl rfl Try.func112 (by kernel_rfl) rfl #[.slice (some ad1234) l0_0.length c0_0, .int .i64 4] rfl zl ?_; (with_reducible refine (spec_kindAt.calls k _ _ l0_0 4 t1236 _ ?side1 ?side2 A12.out).mono ?_); (case side1 => exact zC HR0_0 HB); (case side2 => exact HC0_0.out); rintro e w' ⟨rfl, ⟨nd, rfl⟩⟩; refine ⟨_, rfl, ?_⟩)); go_ret; exact ⟨zv, zB HB⟩
   ·rw [if_neg c6] at H; exact absurd H (by simp)
  ·rw [if_neg c5] at H; exact absurd H (by simp)
 ·rw [if_neg c4] at H; have c4b0 : decide (0 ≤ t1233) = false := decide_eq_false c4; clear c4; replace H := Option.bind_eq_some_iff.mp H; obtain ⟨t1237, A170, H⟩ := H
  (try dsimp only at H)
  have A17 := Aside0.mk A170; clear A170; obtain rfl := Option.some.inj H; go_enter Try.func96, Try.ntmps96; go_wp2_with (first | ((with_reducible refine gate_dst (N := 2) rfl ?_); refine zx (N := 2) (cs := #[.slice A0_0 l0_0.length c0_0]) (t := 25) ?_; intro gb1232 hg w18 hbox hb; have BK1232 := Aside0.mk (hbox); have GW1232 := zg HB hg; have GE1232 := GW1232; replace HB := zh HB hb; clear hb hbox hg; obtain ⟨hcz19_0, hfz19_0⟩ := zy1 BK1232) | ((with_reducible refine gate_callee (f := 55) rfl ?_); refine goesL_ (some 9) rfl rfl Try.func55 (by kernel_rfl) rfl #[.slice A0_0 l0_0.length c0_0, .string a1] rfl zl ?_; (with_reducible refine (spec_findParam.calls k _ _ l0_0 a1 t1233 _ ?side1 ?side2 A3.out).mono ?_); (case side1 => exact zC HR0_0 HB); (case side2 => exact HC0_0.out); rintro e w' ⟨rfl, ⟨nd, rfl⟩⟩; refine ⟨_, rfl, ?_⟩) | ((with_reducible refine gate_callee (f := 112) rfl ?_); refine goesL_ (some 23) rfl rfl Try.func112 (by kernel_rfl) rfl #[.slice A0_0 l0_0.length c0_0, .int .i64 4] rfl zl ?_; (with_reducible refine (spec_kindAt.calls k _ _ l0_0 4 t1237 _ ?side1 ?side2 A17.out).mono ?_); (case side1 => repeat (first | exact (Kd.C_below HR0_0.out (zB HB)) | (with_reducible refine Kd.C_alloc ?_ _) | (with_reducible refine Kd.C_drewN ?_ _) | (with_reducible refine Kd.C_drew ?_))); (case side2 => exact HC0_0.out); rintro e w' ⟨rfl, ⟨nd, rfl⟩⟩; refine ⟨_, rfl, ?_⟩)); go_ret; exact ⟨zv, zB HB⟩

/-! ### spec_TakesName: function 49 -/
def spec_TakesName.f (k : Nat) (l0_0 : List (S33)) (a1 : ByteArray) : Option (Int) := (spec_validSignature.f k l0_0).bind fun t1239 => (if t1239 = true then ((spec_validName.f k a1).bind fun t1240 => (if t1240 = true then ((spec_takesName.f k l0_0 a1).bind fun t1241 => (some t1241)) else (some (-1)))) else (some (-1)))
theorem spec_TakesName.mono : ∀ a0 a1 k, LeO (spec_TakesName.f k a0 a1) (spec_TakesName.f (k + 1) a0 a1) := by
 intro a0 a1 k; unfold spec_TakesName.f
 repeat' first
   | (with_reducible exact spec_takesName.mono _ _ _)
   | (with_reducible exact spec_validName.mono _ _)
   | (with_reducible exact spec_validSignature.mono _ _)
   | (with_reducible exact LeO.refl _)
   | (with_reducible exact LeO.none _)
   | (with_reducible refine LeO.ite ?_ ?_)
   | (with_reducible refine LeO.bind ?_ (fun _ => ?_))
   | exact spec_takesName.mono _ _ _
   | exact spec_validName.mono _ _
   | exact spec_validSignature.mono _ _
   | exact LeO.none _
   | refine LeO.ite ?_ ?_
   | refine LeO.bind ?_ (fun _ => ?_)
set_option maxHeartbeats 8000000 in
set_option maxRecDepth 100000 in
theorem spec_TakesName.calls (k : Nat) (A0_0 : Option Addr) (c0_0 : Nat) (l0_0 : List (S33)) (a1 : ByteArray) (r : Int) (w : World) (hr0_0 : Kd.C k33 w A0_0 l0_0.length l0_0) (hc0_0 : l0_0.length ≤ c0_0) (h : spec_TakesName.f k l0_0 a1 = some r) :
  Calls Try.prog 49 #[.agg #[.slice A0_0 l0_0.length c0_0], .string a1] w fun e w' => e = .returned (.int .i64 r) ∧ Below w.heap.size w w' := by
 have hu25 := Try.underlying25; have HR0_0 := Aside0.mk hr0_0; have HC0_0 := Aside0.mk hc0_0; clear hr0_0 hc0_0; have HB := Aside0.mk (Below.refl w.heap.size w); have H : ((spec_validSignature.f k l0_0).bind fun t1239 => (if t1239 = true then ((spec_validName.f k a1).bind fun t1240 => (if t1240 = true then ((spec_takesName.f k l0_0 a1).bind fun t1241 => (some t1241)) else (some (-1)))) else (some (-1)))) = some r := h; clear h; replace H := Option.bind_eq_some_iff.mp H; obtain ⟨t1239, A30, H⟩ := H
 (try dsimp only at H)
 have A3 := Aside0.mk A30; clear A30
 by_cases c4 : t1239 = true
 ·subst c4; rw [if_pos rfl] at H; replace H := Option.bind_eq_some_iff.mp H; obtain ⟨t1240, A50, H⟩ := H
  (try dsimp only at H)
  have A5 := Aside0.mk A50; clear A50
  by_cases c6 : t1240 = true
  ·subst c6; rw [if_pos rfl] at H; replace H := Option.bind_eq_some_iff.mp H; obtain ⟨t1241, A70, H⟩ := H
   (try dsimp only at H)
   have A7 := Aside0.mk A70; clear A70; obtain rfl := Option.some.inj H; go_enter Try.func49, Try.ntmps49; go_wp2_with (first | ((with_reducible refine gate_dst (N := 2) rfl ?_); refine zx (N := 2) (cs := #[.slice A0_0 l0_0.length c0_0]) (t := 25) ?_; intro gb1238 hg w8 hbox hb; have BK1238 := Aside0.mk (hbox); have GW1238 := zg HB hg; have GE1238 := GW1238; replace HB := zh HB hb; clear hb hbox hg; obtain ⟨hcz9_0, hfz9_0⟩ := zy1 BK1238) | ((with_reducible refine gate_callee (f := 56) rfl ?_); refine goesL_ (some 6) rfl rfl Try.func56 (by kernel_rfl) rfl #[.agg #[.slice A0_0 l0_0.length c0_0]] rfl zl ?_; (with_reducible refine (spec_validSignature.calls k _ _ l0_0 true _ ?side1 ?side2 A3.out).mono ?_); (case side1 => exact zC HR0_0 HB); (case side2 => exact HC0_0.out); rintro e w10 ⟨rfl, hb⟩; refine ⟨_, rfl, ?_⟩; replace BK1238 := zc BK1238 hb; replace HB := zh HB hb; (try clear hb); (try clear hb2); (try clear hk); (try clear hi)) | (go_at_call 95; (with_reducible refine (spec_validName.calls k a1 true _ A5.out).mono ?_); rintro e w' ⟨rfl, ⟨nd, rfl⟩⟩; obtain ⟨hcz11_0, hfz11_0⟩ := zy1 BK1238) | ((with_reducible refine gate_callee (f := 96) rfl ?_); refine goesL_ (some 15) rfl rfl Try.func96 (by kernel_rfl) rfl #[.agg #[.slice A0_0 l0_0.length c0_0], .string a1] rfl zl ?_; (with_reducible refine (spec_takesName.calls k _ _ l0_0 a1 t1241 _ ?side1 ?side2 A7.out).mono ?_); (case side1 => repeat (first | exact (Kd.C_below HR0_0.out (zB HB)) | (with_reducible refine Kd.C_alloc ?_ _) | (with_reducible refine Kd.C_drewN ?_ _) | (with_reducible refine Kd.C_drew ?_))); (case side2 => exact HC0_0.out); rintro e w12 ⟨rfl, hb⟩; refine ⟨_, rfl, ?_⟩; replace BK1238 := zc BK1238 hb; replace HB := zh HB hb; (try clear hb); (try clear hb2); (try clear hk); (try clear hi))); go_ret; exact ⟨zv, zB HB⟩
  ·replace c6 := Bool.eq_false_iff.mpr c6; subst c6; rw [if_neg (show ¬ (false = true) by decide)] at H; obtain rfl := Option.some.inj H; go_enter Try.func49, Try.ntmps49; go_wp2_with (first | ((with_reducible refine gate_dst (N := 2) rfl ?_); refine zx (N := 2) (cs := #[.slice A0_0 l0_0.length c0_0]) (t := 25) ?_; intro gb1238 hg w13 hbox hb; have BK1238 := Aside0.mk (hbox); have GW1238 := zg HB hg; have GE1238 := GW1238; replace HB := zh HB hb; clear hb hbox hg; obtain ⟨hcz14_0, hfz14_0⟩ := zy1 BK1238) | ((with_reducible refine gate_callee (f := 56) rfl ?_); refine goesL_ (some 6) rfl rfl Try.func56 (by kernel_rfl) rfl #[.agg #[.slice A0_0 l0_0.length c0_0]] rfl zl ?_; (with_reducible refine (spec_validSignature.calls k _ _ l0_0 true _ ?side1 ?side2 A3.out).mono ?_); (case side1 => exact zC HR0_0 HB); (case side2 => exact HC0_0.out); rintro e w15 ⟨rfl, hb⟩; refine ⟨_, rfl, ?_⟩; replace BK1238 := zc BK1238 hb; replace HB := zh HB hb; (try clear hb); (try clear hb2); (try clear hk); (try clear hi)) | (go_at_call 95; (with_reducible refine (spec_validName.calls k a1 false _ A5.out).mono ?_); rintro e w' ⟨rfl, ⟨nd, rfl⟩⟩)); go_ret; exact ⟨zv, zB HB⟩
 ·replace c4 := Bool.eq_false_iff.mpr c4; subst c4; rw [if_neg (show ¬ (false = true) by decide)] at H; obtain rfl := Option.some.inj H; go_enter Try.func49, Try.ntmps49; go_wp2_with (first | ((with_reducible refine gate_dst (N := 2) rfl ?_); refine zx (N := 2) (cs := #[.slice A0_0 l0_0.length c0_0]) (t := 25) ?_; intro gb1238 hg w16 hbox hb; have BK1238 := Aside0.mk (hbox); have GW1238 := zg HB hg; have GE1238 := GW1238; replace HB := zh HB hb; clear hb hbox hg; obtain ⟨hcz17_0, hfz17_0⟩ := zy1 BK1238) | ((with_reducible refine gate_callee (f := 56) rfl ?_); refine goesL_ (some 6) rfl rfl Try.func56 (by kernel_rfl) rfl #[.agg #[.slice A0_0 l0_0.length c0_0]] rfl zl ?_; (with_reducible refine (spec_validSignature.calls k _ _ l0_0 false _ ?side1 ?side2 A3.out).mono ?_); (case side1 => exact zC HR0_0 HB); (case side2 => exact HC0_0.out); rintro e w18 ⟨rfl, hb⟩; refine ⟨_, rfl, ?_⟩; replace BK1238 := zc BK1238 hb; replace HB := zh HB hb; (try clear hb); (try clear hb2); (try clear hk); (try clear hi))); go_ret; exact ⟨zv, zB HB⟩

end Go.Proofs.Ytlpmggokgcphiaa.Q

namespace Go.Proofs.Ytlpmggokgcphiaa.Q
open Go.RowKit Go.Proofs.YtlpmggokgcphiaaL.PrintWords Go.Proofs.YtlpmggokgcphiaaL.PrintLast Go.Proofs.YtlpmggokgcphiaaL.PrintMore
attribute [local go_sem] max2_int min2_int max_two min_two max_three min_three max_four min_four   -- for this text's walks alone
set_option linter.unusedVariables false
set_option linter.unusedSimpArgs false

/-! ### slices.Clone at impl.Pair: function 137 -/
set_option maxHeartbeats 8000000 in
set_option maxRecDepth 100000 in
theorem cl137.calls (A0 : Option Addr) (c0 : Nat) (l0 : List (S130)) (w : World) (hr0 : Kd.C k130 w A0 l0.length l0) (hl : l0.length * 24 ≤ 140737488355328) :
  Calls Try.prog 137 #[.slice A0 l0.length c0] w fun e w' => ∃ v0_ : Value, e = .returned v0_ ∧ Kd.R k130 130 w' w.heap.size (fun _ => True) v0_ l0 ∧ Below w.heap.size w w' := by
 cases A0 with
 | none =>
  have h0 : l0 = [] := by
   rcases Nat.eq_zero_or_pos l0.length with h | h
   ·exact List.eq_nil_of_length_eq_zero h
   ·obtain ⟨ad, e, _⟩ := hr0.2.2 h; cases e
  subst h0; clear hr0; have hE := fun (W : World) => Go.Lib.run_eql_slice_nil (P := Try.prog) W 68 130 none 0 c0 0 0 Try.underlying68
  go_enter Try.func137, Try.ntmps137; go_wp2; go_ret; exact ⟨_, rfl, Kd.R_nil _ _ _ _ _, px_refl _⟩
 | some ad =>
  have HR := Aside0.mk hr0; have HL := Aside0.mk hl; clear hr0 hl; have hE := fun (W : World) => Go.Lib.run_eql_slice_nil (P := Try.prog) W 68 130 (some ad) l0.length c0 0 0 Try.underlying68
  go_enter Try.func137, Try.ntmps137; go_wp2_with (first | ((with_reducible refine gate_dst (N := 5) rfl ?_); refine Kd.R_lit k130 w.heap.size 130 ?hg (N := 5) ?hd (xs := ([] : List (S130))) (inner := []) (ok := fun _ => True) (okp := fun _ => True) ?hr ?hp (fun _ hk => hk) trivial (Below.refl _ _) (Nat.le_refl _) (by simp) ?_; (case hd => rfl); (case hg => rfl); (case hr => first | (go_simp; done) | (go_simp; rfl)); (case hp => exact (Reps.none _ _)); intro v5 w5 ho5 hb5 hg_ hnew_; clear hg_ hnew_; have HO := Aside0.mk ho5; have HB := Aside0.mk hb5; clear ho5 hb5) | ((with_reducible refine gate_dst (N := 7) rfl ?_); refine Kd.R_append_rows k130 (Rr := k130.K w) (w0 := w) w.heap.size (by rfl) (.tmp 5) (.tmp 6) 68 130 (.agg #[(.string ⟨#[]⟩), (.int .i64 0)]) 24 rfl Try.underlying68 info130 rfl (by decide) (by omega) v5 ([] : List (S130)) l0 _ _ _ (fun _ => True) (fun _ => False) rfl rfl HO.out ?aR (fun x cs h => by rw [k130_open h]; exact k130_mkM _ _ _ _) (fun _ h => h.elim) (fun _ _ => trivial) HB.out (below_size HB.out) ?aL ?_; (case aR => exact ReadsRow.imp_ HR.out HB.out (fun _ _ h => h)); (case aL => simpa using HL.out); intro v7 w7 ho7 hb7 hg_ hnew_; clear hg_ hnew_; have HO7 := Aside0.mk ho7; have HB7 := Aside0.mk hb7; clear ho7 hb7)); go_ret; exact ⟨_, rfl, HO7.out, HB7.out⟩
/-! ### impl_Pair_131: function 131 (a contract of our own) -/
def impl_Pair_131.f (l0 : List (S130)) : Option ((List (S130))) := if l0.length * 24 ≤ 140737488355328 then some l0 else none
set_option maxHeartbeats 8000000 in
set_option maxRecDepth 100000 in
theorem impl_Pair_131.calls (A0 : Option Addr) (c0 : Nat) (l0 : List (S130)) (r : List (S130)) (w : World) (hr0 : Kd.C k130 w A0 l0.length l0) (hc0 : l0.length ≤ c0) (h : impl_Pair_131.f l0 = some r) :
  Calls Try.prog 131 #[.slice A0 l0.length c0] w fun e w' => ∃ v0_ : Value, e = .returned (v0_) ∧ Kd.R k130 130 w' w.heap.size (fun _ => True) v0_ r ∧ Below w.heap.size w w' := by
 have hl : l0.length * 24 ≤ 140737488355328 := by unfold impl_Pair_131.f at h; split at h; assumption; cases h
 have hr : r = l0 := by unfold impl_Pair_131.f at h; rw [if_pos hl] at h; exact (Option.some.inj h).symm
 subst hr; clear h; have HR := Aside0.mk hr0; have HL := Aside0.mk hl; clear hr0 hl hc0; go_enter Try.func131, Try.ntmps131; go_wp2_with fail; refine (cl137.calls _ _ _ _ HR.out HL.out).mono ?_; rintro e w1 ⟨v1, rfl, hv1, hb1⟩; have HO1 := Aside0.mk hv1; have HB1 := Aside0.mk hb1; clear hv1 hb1; go_wp2_with fail; refine (impl_Pair_117.calls (fun _ => True) _ _ r w _ HB1.out HO1.out rfl).mono ?_; rintro e w2 ⟨v2, rfl, hv2, hb2, hk2⟩; have HO2 := Aside0.mk hv2; have HB2 := Aside0.mk hb2; clear hv2 hb2 hk2; go_wp2; go_ret; exact ⟨_, rfl, Kd.R_mono HO2.out (fun _ _ => trivial), HB2.out⟩

/-! ### impl_Flat_copyOf: function 122 -/
def impl_Flat_copyOf.f (l0_0 : List Int) (l0_1 : List (S130)) : Option (List Int × (List (S130))) := (impl_clone_int.f l0_0).bind fun t1244 => ((impl_Pair_131.f l0_1).bind fun t1247 => (some (t1244, t1247)))
def impl_Flat_copyOf.T1 : Bool × List (List Nat × List Nat) := (true, [([], []), ([0], [0]), ([1], [1]), ([], []), ([3], [3]), ([4, 2], [4]), ([2, 5], [2, 5]), ([6, 5, 0, 1, 2, 3, 4, 5, 6], [6])])
def impl_Flat_copyOf.B1 : List Nat := [0, 1, 3, 0, 8, 31, 63, 127]
theorem impl_Flat_copyOf.tab1 : rtab .any (opsOf Try.f122 1) = impl_Flat_copyOf.T1 := by kernel_rfl
theorem impl_Flat_copyOf.bits1 : waitsOk impl_Flat_copyOf.T1.2 impl_Flat_copyOf.B1 = true := by kernel_rfl
set_option maxHeartbeats 8000000 in
set_option maxRecDepth 100000 in
theorem impl_Flat_copyOf.calls (A0_0 : Option Addr) (c0_0 : Nat) (l0_0 : List Int) (A0_1 : Option Addr) (c0_1 : Nat) (l0_1 : List (S130)) (r1 : List Int) (r2 : List (S130)) (w : World) (hr0_0 : Kd.C (Kd.int .i64) w A0_0 l0_0.length l0_0) (hc0_0 : l0_0.length ≤ c0_0) (hr0_1 : Kd.C k130 w A0_1 l0_1.length l0_1) (hc0_1 : l0_1.length ≤ c0_1) (h : impl_Flat_copyOf.f l0_0 l0_1 = some (r1, r2)) :
  Calls Try.prog 122 #[.agg #[.slice A0_0 l0_0.length c0_0, .slice A0_1 l0_1.length c0_1]] w fun e w' => ∃ v0_ v1_ : Value, e = .returned (.agg #[v0_, v1_]) ∧ Kd.R (Kd.int .i64) 3 w' w.heap.size (fun _ => True) v0_ r1 ∧ Kd.R k130 130 w' w.heap.size (fun _ => True) v1_ r2 ∧ Below w.heap.size w w' := by
 have hu70 := Try.underlying70; have HR0_0 := Aside0.mk hr0_0; have HC0_0 := Aside0.mk hc0_0; clear hr0_0 hc0_0; have HR0_1 := Aside0.mk hr0_1; have HC0_1 := Aside0.mk hc0_1; clear hr0_1 hc0_1; have HB := Aside0.mk (Below.refl w.heap.size w); have H : ((impl_clone_int.f l0_0).bind fun t1244 => ((impl_Pair_131.f l0_1).bind fun t1247 => (some (t1244, t1247)))) = some (r1, r2) := h; clear h; replace H := Option.bind_eq_some_iff.mp H; obtain ⟨t1244, A20, H⟩ := H
 (try dsimp only at H)
 have A2 := Aside0.mk A20; clear A20; replace H := Option.bind_eq_some_iff.mp H; obtain ⟨t1247, A30, H⟩ := H
 (try dsimp only at H)
 have A3 := Aside0.mk A30; clear A30; simp only [Option.some.injEq, Prod.mk.injEq] at H; obtain ⟨rfl, rfl⟩ := H; go_enter Try.func122, Try.ntmps122
 try go_wp2_with (first | ((with_reducible refine gate_dst (N := 1) rfl ?_); refine zx (N := 1) (cs := #[.slice A0_0 l0_0.length c0_0, .slice A0_1 l0_1.length c0_1]) (t := 70) ?_; intro gb1242 hg w4 hbox hb; have BK1242 := Aside0.mk (hbox); have GW1242 := zg HB hg; have GE1242 := GW1242; replace HB := zh HB hb; clear hb hbox hg) | ((with_reducible refine gate_dst (N := 2) rfl ?_); refine zx (N := 2) (cs := #[.slice none 0 0, .slice none 0 0]) (t := 70) ?_; intro gb1243 hg w5 hbox hb; have BK1243 := Aside0.mk (hbox); have GW1243 := zg HB hg; have GE1243 := GW1243; replace HB := zh HB hb; obtain ⟨NB1242_1243, NB1243_1242⟩ := ze BK1242 hg; replace BK1242 := zc BK1242 hb; clear hb hbox hg))
 replace BK1242 := Aside0.mk (blk_drew BK1242.out); replace BK1243 := Aside0.mk (blk_drew BK1243.out); replace HB := Aside0.mk (below_drew1 HB.out); refine start_ (n := 8) (S := fun w' => w'.cell? ⟨gb1242, 0, none⟩ = some (.slice A0_0 l0_0.length c0_0) ∧ w'.cell? ⟨gb1242, 1, none⟩ = some (.slice A0_1 l0_1.length c0_1)) (ds := []) #[false, false, false, false, false, false, false, false] (by kernel_rfl) rfl rfl ⟨(blk_cell BK1242.out 0).trans rfl, (blk_cell BK1242.out 1).trans rfl⟩ (fun hHeld => ?_); refine with_tabW impl_Flat_copyOf.tab1 impl_Flat_copyOf.bits1 (fun HT_ HW_ => ?_); generalize w5.drew = w6 at BK1242 BK1243 HB hHeld ⊢; refine zu 0 3 #[true, false, false, false, false, false, false, false] (any_of HT_.out (by kernel_rfl)) ?_
 refine zu 3 6 #[true, false, false, true, false, false, false, false] (any_of HT_.out (by kernel_rfl)) ?_
 refine zT 1 4 #[true, true, false, true, false, false, false, false] (take_ofW HT_.out HW_.out (by kernel_rfl)) hHeld ?_
 refine zT 4 7 #[true, true, false, true, true, false, false, false] (take_ofW HT_.out HW_.out (by kernel_rfl)) hHeld ?_
 refine one_ (i := 2) (N := some 5) #[true, true, true, true, true, false, false, false] rfl rfl (one_of HT_.out (by kernel_rfl)) (by decide) (fun K hK => ?_); refine goes_ Try.func116 (by kernel_rfl) rfl #[.slice A0_0 l0_0.length c0_0] (by rfl) rfl rfl zl ?_; with_reducible refine (impl_clone_int.calls _ _ l0_0 t1244 _ ?side1 ?side2 A2.out).mono ?_
 (case side1 => exact zC HR0_0 HB)
 (case side2 => exact HC0_0.out)
 rintro e w7 ⟨v1245, rfl, ho0, hb⟩; refine ⟨_, rfl, ?_⟩; have HO1246 := Aside0.mk (Kd.R_lower ho0 (below_size (zB HB))); replace BK1242 := zc BK1242 hb; replace BK1243 := zc BK1243 hb; replace HB := zh HB hb; (try clear hb); (try clear hb2); (try clear hk); (try clear hi); (try clear ho0); refine hK.out _ _ ⟨(blk_cell BK1242.out 0).trans rfl, (blk_cell BK1242.out 1).trans rfl⟩ (fun hHeld => ?_); clear hK K; refine norm_ (a' := ?_) ?_ ?_; rotate_left
 ·show Act.put _ (some 5) _ = _
  simp only [Act.put, List.setIfInBounds_toArray, List.set_cons_zero, List.set_cons_succ, i64_w, i32_w]; rfl
 refine one_ (i := 5) (N := some 8) #[true, true, true, true, true, true, false, false] rfl rfl (one_of HT_.out (by kernel_rfl)) (by decide) (fun K hK => ?_); refine goes_ Try.func131 (by kernel_rfl) rfl #[.slice A0_1 l0_1.length c0_1] (by rfl) rfl rfl zl ?_; with_reducible refine (impl_Pair_131.calls _ _ l0_1 t1247 _ ?side1 ?side2 A3.out).mono ?_
 (case side1 => exact zC HR0_1 HB)
 (case side2 => exact HC0_1.out)
 rintro e w8 ⟨v1248, rfl, ho0, hb⟩; refine ⟨_, rfl, ?_⟩; replace HO1246 := Aside0.mk (Kd.R_below (zo HO1246) hb); have HO1249 := Aside0.mk (Kd.R_lower ho0 (below_size (zB HB))); replace BK1242 := zc BK1242 hb; replace BK1243 := zc BK1243 hb; replace HB := zh HB hb; (try clear hb); (try clear hb2); (try clear hk); (try clear hi); (try clear ho0); obtain ⟨Ao9, co9, eo9⟩ := Kd.R_slice HO1249.out
 (first | subst eo9 | (injection eo9 with f1_ f2_ f3_; have f4_ := f1_.symm; have f5_ := f3_.symm; clear f1_ f2_ f3_; subst f4_; subst f5_))
 obtain ⟨Ao10, co10, eo10⟩ := Kd.R_slice HO1246.out
 (first | subst eo10 | (injection eo10 with f1_ f2_ f3_; have f4_ := f1_.symm; have f5_ := f3_.symm; clear f1_ f2_ f3_; subst f4_; subst f5_))
 refine hK.out _ _ ⟨(blk_cell BK1242.out 0).trans rfl, (blk_cell BK1242.out 1).trans rfl⟩ (fun hHeld => ?_); clear hK K; refine norm_ (a' := ?_) ?_ ?_; rotate_left
 ·show Act.put _ (some 8) _ = _
  simp only [Act.put, List.setIfInBounds_toArray, List.set_cons_zero, List.set_cons_succ, i64_w, i32_w]; rfl
 refine zu 6 9 #[true, true, true, true, true, true, true, false] (any_of HT_.out (by kernel_rfl)) ?_
 refine one_ (i := 7) (N := none) #[true, true, true, true, true, true, true, true] rfl rfl (one_of HT_.out (by kernel_rfl)) (by decide) (fun K hK => ?_); have hs11 : w8.cell? ⟨gb1243, 0, none⟩ = some (.slice none 0 0) := (blk_cell BK1243.out 0).trans rfl; have hfs11 := blk_frozen BK1243.out 0; have hns11_0 := NB1242_1243.out; have hms11_0 := NB1243_1242.out; have hs12 : w8.cell? ⟨gb1243, 1, none⟩ = some (.slice none 0 0) := (blk_cell BK1243.out 1).trans rfl; have hfs12 := blk_frozen BK1243.out 1; have hns12_0 := NB1242_1243.out; have hms12_0 := NB1243_1242.out; refine skip_ (w1 := ?_) (by rfl) rfl ?_ ?_; rotate_left
 ·go_simp; rfl
 refine hK.out _ _ ⟨((cell_far (p := ⟨gb1243, _, none⟩) NB1242_1243.out _).trans (((cell_far (p := ⟨gb1243, _, none⟩) NB1242_1243.out _).trans (hHeld.1)))), ((cell_far (p := ⟨gb1243, _, none⟩) NB1242_1243.out _).trans (((cell_far (p := ⟨gb1243, _, none⟩) NB1242_1243.out _).trans (hHeld.2))))⟩ (fun hHeld => ?_); clear hK K; refine done_ (done_of HT_.out (by kernel_rfl)) ?_
 try go_wp2
 refine bodyPost_ret (results_cell_row rfl _ _ gb1243 70 #[.slice Ao10 t1244.length co10, .slice Ao9 t1247.length co9] (0, 0) _ rfl (zbp BK1243) Try.underlying70 rfl (by kernel_rfl)) rfl ?_; exact ⟨_, _, by first | rfl | (simp [errW_none, errW_some] <;> rfl) | (simp [*, errW_none, errW_some] <;> rfl), by (with_reducible repeat (first | apply Kd.R_alloc | apply Kd.R_drewN | apply Kd.R_drew)); exact Kd.R_mono (Kd.R_far (p := ⟨gb1243, 1, none⟩) (Kd.R_far (p := ⟨gb1243, 0, none⟩) (Kd.R_types HO1246.out BK1243.out (by decide)) (fun _ hk => hk.2) (.slice Ao10 t1244.length co10)) (fun _ hk => hk.2) (.slice Ao9 t1247.length co9)) (fun _ hk => trivial), by (with_reducible repeat (first | apply Kd.R_alloc | apply Kd.R_drewN | apply Kd.R_drew)); exact Kd.R_mono (Kd.R_far (p := ⟨gb1243, 1, none⟩) (Kd.R_far (p := ⟨gb1243, 0, none⟩) (Kd.R_types HO1249.out BK1243.out (by decide)) (fun _ hk => hk.2) (.slice Ao10 t1244.length co10)) (fun _ hk => hk.2) (.slice Ao9 t1247.length co9)) (fun _ hk => trivial), zB HB⟩

end Go.Proofs.Ytlpmggokgcphiaa.Q

namespace Go.Proofs.Ytlpmggokgcphiaa.Q
open Go.RowKit Go.Proofs.YtlpmggokgcphiaaL.PrintWords Go.Proofs.YtlpmggokgcphiaaL.PrintLast Go.Proofs.YtlpmggokgcphiaaL.PrintMore
attribute [local go_sem] max2_int min2_int max_two min_two max_three min_three max_four min_four   -- for this text's walks alone
set_option linter.unusedVariables false
set_option linter.unusedSimpArgs false

/-! ### impl_checked: function 97 -/
def impl_checked.f (k : Nat) (l0_0 : List Int) (l0_1 : List (S130)) (a1 : Bool) : Option (List Int × (List (S130)) × Bool) := if a1 = true then ((impl_ValidFlat.f k l0_0 l0_1).bind fun t1252 => (if t1252 = true then ((impl_Flat_copyOf.f l0_0 l0_1).bind fun bt1253 => (some (bt1253.1, bt1253.2, true))) else (some (([] : List Int), ([] : List (S130)), false)))) else (some (([] : List Int), ([] : List (S130)), false))
theorem impl_checked.mono : ∀ a0 a1 a2 k, LeO (impl_checked.f k a0 a1 a2) (impl_checked.f (k + 1) a0 a1 a2) := by
 intro a0 a1 a2 k; unfold impl_checked.f
 repeat' first
   | (with_reducible exact impl_ValidFlat.mono _ _ _)
   | (with_reducible exact LeO.refl _)
   | (with_reducible exact LeO.none _)
   | (with_reducible refine LeO.ite ?_ ?_)
   | (with_reducible refine LeO.bind ?_ (fun _ => ?_))
   | exact impl_ValidFlat.mono _ _ _
   | exact LeO.none _
   | refine LeO.ite ?_ ?_
   | refine LeO.bind ?_ (fun _ => ?_)
set_option maxHeartbeats 8000000 in
set_option maxRecDepth 100000 in
theorem impl_checked.calls (k : Nat) (A0_0 : Option Addr) (c0_0 : Nat) (l0_0 : List Int) (A0_1 : Option Addr) (c0_1 : Nat) (l0_1 : List (S130)) (a1 : Bool) (r1 : List Int) (r2 : List (S130)) (r3 : Bool) (w : World) (hr0_0 : Kd.C (Kd.int .i64) w A0_0 l0_0.length l0_0) (hc0_0 : l0_0.length ≤ c0_0) (hr0_1 : Kd.C k130 w A0_1 l0_1.length l0_1) (hc0_1 : l0_1.length ≤ c0_1) (h : impl_checked.f k l0_0 l0_1 a1 = some (r1, r2, r3)) :
  Calls Try.prog 97 #[.agg #[.slice A0_0 l0_0.length c0_0, .slice A0_1 l0_1.length c0_1], .bool a1] w fun e w' => ∃ v0_ v1_ : Value, e = .returned (.tuple #[.agg #[v0_, v1_], .bool r3]) ∧ Kd.R (Kd.int .i64) 3 w' w.heap.size (fun _ => True) v0_ r1 ∧ Kd.R k130 130 w' w.heap.size (fun _ => True) v1_ r2 ∧ Below w.heap.size w w' := by
 have hu70 := Try.underlying70; have HR0_0 := Aside0.mk hr0_0; have HC0_0 := Aside0.mk hc0_0; clear hr0_0 hc0_0; have HR0_1 := Aside0.mk hr0_1; have HC0_1 := Aside0.mk hc0_1; clear hr0_1 hc0_1; have HB := Aside0.mk (Below.refl w.heap.size w); have H : (if a1 = true then ((impl_ValidFlat.f k l0_0 l0_1).bind fun t1252 => (if t1252 = true then ((impl_Flat_copyOf.f l0_0 l0_1).bind fun bt1253 => (some (bt1253.1, bt1253.2, true))) else (some (([] : List Int), ([] : List (S130)), false)))) else (some (([] : List Int), ([] : List (S130)), false))) = some (r1, r2, r3) := h; clear h
 by_cases c3 : a1 = true
 ·subst c3; rw [if_pos rfl] at H; replace H := Option.bind_eq_some_iff.mp H; obtain ⟨t1252, A40, H⟩ := H
  (try dsimp only at H)
  have A4 := Aside0.mk A40; clear A40
  by_cases c5 : t1252 = true
  ·subst c5; rw [if_pos rfl] at H; replace H := Option.bind_eq_some_iff.mp H; obtain ⟨⟨t1253, t1256⟩, A60, H⟩ := H
   (try dsimp only at H)
   have A6 := Aside0.mk A60; clear A60; simp only [Option.some.injEq, Prod.mk.injEq] at H; obtain ⟨rfl, rfl, rfl⟩ := H; go_enter Try.func97, Try.ntmps97; go_wp2_with (first | ((with_reducible refine gate_dst (N := 2) rfl ?_); refine zx (N := 2) (cs := #[.slice A0_0 l0_0.length c0_0, .slice A0_1 l0_1.length c0_1]) (t := 70) ?_; intro gb1250 hg w7 hbox hb; have BK1250 := Aside0.mk (hbox); have GW1250 := zg HB hg; have GE1250 := GW1250; replace HB := zh HB hb; clear hb hbox hg) | ((with_reducible refine gate_dst (N := 4) rfl ?_); refine zx (N := 4) (cs := #[.slice none 0 0, .slice none 0 0]) (t := 70) ?_; intro gb1251 hg w8 hbox hb; have BK1251 := Aside0.mk (hbox); have GW1251 := zg HB hg; have GE1251 := GW1251; replace HB := zh HB hb; obtain ⟨NB1250_1251, NB1251_1250⟩ := ze BK1250 hg; replace BK1250 := zc BK1250 hb; clear hb hbox hg; have hnb9 := NB1250_1251.out; have hnc9 := NB1251_1250.out; obtain ⟨hcz10_0, hcz10_1, hfz10_0, hfz10_1⟩ := zy2 BK1250) | (go_at_call 99; (with_reducible refine (impl_ValidFlat.calls k _ _ l0_0 _ _ l0_1 true _ ?side1 ?side2 ?side3 ?side4 A4.out).mono ?_); (case side1 => exact zC HR0_0 HB); (case side2 => exact HC0_0.out); (case side3 => exact zC HR0_1 HB); (case side4 => exact HC0_1.out); rintro e w11 ⟨rfl, hb⟩; replace BK1250 := zc BK1250 hb; replace BK1251 := zc BK1251 hb; replace HB := zh HB hb; (try clear hb); (try clear hb2); (try clear hk); (try clear hi); obtain ⟨hcz12_0, hcz12_1, hfz12_0, hfz12_1⟩ := zy2 BK1250) | ((with_reducible refine gate_callee (f := 122) rfl ?_); refine goesL_ (some 15) rfl rfl Try.func122 (by kernel_rfl) rfl #[.agg #[.slice A0_0 l0_0.length c0_0, .slice A0_1 l0_1.length c0_1]] rfl zl ?_; (with_reducible refine (impl_Flat_copyOf.calls _ _ l0_0 _ _ l0_1 t1253 t1256 _ ?side1 ?side2 ?side3 ?side4 A6.out).mono ?_); (case side1 => exact zC HR0_0 HB); (case side2 => exact HC0_0.out); (case side3 => exact zC HR0_1 HB); (case side4 => exact HC0_1.out); rintro e w13 ⟨v1254, v1257, rfl, ho0, ho1, hb⟩; refine ⟨_, rfl, ?_⟩; have HO1255 := Aside0.mk (Kd.R_lower ho0 (below_size (zB HB))); have HO1258 := Aside0.mk (Kd.R_lower ho1 (below_size (zB HB))); replace BK1250 := zc BK1250 hb; replace BK1251 := zc BK1251 hb; replace HB := zh HB hb; (try clear hb); (try clear hb2); (try clear hk); (try clear hi); (try clear ho0); (try clear ho1); obtain ⟨Ao14, co14, eo14⟩ := Kd.R_slice HO1255.out; subst eo14; obtain ⟨hcz15_0, hcz15_1, hfz15_0, hfz15_1⟩ := zy2 BK1251; obtain ⟨Ao16, co16, eo16⟩ := Kd.R_slice HO1258.out; subst eo16)); refine bodyPost_ret (results_ct rfl _ _ gb1251 70 #[.slice Ao14 t1253.length co14, .slice Ao16 t1256.length co16] (0, 0) _ rfl (zbp BK1251) Try.underlying70 rfl (by kernel_rfl)) rfl ?_; exact ⟨_, _, by first | rfl | (simp [errW_none, errW_some] <;> rfl) | (simp [*, errW_none, errW_some] <;> rfl), by (with_reducible repeat (first | apply Kd.R_alloc | apply Kd.R_drewN | apply Kd.R_drew)); exact Kd.R_mono (Kd.R_far (p := ⟨gb1251, 1, none⟩) (Kd.R_far (p := ⟨gb1251, 0, none⟩) (Kd.R_types HO1255.out BK1251.out (by decide)) (fun _ hk => hk.2) (.slice Ao14 t1253.length co14)) (fun _ hk => hk.2) (.slice Ao16 t1256.length co16)) (fun _ hk => trivial), by (with_reducible repeat (first | apply Kd.R_alloc | apply Kd.R_drewN | apply Kd.R_drew)); exact Kd.R_mono (Kd.R_far (p := ⟨gb1251, 1, none⟩) (Kd.R_far (p := ⟨gb1251, 0, none⟩) (Kd.R_types HO1258.out BK1251.out (by decide)) (fun _ hk => hk.2) (.slice Ao14 t1253.length co14)) (fun _ hk => hk.2) (.slice Ao16 t1256.length co16)) (fun _ hk => trivial), zB HB⟩
  ·replace c5 := Bool.eq_false_iff.mpr c5; subst c5; rw [if_neg (show ¬ (false = true) by decide)] at H; simp only [Option.some.injEq, Prod.mk.injEq] at H; obtain ⟨rfl, rfl, rfl⟩ := H; go_enter Try.func97, Try.ntmps97; go_wp2_with (first | ((with_reducible refine gate_dst (N := 2) rfl ?_); refine zx (N := 2) (cs := #[.slice A0_0 l0_0.length c0_0, .slice A0_1 l0_1.length c0_1]) (t := 70) ?_; intro gb1250 hg w17 hbox hb; have BK1250 := Aside0.mk (hbox); have GW1250 := zg HB hg; have GE1250 := GW1250; replace HB := zh HB hb; clear hb hbox hg) | ((with_reducible refine gate_dst (N := 4) rfl ?_); refine zx (N := 4) (cs := #[.slice none 0 0, .slice none 0 0]) (t := 70) ?_; intro gb1251 hg w18 hbox hb; have BK1251 := Aside0.mk (hbox); have GW1251 := zg HB hg; have GE1251 := GW1251; replace HB := zh HB hb; obtain ⟨NB1250_1251, NB1251_1250⟩ := ze BK1250 hg; replace BK1250 := zc BK1250 hb; clear hb hbox hg; have hnb19 := NB1250_1251.out; have hnc19 := NB1251_1250.out; obtain ⟨hcz20_0, hcz20_1, hfz20_0, hfz20_1⟩ := zy2 BK1250) | (go_at_call 99; (with_reducible refine (impl_ValidFlat.calls k _ _ l0_0 _ _ l0_1 false _ ?side1 ?side2 ?side3 ?side4 A4.out).mono ?_); (case side1 => exact zC HR0_0 HB); (case side2 => exact HC0_0.out); (case side3 => exact zC HR0_1 HB); (case side4 => exact HC0_1.out); rintro e w21 ⟨rfl, hb⟩; replace BK1250 := zc BK1250 hb; replace BK1251 := zc BK1251 hb; replace HB := zh HB hb; (try clear hb); (try clear hb2); (try clear hk); (try clear hi); obtain ⟨hcz22_0, hcz22_1, hfz22_0, hfz22_1⟩ := zy2 BK1251)); refine bodyPost_ret (results_ct rfl _ _ gb1251 70 #[.slice none 0 0, .slice none 0 0] (0, 0) _ rfl (zbp BK1251) Try.underlying70 rfl (by kernel_rfl)) rfl ?_; exact ⟨_, _, by first | rfl | (simp [errW_none, errW_some] <;> rfl) | (simp [*, errW_none, errW_some] <;> rfl), by first | exact Kd.R_nil _ _ _ _ _ | exact Kd.N_nil _ _ _ _ _ | exact Kd.V_nil _ _ _ _ _ | exact Kd.Q_nil _ _ _ _ _ | exact Kd.S_nil _ _ _ _ _, by first | exact Kd.R_nil _ _ _ _ _ | exact Kd.N_nil _ _ _ _ _ | exact Kd.V_nil _ _ _ _ _ | exact Kd.Q_nil _ _ _ _ _ | exact Kd.S_nil _ _ _ _ _, zB HB⟩
 ·replace c3 := Bool.eq_false_iff.mpr c3; subst c3; rw [if_neg (show ¬ (false = true) by decide)] at H; simp only [Option.some.injEq, Prod.mk.injEq] at H; obtain ⟨rfl, rfl, rfl⟩ := H; go_enter Try.func97, Try.ntmps97; go_wp2_with (first | ((with_reducible refine gate_dst (N := 2) rfl ?_); refine zx (N := 2) (cs := #[.slice A0_0 l0_0.length c0_0, .slice A0_1 l0_1.length c0_1]) (t := 70) ?_; intro gb1250 hg w23 hbox hb; have BK1250 := Aside0.mk (hbox); have GW1250 := zg HB hg; have GE1250 := GW1250; replace HB := zh HB hb; clear hb hbox hg) | ((with_reducible refine gate_dst (N := 4) rfl ?_); refine zx (N := 4) (cs := #[.slice none 0 0, .slice none 0 0]) (t := 70) ?_; intro gb1251 hg w24 hbox hb; have BK1251 := Aside0.mk (hbox); have GW1251 := zg HB hg; have GE1251 := GW1251; replace HB := zh HB hb; obtain ⟨NB1250_1251, NB1251_1250⟩ := ze BK1250 hg; replace BK1250 := zc BK1250 hb; clear hb hbox hg; have hnb25 := NB1251_1250.out; have hnc25 := NB1250_1251.out; obtain ⟨hcz26_0, hcz26_1, hfz26_0, hfz26_1⟩ := zy2 BK1251)); refine bodyPost_ret (results_ct rfl _ _ gb1251 70 #[.slice none 0 0, .slice none 0 0] (0, 0) _ rfl (zbp BK1251) Try.underlying70 rfl (by kernel_rfl)) rfl ?_; exact ⟨_, _, by first | rfl | (simp [errW_none, errW_some] <;> rfl) | (simp [*, errW_none, errW_some] <;> rfl), by first | exact Kd.R_nil _ _ _ _ _ | exact Kd.N_nil _ _ _ _ _ | exact Kd.V_nil _ _ _ _ _ | exact Kd.Q_nil _ _ _ _ _ | exact Kd.S_nil _ _ _ _ _, by first | exact Kd.R_nil _ _ _ _ _ | exact Kd.N_nil _ _ _ _ _ | exact Kd.V_nil _ _ _ _ _ | exact Kd.Q_nil _ _ _ _ _ | exact Kd.S_nil _ _ _ _ _, zB HB⟩

/-! ### impl_Flat_put: function 98 -/
def impl_Flat_put.f (l0_0 : List Int) (l0_1 : List (S130)) (a1 : ByteArray) (a2 : Int) : Option (List Int × (List (S130))) := (impl_Flat_copyOf.f l0_0 l0_1).bind fun bt1261 => ((impl_pairAt.f bt1261.2 a1).bind fun t1268 => (if t1268 ≥ 0 then (if 0 ≤ t1268 then (if t1268 < (bt1261.2.length : Int) then (some (bt1261.1, (bt1261.2.set (t1268 : Int).toNat (⟨(rd_T130 bt1261.2 t1268).f0, a2⟩ : S130)))) else (none)) else (none)) else (if bt1261.2.length < 5864062014805 then (some (bt1261.1, (bt1261.2 ++ [(⟨a1, a2⟩ : S130)]))) else (none))))
set_option maxHeartbeats 8000000 in
set_option maxRecDepth 100000 in
theorem impl_Flat_put.calls (A0_0 : Option Addr) (c0_0 : Nat) (l0_0 : List Int) (A0_1 : Option Addr) (c0_1 : Nat) (l0_1 : List (S130)) (a1 : ByteArray) (a2 : Int) (r1 : List Int) (r2 : List (S130)) (w : World) (hr0_0 : Kd.C (Kd.int .i64) w A0_0 l0_0.length l0_0) (hc0_0 : l0_0.length ≤ c0_0) (hr0_1 : Kd.C k130 w A0_1 l0_1.length l0_1) (hc0_1 : l0_1.length ≤ c0_1) (h : impl_Flat_put.f l0_0 l0_1 a1 a2 = some (r1, r2)) :
  Calls Try.prog 98 #[.agg #[.slice A0_0 l0_0.length c0_0, .slice A0_1 l0_1.length c0_1], .string a1, .int .i64 a2] w fun e w' => ∃ v0_ v1_ : Value, e = .returned (.agg #[v0_, v1_]) ∧ Kd.R (Kd.int .i64) 3 w' w.heap.size (fun _ => True) v0_ r1 ∧ Kd.R k130 130 w' w.heap.size (fun _ => True) v1_ r2 ∧ Below w.heap.size w w' := by
 have hu70 := Try.underlying70; have hu130 := Try.underlying130; have HR0_0 := Aside0.mk hr0_0; have HC0_0 := Aside0.mk hc0_0; clear hr0_0 hc0_0; have HR0_1 := Aside0.mk hr0_1; have HC0_1 := Aside0.mk hc0_1; clear hr0_1 hc0_1; have HB := Aside0.mk (Below.refl w.heap.size w); have H : ((impl_Flat_copyOf.f l0_0 l0_1).bind fun bt1261 => ((impl_pairAt.f bt1261.2 a1).bind fun t1268 => (if t1268 ≥ 0 then (if 0 ≤ t1268 then (if t1268 < (bt1261.2.length : Int) then (some (bt1261.1, (bt1261.2.set (t1268 : Int).toNat (⟨(rd_T130 bt1261.2 t1268).f0, a2⟩ : S130)))) else (none)) else (none)) else (if bt1261.2.length < 5864062014805 then (some (bt1261.1, (bt1261.2 ++ [(⟨a1, a2⟩ : S130)]))) else (none))))) = some (r1, r2) := h; clear h; replace H := Option.bind_eq_some_iff.mp H; obtain ⟨⟨t1261, t1264⟩, A40, H⟩ := H
 (try dsimp only at H)
 have A4 := Aside0.mk A40; clear A40; replace H := Option.bind_eq_some_iff.mp H; obtain ⟨t1268, A50, H⟩ := H
 (try dsimp only at H)
 have A5 := Aside0.mk A50; clear A50
 by_cases c6 : t1268 ≥ 0
 ·rw [if_pos c6] at H; have c6b0 : decide (0 ≤ t1268) = true := decide_eq_true c6; clear c6
  by_cases c7 : 0 ≤ t1268
  ·rw [if_pos c7] at H; have c7b0 : decide (0 ≤ t1268) = true := decide_eq_true c7; clear c7
   by_cases c8 : t1268 < (t1264.length : Int)
   ·rw [if_pos c8] at H; have c8b0 : decide (t1268 < (t1264.length : Int)) = true := decide_eq_true c8; clear c8; obtain ⟨y1269, hy1269⟩ : ∃ y_ : List (S130), y_ = (t1264.set (t1268 : Int).toNat (⟨(rd_T130 t1264 t1268).f0, a2⟩ : S130)) := ⟨_, rfl⟩
    replace H : (some (t1261, y1269)) = some (r1, r2) := by first | (rw [hy1269]; with_reducible exact H) | (have H2_ := (Option.bind_some _ _).symm.trans H; rw [hy1269]; with_reducible exact H2_) | (have H2_ := (Option.bind_some _ _).symm.trans H; with_reducible exact H2_) | with_reducible exact H | (rw [hy1269]; exact H) | exact H
    have Ny1269 := Aside0.mk hy1269; clear hy1269; simp only [Option.some.injEq, Prod.mk.injEq] at H; obtain ⟨rfl, rfl⟩ := H; go_enter Try.func98, Try.ntmps98; go_wp2_with (first | ((with_reducible refine gate_dst (N := 3) rfl ?_); refine zx (N := 3) (cs := #[.slice A0_0 l0_0.length c0_0, .slice A0_1 l0_1.length c0_1]) (t := 70) ?_; intro gb1259 hg w10 hbox hb; have BK1259 := Aside0.mk (hbox); have GW1259 := zg HB hg; have GE1259 := GW1259; replace HB := zh HB hb; clear hb hbox hg) | ((with_reducible refine gate_dst (N := 6) rfl ?_); refine zx (N := 6) (cs := #[.slice none 0 0, .slice none 0 0]) (t := 70) ?_; intro gb1260 hg w11 hbox hb; have BK1260 := Aside0.mk (hbox); have GW1260 := zg HB hg; have GE1260 := GW1260; replace HB := zh HB hb; obtain ⟨NB1259_1260, NB1260_1259⟩ := ze BK1259 hg; replace BK1259 := zc BK1259 hb; clear hb hbox hg; have hnb12 := NB1259_1260.out; have hnc12 := NB1260_1259.out; obtain ⟨hcz13_0, hcz13_1, hfz13_0, hfz13_1⟩ := zy2 BK1259) | ((with_reducible refine gate_callee (f := 122) rfl ?_); refine goesL_ (some 10) rfl rfl Try.func122 (by kernel_rfl) rfl #[.agg #[.slice A0_0 l0_0.length c0_0, .slice A0_1 l0_1.length c0_1]] rfl zl ?_; (with_reducible refine (impl_Flat_copyOf.calls _ _ l0_0 _ _ l0_1 t1261 t1264 _ ?side1 ?side2 ?side3 ?side4 A4.out).mono ?_); (case side1 => exact zC HR0_0 HB); (case side2 => exact HC0_0.out); (case side3 => exact zC HR0_1 HB); (case side4 => exact HC0_1.out); rintro e w14 ⟨v1262, v1265, rfl, ho0, ho1, hb⟩; refine ⟨_, rfl, ?_⟩; have HO1263 := Aside0.mk (Kd.R_lower ho0 (below_size (zB HB))); have HO1266 := Aside0.mk (Kd.R_lower ho1 (below_size (zB HB))); replace BK1259 := zc BK1259 hb; replace BK1260 := zc BK1260 hb; replace HB := zh HB hb; (try clear hb); (try clear hb2); (try clear hk); (try clear hi); (try clear ho0); (try clear ho1)) | ((with_reducible refine gate_dst (N := 7) rfl ?_); refine zx (N := 7) (cs := #[.slice none 0 0, .slice none 0 0]) (t := 70) ?_; intro gb1267 hg w15 hbox hb; replace HO1263 := Aside0.mk (Kd.R_below (zo HO1263) hb); replace HO1266 := Aside0.mk (Kd.R_below (zo HO1266) hb); have BK1267 := Aside0.mk (hbox); have GW1267 := zg HB hg; have GE1267 := GW1267; replace HB := zh HB hb; obtain ⟨NB1259_1267, NB1267_1259⟩ := ze BK1259 hg; replace BK1259 := zc BK1259 hb; obtain ⟨NB1260_1267, NB1267_1260⟩ := ze BK1260 hg; replace BK1260 := zc BK1260 hb; clear hb hbox hg; obtain ⟨Ao16, co16, eo16⟩ := Kd.R_slice HO1263.out; subst eo16; have hnb17 := NB1267_1259.out; have hnc17 := NB1259_1267.out; have hnb18 := NB1267_1260.out; have hnc18 := NB1260_1267.out; obtain ⟨hcz19_0, hcz19_1, hfz19_0, hfz19_1⟩ := zy2 BK1267; obtain ⟨Ao20, co20, eo20⟩ := Kd.R_slice HO1266.out; subst eo20) | ((with_reducible refine gate_callee (f := 123) rfl ?_); refine goesL_ (some 14) rfl rfl Try.func123 (by kernel_rfl) rfl #[.slice Ao20 t1264.length co20, .string a1] rfl zl ?_; (with_reducible refine (impl_pairAt.calls _ _ t1264 a1 t1268 _ ?side1 ?side2 A5.out).mono ?_); (case side1 => refine (Kd.R_reads' (e := 130) (base := w.heap.size) (ok := fun k_ => True) (n := t1264.length) (c := co20) ?_).2.2; exact (by (with_reducible repeat (first | apply Kd.R_alloc | apply Kd.R_drewN | apply Kd.R_drew)); exact (Kd.R_mono (Kd.R_far (p := ⟨gb1267, 1, none⟩) (Kd.R_far (p := ⟨gb1267, 0, none⟩) (Kd.R_types HO1266.out BK1267.out (by decide)) (fun _ hk => hk.2) (.slice Ao16 t1261.length co16)) (fun _ hk => hk.2) (.slice Ao20 t1264.length co20)) (fun _ h_ => h_.1)))); (case side2 => exact (Kd.R_reads' HO1266.out).2.1); rintro e w21 ⟨rfl, hb⟩; refine ⟨_, rfl, ?_⟩; replace HO1263 := Aside0.mk (Kd.R_below (by (with_reducible repeat (first | apply Kd.R_alloc | apply Kd.R_drewN | apply Kd.R_drew)); exact (Kd.R_mono (Kd.R_far (p := ⟨gb1267, 1, none⟩) (Kd.R_far (p := ⟨gb1267, 0, none⟩) (Kd.R_types HO1263.out BK1267.out (by decide)) (fun _ hk => hk.2) (.slice Ao16 t1261.length co16)) (fun _ hk => hk.2) (.slice Ao20 t1264.length co20)) (fun _ h_ => h_.1))) hb); replace HO1266 := Aside0.mk (Kd.R_below (by (with_reducible repeat (first | apply Kd.R_alloc | apply Kd.R_drewN | apply Kd.R_drew)); exact (Kd.R_mono (Kd.R_far (p := ⟨gb1267, 1, none⟩) (Kd.R_far (p := ⟨gb1267, 0, none⟩) (Kd.R_types HO1266.out BK1267.out (by decide)) (fun _ hk => hk.2) (.slice Ao16 t1261.length co16)) (fun _ hk => hk.2) (.slice Ao20 t1264.length co20)) (fun _ h_ => h_.1))) hb); replace BK1259 := zc BK1259 hb; replace BK1260 := zc BK1260 hb; replace BK1267 := Aside0.mk (blk_below (g := gb1267) (o := .cells #[.slice Ao16 t1261.length co16, .slice Ao20 t1264.length co20] 70 (0, 0)) (zbp BK1267) hb); replace HB := zh HB hb; (try clear hb); (try clear hb2); (try clear hk); (try clear hi); obtain ⟨hcz22_0, hcz22_1, hfz22_0, hfz22_1⟩ := zy2 BK1267; have p9 : 0 ≤ (t1268 : Int) := of_decide_eq_true za; have q9 : (t1268 : Int) < ((t1264.length : Int) : Int) := of_decide_eq_true za; obtain ⟨go9, co9, eo9, gb9, gl9, cl9, HG9⟩ := Kd.R_form HO1266.out (by omega); (first | cases eo9 | (injection eo9 with ea_ en_ ec_; (first | subst ea_ | (injection ea_ with ea_; subst ea_)); subst ec_; clear en_)); have GB9 := Aside0.mk gb9; have GG9 := Aside0.mk HG9; clear gb9 gl9 HG9; obtain ⟨ce9, hcl9, hM9, hcc9, hfr9⟩ := Kd.R_elem HO1266.out z130 (t1268 : Int) p9 q9; obtain rfl := k130_openM hM9; have hx9_0 : w21.cell? ⟨go9, (t1268 : Int).toNat * 2, none⟩ = some (.string ((rd_T130 t1264 t1268).f0)) := hcc9 0 _ rfl; have hx9_1 : w21.cell? ⟨go9, (t1268 : Int).toNat * 2 + 1, none⟩ = some (.int .i64 ((rd_T130 t1264 t1268).f1)) := hcc9 1 _ rfl; have hf9_0 : w21.frozen? ⟨go9, (t1268 : Int).toNat * 2, none⟩ = false := hfr9 0; have hf9_1 : w21.frozen? ⟨go9, (t1268 : Int).toNat * 2 + 1, none⟩ = false := hfr9 1; clear hcl9 hcc9 hfr9 hM9; replace p9 := eq_true p9; replace q9 := eq_true q9; have HX23 := Aside0.mk (show Kd.R k130 130 w21 w.heap.size (fun _ => True) (.slice (some ⟨go9, 0, none⟩) t1264.length co20) t1264 from (zo HO1266)); obtain ⟨ce23, hcl23, hM23, hcc23, hfr23⟩ := Kd.R_elem HX23.out z130 (t1268 : Int) (of_decide_eq_true za) (by have h_ : (t1268 : Int) < ((t1264.length : Int) : Int) := of_decide_eq_true za; first | exact h_ | (have e_ := (Kd.R_reads' HO1266.out).1; omega) | simpa using h_); obtain rfl := k130_openM hM23; have HP23 := Kd.R_seg HX23.out (t1268 : Int) (of_decide_eq_true za) (by have h_ : (t1268 : Int) < ((t1264.length : Int) : Int) := of_decide_eq_true za; first | exact h_ | (have e_ := (Kd.R_reads' HO1266.out).1; omega) | simpa using h_) (seg := [.int .i64 a2]) (j := 1) hcl23 hcc23 (show 2 ≤ 2 from by decide) (x' := (⟨(rd_T130 t1264 t1268).f0, a2⟩ : S130)) (k130_mkM _ _ _ (⟨(rd_T130 t1264 t1268).f0, a2⟩ : S130) ) (fun _ hk => hk); have hx23_1 := hcc23 1 _ rfl; (try simp only [show (k130).sz = 2 from rfl, Nat.mul_one, Nat.add_zero] at hx23_1); have hf23_1 := hfr23 1; (try simp only [show (k130).sz = 2 from rfl, Nat.mul_one, Nat.add_zero] at hf23_1); clear hcl23 hcc23 hfr23 hM23) | ((with_reducible refine gate_store (t := 3) (p := 22) rfl ?_); refine store_event (t := 3) (p := 22) (v := ?vo_w24) (w1 := (w21.setCell ⟨go9, (t1268 : Int).toNat * 2 + 1, none⟩ (.int .i64 a2))) ?hg ?ho ?hn ?hr ?_; (case ho => rfl); (case hg => rfl); (case hn => rfl); (case hr => first | (go_simp; done) | (go_simp; rfl)); intro w24 hw; have hg : w21.grownBy w24 (some go9) := (by rw [hw]; exact HP23.2); have hp_ : Kd.R k130 130 w24 w.heap.size (fun _ => True) (.slice (some ⟨go9, 0, none⟩) t1264.length co20) y1269 := (by rw [hw, Ny1269.out]; exact HP23.1); clear HP23; replace BK1259 := Aside0.mk (blk_grown (g := gb1259) (o := .cells #[.slice A0_0 l0_0.length c0_0, .slice A0_1 l0_1.length c0_1] 70 (0, 0)) (zb BK1259) hg (Kd.R_ne HO1266.out BK1259.out (by decide))); replace BK1260 := Aside0.mk (blk_grown (g := gb1260) (o := .cells #[.slice none 0 0, .slice none 0 0] 70 (0, 0)) (zb BK1260) hg (Kd.R_ne HO1266.out BK1260.out (by decide))); replace HO1263 := Aside0.mk (Kd.R_over' (v := (.slice (some ⟨go9, 0, none⟩) t1264.length co20)) (zo HO1263) (Kd.R_typed HO1266.out) (by decide) hg); replace BK1267 := Aside0.mk (blk_grown (g := gb1267) (o := .cells #[.slice Ao16 t1261.length co16, .slice (some ⟨go9, 0, none⟩) t1264.length co20] 70 (0, 0)) (zb BK1267) hg (Kd.R_ne HO1266.out BK1267.out (by decide))); replace HO1266 := Aside0.mk (hp_); replace HB := Aside0.mk ((by rw [hw]; exact below_set (HB.out) GB9.out : Below w.heap.size w w24)); clear hg hw hp_; obtain ⟨hcz25_0, hcz25_1, hfz25_0, hfz25_1⟩ := zy2 BK1267; obtain ⟨hcz26_0, hcz26_1, hfz26_0, hfz26_1⟩ := zy2 BK1260)); refine bodyPost_ret (results_cell_row rfl _ _ gb1260 70 #[.slice Ao16 t1261.length co16, .slice (some ⟨go9, 0, none⟩) t1264.length co20] (0, 0) _ rfl (zbp BK1260) Try.underlying70 rfl (by kernel_rfl)) rfl ?_; exact ⟨_, _, by first | rfl | (simp [errW_none, errW_some] <;> rfl) | (simp [*, errW_none, errW_some] <;> rfl), by (with_reducible repeat (first | apply Kd.R_alloc | apply Kd.R_drewN | apply Kd.R_drew)); exact Kd.R_mono (Kd.R_far (p := ⟨gb1260, 1, none⟩) (Kd.R_far (p := ⟨gb1260, 0, none⟩) (Kd.R_types HO1263.out BK1260.out (by decide)) (fun _ hk => hk.2) (.slice Ao16 t1261.length co16)) (fun _ hk => hk.2) (.slice (some ⟨go9, 0, none⟩) t1264.length co20)) (fun _ hk => trivial), by (with_reducible repeat (first | apply Kd.R_alloc | apply Kd.R_drewN | apply Kd.R_drew)); exact Kd.R_mono (Kd.R_far (p := ⟨gb1260, 1, none⟩) (Kd.R_far (p := ⟨gb1260, 0, none⟩) (Kd.R_types HO1266.out BK1260.out (by decide)) (fun _ hk => hk.2) (.slice Ao16 t1261.length co16)) (fun _ hk => hk.2) (.slice (some ⟨go9, 0, none⟩) t1264.length co20)) (fun _ hk => trivial), zB HB⟩
   ·rw [if_neg c8] at H; exact absurd H (by simp)
  ·rw [if_neg c7] at H; exact absurd H (by simp)
 ·rw [if_neg c6] at H; have c6b0 : decide (0 ≤ t1268) = false := decide_eq_false c6; clear c6
  by_cases c27 : t1264.length < 5864062014805
  ·rw [if_pos c27] at H; have LMc27 := Aside0.mk c27; clear c27; obtain ⟨y1270, hy1270⟩ : ∃ y_ : List (S130), y_ = (t1264 ++ [(⟨a1, a2⟩ : S130)]) := ⟨_, rfl⟩
   replace H : (some (t1261, y1270)) = some (r1, r2) := by first | (rw [hy1270]; with_reducible exact H) | (have H2_ := (Option.bind_some _ _).symm.trans H; rw [hy1270]; with_reducible exact H2_) | (have H2_ := (Option.bind_some _ _).symm.trans H; with_reducible exact H2_) | with_reducible exact H | (rw [hy1270]; exact H) | exact H
   have Ny1270 := Aside0.mk hy1270; clear hy1270; simp only [Option.some.injEq, Prod.mk.injEq] at H; obtain ⟨rfl, rfl⟩ := H; go_enter Try.func98, Try.ntmps98; go_wp2_with (first | ((with_reducible refine gate_dst (N := 3) rfl ?_); refine zx (N := 3) (cs := #[.slice A0_0 l0_0.length c0_0, .slice A0_1 l0_1.length c0_1]) (t := 70) ?_; intro gb1259 hg w28 hbox hb; have BK1259 := Aside0.mk (hbox); have GW1259 := zg HB hg; have GE1259 := GW1259; replace HB := zh HB hb; clear hb hbox hg) | ((with_reducible refine gate_dst (N := 6) rfl ?_); refine zx (N := 6) (cs := #[.slice none 0 0, .slice none 0 0]) (t := 70) ?_; intro gb1260 hg w29 hbox hb; have BK1260 := Aside0.mk (hbox); have GW1260 := zg HB hg; have GE1260 := GW1260; replace HB := zh HB hb; obtain ⟨NB1259_1260, NB1260_1259⟩ := ze BK1259 hg; replace BK1259 := zc BK1259 hb; clear hb hbox hg; have hnb30 := NB1259_1260.out; have hnc30 := NB1260_1259.out; obtain ⟨hcz31_0, hcz31_1, hfz31_0, hfz31_1⟩ := zy2 BK1259) | ((with_reducible refine gate_callee (f := 122) rfl ?_); refine goesL_ (some 10) rfl rfl Try.func122 (by kernel_rfl) rfl #[.agg #[.slice A0_0 l0_0.length c0_0, .slice A0_1 l0_1.length c0_1]] rfl zl ?_; (with_reducible refine (impl_Flat_copyOf.calls _ _ l0_0 _ _ l0_1 t1261 t1264 _ ?side1 ?side2 ?side3 ?side4 A4.out).mono ?_); (case side1 => exact zC HR0_0 HB); (case side2 => exact HC0_0.out); (case side3 => exact zC HR0_1 HB); (case side4 => exact HC0_1.out); rintro e w32 ⟨v1262, v1265, rfl, ho0, ho1, hb⟩; refine ⟨_, rfl, ?_⟩; have HO1263 := Aside0.mk (Kd.R_lower ho0 (below_size (zB HB))); have HO1266 := Aside0.mk (Kd.R_lower ho1 (below_size (zB HB))); replace BK1259 := zc BK1259 hb; replace BK1260 := zc BK1260 hb; replace HB := zh HB hb; (try clear hb); (try clear hb2); (try clear hk); (try clear hi); (try clear ho0); (try clear ho1)) | ((with_reducible refine gate_dst (N := 7) rfl ?_); refine zx (N := 7) (cs := #[.slice none 0 0, .slice none 0 0]) (t := 70) ?_; intro gb1267 hg w33 hbox hb; replace HO1263 := Aside0.mk (Kd.R_below (zo HO1263) hb); replace HO1266 := Aside0.mk (Kd.R_below (zo HO1266) hb); have BK1267 := Aside0.mk (hbox); have GW1267 := zg HB hg; have GE1267 := GW1267; replace HB := zh HB hb; obtain ⟨NB1259_1267, NB1267_1259⟩ := ze BK1259 hg; replace BK1259 := zc BK1259 hb; obtain ⟨NB1260_1267, NB1267_1260⟩ := ze BK1260 hg; replace BK1260 := zc BK1260 hb; clear hb hbox hg; obtain ⟨Ao34, co34, eo34⟩ := Kd.R_slice HO1263.out; subst eo34; have hnb35 := NB1267_1259.out; have hnc35 := NB1259_1267.out; have hnb36 := NB1267_1260.out; have hnc36 := NB1260_1267.out; obtain ⟨hcz37_0, hcz37_1, hfz37_0, hfz37_1⟩ := zy2 BK1267; obtain ⟨Ao38, co38, eo38⟩ := Kd.R_slice HO1266.out; subst eo38) | ((with_reducible refine gate_callee (f := 123) rfl ?_); refine goesL_ (some 14) rfl rfl Try.func123 (by kernel_rfl) rfl #[.slice Ao38 t1264.length co38, .string a1] rfl zl ?_; (with_reducible refine (impl_pairAt.calls _ _ t1264 a1 t1268 _ ?side1 ?side2 A5.out).mono ?_); (case side1 => refine (Kd.R_reads' (e := 130) (base := w.heap.size) (ok := fun k_ => True) (n := t1264.length) (c := co38) ?_).2.2; exact (by (with_reducible repeat (first | apply Kd.R_alloc | apply Kd.R_drewN | apply Kd.R_drew)); exact (Kd.R_mono (Kd.R_far (p := ⟨gb1267, 1, none⟩) (Kd.R_far (p := ⟨gb1267, 0, none⟩) (Kd.R_types HO1266.out BK1267.out (by decide)) (fun _ hk => hk.2) (.slice Ao34 t1261.length co34)) (fun _ hk => hk.2) (.slice Ao38 t1264.length co38)) (fun _ h_ => h_.1)))); (case side2 => exact (Kd.R_reads' HO1266.out).2.1); rintro e w39 ⟨rfl, hb⟩; refine ⟨_, rfl, ?_⟩; replace HO1263 := Aside0.mk (Kd.R_below (by (with_reducible repeat (first | apply Kd.R_alloc | apply Kd.R_drewN | apply Kd.R_drew)); exact (Kd.R_mono (Kd.R_far (p := ⟨gb1267, 1, none⟩) (Kd.R_far (p := ⟨gb1267, 0, none⟩) (Kd.R_types HO1263.out BK1267.out (by decide)) (fun _ hk => hk.2) (.slice Ao34 t1261.length co34)) (fun _ hk => hk.2) (.slice Ao38 t1264.length co38)) (fun _ h_ => h_.1))) hb); replace HO1266 := Aside0.mk (Kd.R_below (by (with_reducible repeat (first | apply Kd.R_alloc | apply Kd.R_drewN | apply Kd.R_drew)); exact (Kd.R_mono (Kd.R_far (p := ⟨gb1267, 1, none⟩) (Kd.R_far (p := ⟨gb1267, 0, none⟩) (Kd.R_types HO1266.out BK1267.out (by decide)) (fun _ hk => hk.2) (.slice Ao34 t1261.length co34)) (fun _ hk => hk.2) (.slice Ao38 t1264.length co38)) (fun _ h_ => h_.1))) hb); replace BK1259 := zc BK1259 hb; replace BK1260 := zc BK1260 hb; replace BK1267 := Aside0.mk (blk_below (g := gb1267) (o := .cells #[.slice Ao34 t1261.length co34, .slice Ao38 t1264.length co38] 70 (0, 0)) (zbp BK1267) hb); replace HB := zh HB hb; (try clear hb); (try clear hb2); (try clear hk); (try clear hi); obtain ⟨hcz40_0, hcz40_1, hfz40_0, hfz40_1⟩ := zy2 BK1267) | ((with_reducible refine gate_builtin (b := .append) (xs := #[.tmp 24, .tmp 28]) rfl ?_); at_builtin; refine Kd.R_append k130 (w0 := w) w.heap.size rfl (.tmp 24) (.tmp 28) 68 130 (.agg #[(.string ⟨#[]⟩), (.int .i64 0)]) 24 rfl Try.underlying68 info130 rfl (by decide) (by omega) (.slice Ao38 t1264.length co38) t1264 (⟨a1, a2⟩ : S130) [.string a1, .int .i64 a2] (fun _ => True) (fun _ => False) rfl rfl ?aP (fun _ hk => hk.elim) ?aF ?aO ?aB ?aS ?aL ?_; (case aP => exact k130_mkM _ _ _ (⟨a1, a2⟩ : S130)); (case aB => exact (zB HB)); (case aF => exact (fun _ _ => trivial)); (case aO => exact (zo HO1266)); (case aS => exact (below_size (zB HB))); (case aL => have := LMc27.out; omega); intro v1271 w41 ho hb hg hat; rw [← Ny1270.out] at ho; have n0_ := Aside0.mk (blk_grown (g := gb1259) (o := .cells #[.slice A0_0 l0_0.length c0_0, .slice A0_1 l0_1.length c0_1] 70 (0, 0)) (zb BK1259) hg (Kd.R_ne HO1266.out BK1259.out (by decide))); have n1_ := Aside0.mk (blk_grown (g := gb1260) (o := .cells #[.slice none 0 0, .slice none 0 0] 70 (0, 0)) (zb BK1260) hg (Kd.R_ne HO1266.out BK1260.out (by decide))); have n2_ := Aside0.mk (Kd.R_over' (zo HO1263) (Kd.R_typed (zo HO1266)) (by decide) hg); have n3_ := Aside0.mk (blk_grown (g := gb1267) (o := .cells #[.slice Ao34 t1261.length co34, .slice Ao38 t1264.length co38] 70 (0, 0)) (zb BK1267) hg (Kd.R_ne HO1266.out BK1267.out (by decide))); have n4_ := Aside0.mk (hb); have n5_ := Aside0.mk (ho); clear BK1259; clear BK1260; clear HO1263; clear BK1267; clear HB; clear HO1266; have BK1259 := n0_; have BK1260 := n1_; have HO1263 := n2_; have BK1267 := n3_; have HB := n4_; have HO1272 := n5_; clear n0_ n1_ n2_ n3_ n4_ n5_; clear ho hb hg hat; obtain ⟨Ao42, co42, eo42⟩ := Kd.R_slice HO1272.out; subst eo42; obtain ⟨hcz43_0, hcz43_1, hfz43_0, hfz43_1⟩ := zy2 BK1267; obtain ⟨hcz44_0, hcz44_1, hfz44_0, hfz44_1⟩ := zy2 BK1260)); refine bodyPost_ret (results_cell_row rfl _ _ gb1260 70 #[.slice Ao34 t1261.length co34, .slice Ao42 y1270.length co42] (0, 0) _ rfl (zbp BK1260) Try.underlying70 rfl (by kernel_rfl)) rfl ?_; exact ⟨_, _, by first | rfl | (simp [errW_none, errW_some] <;> rfl) | (simp [*, errW_none, errW_some] <;> rfl), by (with_reducible repeat (first | apply Kd.R_alloc | apply Kd.R_drewN | apply Kd.R_drew)); exact Kd.R_mono (Kd.R_far (p := ⟨gb1260, 1, none⟩) (Kd.R_far (p := ⟨gb1260, 0, none⟩) (Kd.R_far (p := ⟨gb1267, 1, none⟩) (Kd.R_types (Kd.R_types HO1263.out BK1267.out (by decide)) BK1260.out (by decide)) (fun _ hk => hk.1.2) (.slice Ao42 y1270.length co42)) (fun _ hk => hk.2) (.slice Ao34 t1261.length co34)) (fun _ hk => hk.2) (.slice Ao42 y1270.length co42)) (fun _ hk => trivial), by (with_reducible repeat (first | apply Kd.R_alloc | apply Kd.R_drewN | apply Kd.R_drew)); exact Kd.R_mono (Kd.R_far (p := ⟨gb1260, 1, none⟩) (Kd.R_far (p := ⟨gb1260, 0, none⟩) (Kd.R_far (p := ⟨gb1267, 1, none⟩) (Kd.R_types (Kd.R_types HO1272.out BK1267.out (by decide)) BK1260.out (by decide)) (fun _ hk => hk.1.2) (.slice Ao42 y1270.length co42)) (fun _ hk => hk.2) (.slice Ao34 t1261.length co34)) (fun _ hk => hk.2) (.slice Ao42 y1270.length co42)) (fun _ hk => trivial), zB HB⟩
  ·rw [if_neg c27] at H; exact absurd H (by simp)

end Go.Proofs.Ytlpmggokgcphiaa.Q

namespace Go.Proofs.Ytlpmggokgcphiaa.Q
open Go.RowKit Go.Proofs.YtlpmggokgcphiaaL.PrintWords Go.Proofs.YtlpmggokgcphiaaL.PrintLast Go.Proofs.YtlpmggokgcphiaaL.PrintMore
attribute [local go_sem] max2_int min2_int max_two min_two max_three min_three max_four min_four   -- for this text's walks alone
set_option linter.unusedVariables false
set_option linter.unusedSimpArgs false

/-! ### impl_PutName: function 50 -/
def impl_PutName.f (k : Nat) (l0_0 : List Int) (l0_1 : List (S130)) (a1 : ByteArray) (a2 : Int) : Option (List Int × (List (S130)) × Bool) := (impl_Flat_put.f l0_0 l0_1 a1 a2).bind fun bt1275 => ((impl_ValidFlat.f k l0_0 l0_1).bind fun t1281 => ((impl_checked.f k bt1275.1 bt1275.2 t1281).bind fun bt1282 => (some (bt1282.1, bt1282.2.1, bt1282.2.2))))
theorem impl_PutName.mono : ∀ a0 a1 a2 a3 k, LeO (impl_PutName.f k a0 a1 a2 a3) (impl_PutName.f (k + 1) a0 a1 a2 a3) := by
 intro a0 a1 a2 a3 k; unfold impl_PutName.f
 repeat' first
   | (with_reducible exact impl_ValidFlat.mono _ _ _)
   | (with_reducible exact impl_checked.mono _ _ _ _)
   | (with_reducible exact LeO.refl _)
   | (with_reducible exact LeO.none _)
   | (with_reducible refine LeO.ite ?_ ?_)
   | (with_reducible refine LeO.bind ?_ (fun _ => ?_))
   | exact impl_ValidFlat.mono _ _ _
   | exact impl_checked.mono _ _ _ _
   | exact LeO.none _
   | refine LeO.ite ?_ ?_
   | refine LeO.bind ?_ (fun _ => ?_)
def impl_PutName.T1 : Bool × List (List Nat × List Nat) := (true, [([], []), ([], []), ([], []), ([0, 1, 2], [0, 1, 2]), ([], []), ([4, 3], [4]), ([3, 5, 5], [3, 5]), ([6], [6]), ([6], [6]), ([7, 6, 0, 1, 2, 3, 4, 5, 6, 7, 8], [7]), ([8, 9, 0, 1, 2, 3, 4, 5, 6, 7, 8, 9], [8])])
def impl_PutName.B1 : List Nat := [0, 0, 0, 7, 0, 31, 63, 127, 127, 511, 1023]
theorem impl_PutName.tab1 : rtab .any (opsOf Try.f50 1) = impl_PutName.T1 := by kernel_rfl
theorem impl_PutName.bits1 : waitsOk impl_PutName.T1.2 impl_PutName.B1 = true := by kernel_rfl
set_option maxHeartbeats 8000000 in
set_option maxRecDepth 100000 in
theorem impl_PutName.calls (k : Nat) (A0_0 : Option Addr) (c0_0 : Nat) (l0_0 : List Int) (A0_1 : Option Addr) (c0_1 : Nat) (l0_1 : List (S130)) (a1 : ByteArray) (a2 : Int) (r1 : List Int) (r2 : List (S130)) (r3 : Bool) (w : World) (hr0_0 : Kd.C (Kd.int .i64) w A0_0 l0_0.length l0_0) (hc0_0 : l0_0.length ≤ c0_0) (hr0_1 : Kd.C k130 w A0_1 l0_1.length l0_1) (hc0_1 : l0_1.length ≤ c0_1) (h : impl_PutName.f k l0_0 l0_1 a1 a2 = some (r1, r2, r3)) :
  Calls Try.prog 50 #[.agg #[.slice A0_0 l0_0.length c0_0, .slice A0_1 l0_1.length c0_1], .string a1, .int .i64 a2] w fun e w' => ∃ v0_ v1_ : Value, e = .returned (.tuple #[.agg #[v0_, v1_], .bool r3]) ∧ Kd.R (Kd.int .i64) 3 w' w.heap.size (fun _ => True) v0_ r1 ∧ Kd.R k130 130 w' w.heap.size (fun _ => True) v1_ r2 ∧ Below w.heap.size w w' := by
 have hu70 := Try.underlying70; have HR0_0 := Aside0.mk hr0_0; have HC0_0 := Aside0.mk hc0_0; clear hr0_0 hc0_0; have HR0_1 := Aside0.mk hr0_1; have HC0_1 := Aside0.mk hc0_1; clear hr0_1 hc0_1; have HB := Aside0.mk (Below.refl w.heap.size w); have H : ((impl_Flat_put.f l0_0 l0_1 a1 a2).bind fun bt1275 => ((impl_ValidFlat.f k l0_0 l0_1).bind fun t1281 => ((impl_checked.f k bt1275.1 bt1275.2 t1281).bind fun bt1282 => (some (bt1282.1, bt1282.2.1, bt1282.2.2))))) = some (r1, r2, r3) := h; clear h; replace H := Option.bind_eq_some_iff.mp H; obtain ⟨⟨t1275, t1278⟩, A40, H⟩ := H
 (try dsimp only at H)
 have A4 := Aside0.mk A40; clear A40; replace H := Option.bind_eq_some_iff.mp H; obtain ⟨t1281, A50, H⟩ := H
 (try dsimp only at H)
 have A5 := Aside0.mk A50; clear A50; replace H := Option.bind_eq_some_iff.mp H; obtain ⟨⟨t1282, t1285, t1288⟩, A60, H⟩ := H
 (try dsimp only at H)
 have A6 := Aside0.mk A60; clear A60; simp only [Option.some.injEq, Prod.mk.injEq] at H; obtain ⟨rfl, rfl, rfl⟩ := H; go_enter Try.func50, Try.ntmps50
 try go_wp2_with (first | ((with_reducible refine gate_dst (N := 3) rfl ?_); refine zx (N := 3) (cs := #[.slice A0_0 l0_0.length c0_0, .slice A0_1 l0_1.length c0_1]) (t := 70) ?_; intro gb1273 hg w7 hbox hb; have BK1273 := Aside0.mk (hbox); have GW1273 := zg HB hg; have GE1273 := GW1273; replace HB := zh HB hb; clear hb hbox hg) | ((with_reducible refine gate_dst (N := 6) rfl ?_); refine zx (N := 6) (cs := #[.slice none 0 0, .slice none 0 0]) (t := 70) ?_; intro gb1274 hg w8 hbox hb; have BK1274 := Aside0.mk (hbox); have GW1274 := zg HB hg; have GE1274 := GW1274; replace HB := zh HB hb; obtain ⟨NB1273_1274, NB1274_1273⟩ := ze BK1273 hg; replace BK1273 := zc BK1273 hb; clear hb hbox hg))
 replace BK1273 := Aside0.mk (blk_drew BK1273.out); replace BK1274 := Aside0.mk (blk_drew BK1274.out); replace HB := Aside0.mk (below_drew1 HB.out); refine start_ (n := 11) (S := fun w' => w'.cell? ⟨gb1273, 0, none⟩ = some (.slice A0_0 l0_0.length c0_0) ∧ w'.cell? ⟨gb1273, 1, none⟩ = some (.slice A0_1 l0_1.length c0_1)) (ds := []) #[false, false, false, false, false, false, false, false, false, false, false] (by kernel_rfl) rfl rfl ⟨(blk_cell BK1273.out 0).trans rfl, (blk_cell BK1273.out 1).trans rfl⟩ (fun hHeld => ?_); refine with_tabW impl_PutName.tab1 impl_PutName.bits1 (fun HT_ HW_ => ?_); generalize w8.drew = w9 at BK1273 BK1274 HB hHeld ⊢; refine zu 1 9 #[false, true, false, false, false, false, false, false, false, false, false] (any_of HT_.out (by kernel_rfl)) ?_
 refine zu 2 10 #[false, true, true, false, false, false, false, false, false, false, false] (any_of HT_.out (by kernel_rfl)) ?_
 refine zT 0 8 #[true, true, true, false, false, false, false, false, false, false, false] (take_ofW HT_.out HW_.out (by kernel_rfl)) hHeld ?_
 refine zT 4 12 #[true, true, true, false, true, false, false, false, false, false, false] (take_ofW HT_.out HW_.out (by kernel_rfl)) hHeld ?_
 refine one_ (i := 3) (N := some 11) #[true, true, true, true, true, false, false, false, false, false, false] rfl rfl (one_of HT_.out (by kernel_rfl)) (by decide) (fun K hK => ?_); refine goes_ Try.func98 (by kernel_rfl) rfl #[.agg #[.slice A0_0 l0_0.length c0_0, .slice A0_1 l0_1.length c0_1], .string a1, .int .i64 a2] (by rfl) rfl rfl zl ?_; with_reducible refine (impl_Flat_put.calls _ _ l0_0 _ _ l0_1 a1 a2 t1275 t1278 _ ?side1 ?side2 ?side3 ?side4 A4.out).mono ?_
 (case side1 => exact zC HR0_0 HB)
 (case side2 => exact HC0_0.out)
 (case side3 => exact zC HR0_1 HB)
 (case side4 => exact HC0_1.out)
 rintro e w10 ⟨v1276, v1279, rfl, ho0, ho1, hb⟩; refine ⟨_, rfl, ?_⟩; have HO1277 := Aside0.mk (Kd.R_lower ho0 (below_size (zB HB))); have HO1280 := Aside0.mk (Kd.R_lower ho1 (below_size (zB HB))); replace BK1273 := zc BK1273 hb; replace BK1274 := zc BK1274 hb; replace HB := zh HB hb; (try clear hb); (try clear hb2); (try clear hk); (try clear hi); (try clear ho0); (try clear ho1); refine hK.out _ _ ⟨(blk_cell BK1273.out 0).trans rfl, (blk_cell BK1273.out 1).trans rfl⟩ (fun hHeld => ?_); clear hK K; refine norm_ (a' := ?_) ?_ ?_; rotate_left
 ·show Act.put _ (some 11) _ = _
  simp only [Act.put, List.setIfInBounds_toArray, List.set_cons_zero, List.set_cons_succ, i64_w, i32_w]; rfl
 refine one_ (i := 5) (N := some 13) #[true, true, true, true, true, true, false, false, false, false, false] rfl rfl (one_of HT_.out (by kernel_rfl)) (by decide) (fun K hK => ?_); refine goes_ Try.func99 (by kernel_rfl) rfl #[.agg #[.slice A0_0 l0_0.length c0_0, .slice A0_1 l0_1.length c0_1]] (by rfl) rfl rfl zl ?_; with_reducible refine (impl_ValidFlat.calls k _ _ l0_0 _ _ l0_1 t1281 _ ?side1 ?side2 ?side3 ?side4 A5.out).mono ?_
 (case side1 => exact zC HR0_0 HB)
 (case side2 => exact HC0_0.out)
 (case side3 => exact zC HR0_1 HB)
 (case side4 => exact HC0_1.out)
 rintro e w11 ⟨rfl, hb⟩; refine ⟨_, rfl, ?_⟩; replace HO1277 := Aside0.mk (Kd.R_below (zo HO1277) hb); replace HO1280 := Aside0.mk (Kd.R_below (zo HO1280) hb); replace BK1273 := zc BK1273 hb; replace BK1274 := zc BK1274 hb; replace HB := zh HB hb; (try clear hb); (try clear hb2); (try clear hk); (try clear hi); obtain ⟨Ao12, co12, eo12⟩ := Kd.R_slice HO1277.out
 (first | subst eo12 | (injection eo12 with f1_ f2_ f3_; have f4_ := f1_.symm; have f5_ := f3_.symm; clear f1_ f2_ f3_; subst f4_; subst f5_))
 obtain ⟨Ao13, co13, eo13⟩ := Kd.R_slice HO1280.out
 (first | subst eo13 | (injection eo13 with f1_ f2_ f3_; have f4_ := f1_.symm; have f5_ := f3_.symm; clear f1_ f2_ f3_; subst f4_; subst f5_))
 refine hK.out _ _ ⟨(blk_cell BK1273.out 0).trans rfl, (blk_cell BK1273.out 1).trans rfl⟩ (fun hHeld => ?_); clear hK K; refine norm_ (a' := ?_) ?_ ?_; rotate_left
 ·show Act.put _ (some 13) _ = _
  simp only [Act.put, List.setIfInBounds_toArray, List.set_cons_zero, List.set_cons_succ, i64_w, i32_w]; rfl
 refine one_ (i := 6) (N := some 14) #[true, true, true, true, true, true, true, false, false, false, false] rfl rfl (one_of HT_.out (by kernel_rfl)) (by decide) (fun K hK => ?_); refine goes_ Try.func97 (by kernel_rfl) rfl #[.agg #[.slice Ao12 t1275.length co12, .slice Ao13 t1278.length co13], .bool t1281] (by rfl) rfl rfl zl ?_; with_reducible refine (impl_checked.calls k _ _ t1275 _ _ t1278 t1281 t1282 t1285 t1288 _ ?side1 ?side2 ?side3 ?side4 A6.out).mono ?_
 (case side1 => repeat (first | exact (Kd.R_reads' HO1277.out).2.2 | (with_reducible refine Kd.C_alloc ?_ _) | (with_reducible refine Kd.C_drewN ?_ _) | (with_reducible refine Kd.C_drew ?_)))
 (case side2 => exact (Kd.R_reads' HO1277.out).2.1)
 (case side3 => repeat (first | exact (Kd.R_reads' HO1280.out).2.2 | (with_reducible refine Kd.C_alloc ?_ _) | (with_reducible refine Kd.C_drewN ?_ _) | (with_reducible refine Kd.C_drew ?_)))
 (case side4 => exact (Kd.R_reads' HO1280.out).2.1)
 rintro e w14 ⟨v1283, v1286, rfl, ho0, ho1, hb⟩; refine ⟨_, rfl, ?_⟩; have HO1284 := Aside0.mk (Kd.R_lower (Kd.R_new' ho0 (Kd.R_lt (zo HO1277))) (below_size (zB HB))); replace HO1277 := Aside0.mk (Kd.R_elder' (zo HO1277) (Kd.R_base ho0) hb); have HO1287 := Aside0.mk (Kd.R_lower (Kd.R_new' ho1 (Kd.R_lt (zo HO1280))) (below_size (zB HB))); replace HO1280 := Aside0.mk (Kd.R_elder' (zo HO1280) (Kd.R_base ho1) hb); replace BK1273 := zc BK1273 hb; replace BK1274 := zc BK1274 hb; replace HB := zh HB hb; (try clear hb); (try clear hb2); (try clear hk); (try clear hi); (try clear ho0); (try clear ho1); obtain ⟨Ao15, co15, eo15⟩ := Kd.R_slice HO1284.out
 (first | subst eo15 | (injection eo15 with f1_ f2_ f3_; have f4_ := f1_.symm; have f5_ := f3_.symm; clear f1_ f2_ f3_; subst f4_; subst f5_))
 obtain ⟨Ao17, co17, eo17⟩ := Kd.R_slice HO1287.out
 (first | subst eo17 | (injection eo17 with f1_ f2_ f3_; have f4_ := f1_.symm; have f5_ := f3_.symm; clear f1_ f2_ f3_; subst f4_; subst f5_))
 refine hK.out _ _ ⟨(blk_cell BK1273.out 0).trans rfl, (blk_cell BK1273.out 1).trans rfl⟩ (fun hHeld => ?_); clear hK K; refine norm_ (a' := ?_) ?_ ?_; rotate_left
 ·show Act.put _ (some 14) _ = _
  simp only [Act.put, List.setIfInBounds_toArray, List.set_cons_zero, List.set_cons_succ, i64_w, i32_w]; rfl
 refine zu 7 15 #[true, true, true, true, true, true, true, true, false, false, false] (any_of HT_.out (by kernel_rfl)) ?_
 refine zu 8 16 #[true, true, true, true, true, true, true, true, true, false, false] (any_of HT_.out (by kernel_rfl)) ?_
 refine one_ (i := 9) (N := none) #[true, true, true, true, true, true, true, true, true, true, false] rfl rfl (one_of HT_.out (by kernel_rfl)) (by decide) (fun K hK => ?_); have hs16 : w14.cell? ⟨gb1274, 0, none⟩ = some (.slice none 0 0) := (blk_cell BK1274.out 0).trans rfl; have hfs16 := blk_frozen BK1274.out 0; have hns16_0 := NB1273_1274.out; have hms16_0 := NB1274_1273.out; have hs18 : w14.cell? ⟨gb1274, 1, none⟩ = some (.slice none 0 0) := (blk_cell BK1274.out 1).trans rfl; have hfs18 := blk_frozen BK1274.out 1; have hns18_0 := NB1273_1274.out; have hms18_0 := NB1274_1273.out; refine skip_ (w1 := ?_) (by rfl) rfl ?_ ?_; rotate_left
 ·go_simp; rfl
 refine hK.out _ _ ⟨((cell_far (p := ⟨gb1274, _, none⟩) NB1273_1274.out _).trans (((cell_far (p := ⟨gb1274, _, none⟩) NB1273_1274.out _).trans (hHeld.1)))), ((cell_far (p := ⟨gb1274, _, none⟩) NB1273_1274.out _).trans (((cell_far (p := ⟨gb1274, _, none⟩) NB1273_1274.out _).trans (hHeld.2))))⟩ (fun hHeld => ?_); clear hK K; refine zu 10 7 #[true, true, true, true, true, true, true, true, true, true, true] (any_of HT_.out (by kernel_rfl)) ?_
 refine done_ (done_of HT_.out (by kernel_rfl)) ?_
 try go_wp2
 refine bodyPost_ret (results_ct rfl _ _ gb1274 70 #[.slice Ao15 t1282.length co15, .slice Ao17 t1285.length co17] (0, 0) _ rfl (zbp BK1274) Try.underlying70 rfl (by kernel_rfl)) rfl ?_; exact ⟨_, _, by first | rfl | (simp [errW_none, errW_some] <;> rfl) | (simp [*, errW_none, errW_some] <;> rfl), by (with_reducible repeat (first | apply Kd.R_alloc | apply Kd.R_drewN | apply Kd.R_drew)); exact Kd.R_mono (Kd.R_far (p := ⟨gb1274, 1, none⟩) (Kd.R_far (p := ⟨gb1274, 0, none⟩) (Kd.R_types HO1284.out BK1274.out (by decide)) (fun _ hk => hk.2) (.slice Ao15 t1282.length co15)) (fun _ hk => hk.2) (.slice Ao17 t1285.length co17)) (fun _ hk => trivial), by (with_reducible repeat (first | apply Kd.R_alloc | apply Kd.R_drewN | apply Kd.R_drew)); exact Kd.R_mono (Kd.R_far (p := ⟨gb1274, 1, none⟩) (Kd.R_far (p := ⟨gb1274, 0, none⟩) (Kd.R_types HO1287.out BK1274.out (by decide)) (fun _ hk => hk.2) (.slice Ao15 t1282.length co15)) (fun _ hk => hk.2) (.slice Ao17 t1285.length co17)) (fun _ hk => trivial), zB HB⟩

end Go.Proofs.Ytlpmggokgcphiaa.Q
