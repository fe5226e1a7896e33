-- written by px.py and merge.py (programs of this claim's), over the kit's print. Not trusted: Lean checks it.
import Derived.Test.YtkandhljbbolnaaQ0
import Derived.Test.YtkandhljbbolnaaM0FnValidCall
import Derived.Test.YtkandhljbbolnaaM3FnValidCall
namespace Go.Proofs.Ytkandhljbbolnaa.Q
open Go.RowKit Go.Proofs.YtkandhljbbolnaaL.PrintWords Go.Proofs.YtkandhljbbolnaaL.PrintLast Go.Proofs.YtkandhljbbolnaaL.PrintMore
attribute [local go_sem] max2_int min2_int max_two min_two max_three min_three max_four min_four   -- for this text's walks alone
set_option linter.unusedVariables false
set_option linter.unusedSimpArgs false

/-! ### spec_newReader: function 75 -/
def spec_newReader.f (l0 : List Int) : Option (List Int × Int) := if (l0.length : Int) > 2000 then (if 2000 ≤ (l0.length : Int) then (some (l0.take 2000, 0)) else (none)) else (some (l0, 0))
set_option maxHeartbeats 8000000 in
set_option maxRecDepth 100000 in
theorem spec_newReader.calls (A0 : Option Addr) (c0 : Nat) (l0 : List Int) (r1 : List Int) (r2 : Int) (w0 w : World) (hB : Below w0.heap.size w0 w) (hr0 : Kd.C (Kd.int .u8) w0 A0 l0.length l0) (hc0 : l0.length ≤ c0) (h : spec_newReader.f l0 = some (r1, r2)) :
  Calls Try.prog 75 #[.slice A0 l0.length c0] w fun e w' => ∃ g_ : Nat, e = .returned (.pointer (some ⟨g_, 0, none⟩)) ∧ IsS150 w0 w' g_ r1 r2 ∧ Below w0.heap.size w0 w' ∧ Below w.heap.size w w' := by
 have hu150 := Try.underlying150; have HR0 := Aside0.mk hr0; have HC0 := Aside0.mk hc0; clear hr0 hc0; have HBW := Aside0.mk (Below.refl w.heap.size w); have HW0 := Aside0.mk hB.size; have HB := Aside0.mk hB; clear hB; have H : (if (l0.length : Int) > 2000 then (if 2000 ≤ (l0.length : Int) then (some (l0.take 2000, 0)) else (none)) else (some (l0, 0))) = some (r1, r2) := h; clear h
 by_cases c2 : (l0.length : Int) > 2000
 ·rw [if_pos c2] at H; have c2b0 : decide (2000 < (l0.length : Int)) = true := decide_eq_true c2; have c2b1 : decide (2000 < l0.length) = true := decide_eq_true (by omega); clear c2
  by_cases c3 : 2000 ≤ (l0.length : Int)
  ·rw [if_pos c3] at H; have c3b0 := eq_true c3; have c3b1 : decide (2000 ≤ (l0.length : Int)) = true := decide_eq_true c3; clear c3; simp only [Option.some.injEq, Prod.mk.injEq] at H; obtain ⟨rfl, rfl⟩ := H; obtain ⟨i04, hi04, _, hsz4, _⟩ := info_parts info5; obtain ⟨hcut4, hA4, hC4⟩ := print_take_of (P := Try.prog) (Value.int .u8) 0 45 5 .i64 Try.underlying45 hi04 hsz4 A0 c0 l0 2000 (by omega) (of_decide_eq_true za) HC0.out; have HR432 := Aside0.mk (Kd.C_of_reads (h1 := fun _ => rfl) (hA4 _ (Kd.reads_of_C HR0.out))); have HC432 := Aside0.mk hC4; clear hA4 hC4 hi04 hsz4; go_enter Try.func75, Try.ntmps75; go_wp2_with (first | ((with_reducible refine gate_dst (N := 10) rfl ?_); refine zx (N := 10) (cs := #[.slice A0 (l0.take 2000).length c0, .int .i64 0]) (t := 150) ?_; intro gb433 hg w5 hbox hb; replace HB := Aside0.mk (below_step (zB HB) hb); have BK433 := Aside0.mk (hbox); have GW433 := Aside0.mk ((by rw [hg]; exact (below_size (zB HBW)) : w.heap.size ≤ gb433)); have GE433 := Aside0.mk (Nat.le_trans HW0.out GW433.out); replace HBW := Aside0.mk (below_step HBW.out hb); clear hb hbox hg)); go_ret; exact ⟨_, rfl, (show IsS150 w0 _ gb433 (l0.take 2000) 0 from ⟨_, _, by (with_reducible repeat (first | refine blk_drewN ?_ _ | refine blk_drew ?_ | refine blk_alloc ?_ _)); exact BK433.out, GE433.out, HR432.out⟩), by repeat (first | (with_reducible first | exact HB.out | apply below_alloc | apply pw_below_drewN | apply below_drew1 | refine below_set ?_ GE433.out) | exact HB.out), by repeat (first | (with_reducible first | exact HBW.out | apply below_alloc | apply pw_below_drewN | apply below_drew1 | refine below_set ?_ GW433.out) | exact HBW.out)⟩
  ·rw [if_neg c3] at H; exact absurd H (by simp)
 ·rw [if_neg c2] at H; have c2b0 : decide (2000 < (l0.length : Int)) = false := decide_eq_false c2; have c2b1 : decide (2000 < l0.length) = false := decide_eq_false (by omega); clear c2; simp only [Option.some.injEq, Prod.mk.injEq] at H; obtain ⟨rfl, rfl⟩ := H; go_enter Try.func75, Try.ntmps75; go_wp2_with (first | ((with_reducible refine gate_dst (N := 10) rfl ?_); refine zx (N := 10) (cs := #[.slice A0 l0.length c0, .int .i64 0]) (t := 150) ?_; intro gb434 hg w6 hbox hb; replace HB := Aside0.mk (below_step (zB HB) hb); have BK434 := Aside0.mk (hbox); have GW434 := Aside0.mk ((by rw [hg]; exact (below_size (zB HBW)) : w.heap.size ≤ gb434)); have GE434 := Aside0.mk (Nat.le_trans HW0.out GW434.out); replace HBW := Aside0.mk (below_step HBW.out hb); clear hb hbox hg)); go_ret; exact ⟨_, rfl, (show IsS150 w0 _ gb434 l0 0 from ⟨_, _, by (with_reducible repeat (first | refine blk_drewN ?_ _ | refine blk_drew ?_ | refine blk_alloc ?_ _)); exact BK434.out, GE434.out, HR0.out⟩), by repeat (first | (with_reducible first | exact HB.out | apply below_alloc | apply pw_below_drewN | apply below_drew1 | refine below_set ?_ GE434.out) | exact HB.out), by repeat (first | (with_reducible first | exact HBW.out | apply below_alloc | apply pw_below_drewN | apply below_drew1 | refine below_set ?_ GW434.out) | exact HBW.out)⟩

end Go.Proofs.Ytkandhljbbolnaa.Q

namespace Go.Proofs.Ytkandhljbbolnaa.Q
open Go.RowKit Go.Proofs.YtkandhljbbolnaaL.PrintWords Go.Proofs.YtkandhljbbolnaaL.PrintLast Go.Proofs.YtkandhljbbolnaaL.PrintMore
attribute [local go_sem] max2_int min2_int max_two min_two max_three min_three max_four min_four   -- for this text's walks alone
set_option linter.unusedVariables false
set_option linter.unusedSimpArgs false

theorem zi150_37 {w0 W W' : World} {g : Nat} {f0 f0' : List Int} {f1 f1' : Int} (h : Aside0 (IsS150 w0 W g f0 f1)) (i : IsS150 w0 W g f0 f1 → IsS150 w0 W' g f0' f1' := by intro hh_; repeat (first | (with_reducible first | exact hh_ | apply IsS150.alloc | apply IsS150.drewN | apply IsS150.drew | apply IsS150.set_1 | refine IsS150.far ?_ (Aside0.out (by assumption)) _) | exact hh_)) : IsS150 w0 W' g f0' f1' := i h.out
theorem zj150_37 {B : Nat} {w W W' : World} (h : Aside0 (Below B w W)) (i : Below B w W → Below B w W' := by intro hh_; repeat (first | (with_reducible first | exact hh_ | apply below_alloc | apply pw_below_drewN | apply below_drew1 | refine below_set ?_ (IsS150.ge (Aside0.out (by assumption))) | refine below_set ?_ (Aside0.out (by assumption))) | exact hh_)) : Below B w W' := i h.out
/-! ### spec_DrawValidCall: function 25 -/
def spec_DrawValidCall.f (k : Nat) (l0 : List Int) : Option ((List (S110))) := (spec_newReader.f l0).bind fun bt436 => ((spec_someCall.f k bt436.1 bt436.2).bind fun bt439 => (some bt439.1))
theorem spec_DrawValidCall.mono : ∀ a0 k, LeO (spec_DrawValidCall.f k a0) (spec_DrawValidCall.f (k + 1) a0) := by
 intro a0 k; unfold spec_DrawValidCall.f
 repeat' first
   | (with_reducible exact spec_someCall.mono _ _ _)
   | (with_reducible exact LeO.refl _)
   | (with_reducible exact LeO.none _)
   | (with_reducible refine LeO.ite ?_ ?_)
   | (with_reducible refine LeO.bind ?_ (fun _ => ?_))
   | exact spec_someCall.mono _ _ _
   | exact LeO.none _
   | refine LeO.ite ?_ ?_
   | refine LeO.bind ?_ (fun _ => ?_)
set_option maxHeartbeats 8000000 in
set_option maxRecDepth 100000 in
theorem spec_DrawValidCall.calls (k : Nat) (A0 : Option Addr) (c0 : Nat) (l0 : List Int) (r : List (S110)) (w : World) (hr0 : Kd.C (Kd.int .u8) w A0 l0.length l0) (hc0 : l0.length ≤ c0) (h : spec_DrawValidCall.f k l0 = some r) :
  Calls Try.prog 25 #[.slice A0 l0.length c0] w fun e w' => ∃ v0_ : Value, e = .returned (.agg #[v0_]) ∧ Kd.N k110 110 w' w.heap.size (fun k_ => (w.heap.size ≤ k_)) v0_ r ∧ Below w.heap.size w w' := by
 have hu48 := Try.underlying48; have HR0 := Aside0.mk hr0; have HC0 := Aside0.mk hc0; clear hr0 hc0; have HB := Aside0.mk (Below.refl w.heap.size w); have H : ((spec_newReader.f l0).bind fun bt436 => ((spec_someCall.f k bt436.1 bt436.2).bind fun bt439 => (some bt439.1))) = some r := h; clear h; replace H := Option.bind_eq_some_iff.mp H; obtain ⟨⟨t436, t437⟩, A20, H⟩ := H
 (try dsimp only at H)
 have A2 := Aside0.mk A20; clear A20; replace H := Option.bind_eq_some_iff.mp H; obtain ⟨⟨t439, t442⟩, A30, H⟩ := H
 (try dsimp only at H)
 have A3 := Aside0.mk A30; clear A30; obtain rfl := Option.some.inj H; go_enter Try.func25, Try.ntmps25; go_wp2_with (first | ((with_reducible refine gate_dst (N := 2) rfl ?_); refine zx (N := 2) (cs := #[.slice none 0 0]) (t := 48) ?_; intro gb435 hg w4 hbox hb; have BK435 := Aside0.mk (hbox); have GW435 := Aside0.mk ((by rw [hg]; exact (below_size (zB HB)) : w.heap.size ≤ gb435)); have GE435 := GW435; replace HB := Aside0.mk (below_step (zB HB) hb); clear hb hbox hg) | ((with_reducible refine gate_callee (f := 75) rfl ?_); refine goesL_ (some 4) rfl rfl Try.func75 (by kernel_rfl) rfl #[.slice A0 l0.length c0] rfl zl ?_; (with_reducible refine (spec_newReader.calls _ _ l0 t436 t437 w _ ?side1 ?side2 ?side3 A2.out).mono ?_); (case side1 => exact zB HB); (case side2 => exact HR0.out); (case side3 => exact HC0.out); rintro e w5 ⟨g438, rfl, hi, hb, hb2⟩; refine ⟨_, rfl, ?_⟩; replace HB := Aside0.mk (hb); have HI438 := Aside0.mk (hi); have NB438_435 := Aside0.mk (IsS150.ne_blk hi (blk_below (g := gb435) (o := .cells #[.slice none 0 0] 48 (0, 0)) (zb BK435) hb2) (by decide)); have NB435_438 := Aside0.mk (Ne.symm (IsS150.ne_blk hi (blk_below (g := gb435) (o := .cells #[.slice none 0 0] 48 (0, 0)) (zb BK435) hb2) (by decide))); replace BK435 := Aside0.mk (blk_below (g := gb435) (o := .cells #[.slice none 0 0] 48 (0, 0)) (zb BK435) hb2); (try clear hb); (try clear hb2); (try clear hk); (try clear hi)) | ((with_reducible refine gate_callee (f := 74) rfl ?_); refine goesL_ (some 5) rfl rfl Try.func74 (by kernel_rfl) rfl #[.pointer (some ⟨g438, 0, none⟩)] rfl zl ?_; (with_reducible refine (spec_someCall.calls k g438 t436 t437 t439 t442 w _ ?side1 ?side2 A3.out).mono ?_); (case side1 => exact zi150_37 HI438); (case side2 => exact zj150_37 HB); rintro e w6 ⟨v440, rfl, ho0, hi, hb, hk⟩; refine ⟨_, rfl, ?_⟩; have HO441 := Aside0.mk (Kd.N_lower (Kd.N_mono (ok' := fun k_ => (w.heap.size ≤ k_) ∧ k_ ≠ gb435 ∧ k_ ≠ g438) ho0 (fun k_ hk_ => ⟨(Nat.le_trans (below_size (zj150_37 HB)) hk_), (Kd.freshB (g := gb435) (o := .cells #[.slice none 0 0] 48 (0, 0)) (zb BK435) k_ hk_), (IsS150.fresh (zi150_37 HI438) k_ hk_)⟩)) (below_size (zj150_37 HB))); replace BK435 := Aside0.mk (KeepBut.blk hk (g' := gb435) (o := .cells #[.slice none 0 0] 48 (0, 0)) (zb BK435) NB435_438.out (by simp)); replace HB := Aside0.mk (hb); replace HI438 := Aside0.mk (hi); (try clear hb); (try clear hb2); (try clear hk); (try clear hi); (try clear ho0); obtain ⟨Ao7, co7, eo7⟩ := Kd.N_slice HO441.out; subst eo7; have hnb8 := NB435_438.out; have hnc8 := NB438_435.out; have hcz9_0 : w6.cell? ⟨gb435, 0, none⟩ = some (.slice none 0 0) := (blk_cell BK435.out 0).trans rfl; have hfz9_0 := blk_frozen BK435.out 0)); refine bodyPost_ret (results_cell_row rfl _ _ gb435 48 #[.slice Ao7 t439.length co7] (0, 0) _ rfl (by (with_reducible repeat (first | refine blk_drewN ?_ _ | refine blk_drew ?_ | refine blk_alloc ?_ _)); refine blk_put (cs := #[.slice none 0 0]) ?_ 0 _ rfl; (with_reducible repeat (first | refine blk_drewN ?_ _ | refine blk_drew ?_ | refine blk_alloc ?_ _)); exact BK435.out) Try.underlying48 rfl (by kernel_rfl)) rfl ?_; exact ⟨_, by first | rfl | (simp [errW_none, errW_some] <;> rfl) | (simp [*, errW_none, errW_some] <;> rfl), by (with_reducible repeat (first | apply Kd.N_alloc | apply Kd.N_drewN | apply Kd.N_drew)); exact Kd.N_mono (Kd.N_far (p := ⟨gb435, 0, none⟩) (Kd.N_mono HO441.out (fun k_ hk => (⟨hk, hk.2.1⟩ : _ ∧ k_ ≠ gb435))) (fun _ hk => hk.2) (.slice Ao7 t439.length co7)) (fun _ hk => hk.1.1), by repeat (first | (with_reducible first | exact HB.out | apply below_alloc | apply pw_below_drewN | apply below_drew1 | refine below_set ?_ (IsS150.ge HI438.out) | refine below_set ?_ GE435.out) | exact HB.out)⟩

end Go.Proofs.Ytkandhljbbolnaa.Q

namespace Go.Proofs.Ytkandhljbbolnaa.Q
open Go.RowKit Go.Proofs.YtkandhljbbolnaaL.PrintWords Go.Proofs.YtkandhljbbolnaaL.PrintLast Go.Proofs.YtkandhljbbolnaaL.PrintMore
attribute [local go_sem] max2_int min2_int max_two min_two max_three min_three max_four min_four   -- for this text's walks alone
set_option linter.unusedVariables false
set_option linter.unusedSimpArgs false

/-! ### impl_in: function 122 -/
def impl_in.f (a0 : Int) (a1 : Int) (a2 : Int) : Option (Bool) := if a0 ≥ a1 then (some (decide (a0 ≤ a2))) else (some false)
set_option maxHeartbeats 8000000 in
set_option maxRecDepth 100000 in
theorem impl_in.calls (a0 : Int) (a1 : Int) (a2 : Int) (r : Bool) (w : World) (h : impl_in.f a0 a1 a2 = some r) :
  Calls Try.prog 122 #[.int .i64 a0, .int .i64 a1, .int .i64 a2] w fun e w' => e = .returned (.bool r) ∧ Drawn0 w w' := by
 have H : (if a0 ≥ a1 then (some (decide (a0 ≤ a2))) else (some false)) = some r := h; clear h
 by_cases c4 : a0 ≥ a1
 ·rw [if_pos c4] at H; have c4b0 : decide (a1 ≤ a0) = true := decide_eq_true c4; clear c4; obtain rfl := Option.some.inj H; go_enter Try.func122, Try.ntmps122; go_wp2; go_ret; exact ⟨by first | rfl | (simp; done) | (simp [*]; done), by repeat (first | exact Drawn0.refl _ | apply Drawn0.step)⟩
 ·rw [if_neg c4] at H; have c4b0 : decide (a1 ≤ a0) = false := decide_eq_false c4; clear c4; obtain rfl := Option.some.inj H; go_enter Try.func122, Try.ntmps122; go_wp2; go_ret; exact ⟨by first | rfl | (simp; done) | (simp [*]; done), by repeat (first | exact Drawn0.refl _ | apply Drawn0.step)⟩

/-! ### impl_isValue: function 72 -/
def impl_isValue.f (a0 : Int) : Option (Bool) := (impl_in.f a0 (-99) 99).bind fun t151 => (some t151)
set_option maxHeartbeats 8000000 in
set_option maxRecDepth 100000 in
theorem impl_isValue.calls (a0 : Int) (r : Bool) (w : World) (h : impl_isValue.f a0 = some r) :
  Calls Try.prog 72 #[.int .i64 a0] w fun e w' => e = .returned (.bool r) ∧ Drawn0 w w' := by
 have H : ((impl_in.f a0 (-99) 99).bind fun t151 => (some t151)) = some r := h; clear h; replace H := Option.bind_eq_some_iff.mp H; obtain ⟨t151, A20, H⟩ := H
 (try dsimp only at H)
 have A2 := Aside0.mk A20; clear A20; obtain rfl := Option.some.inj H; go_enter Try.func72, Try.ntmps72; go_wp2_with (first | ((with_reducible refine gate_callee (f := 122) rfl ?_); refine goesL_ (some 4) rfl rfl Try.func122 (by kernel_rfl) rfl #[.int .i64 a0, .int .i64 (-99), .int .i64 99] rfl zl ?_; (with_reducible refine (impl_in.calls a0 (-99) 99 t151 _ A2.out).mono ?_); rintro e w' ⟨rfl, ⟨nd, rfl⟩⟩; refine ⟨_, rfl, ?_⟩)); go_ret; exact ⟨by first | rfl | (simp; done) | (simp [*]; done), by repeat (first | exact Drawn0.refl _ | apply Drawn0.step)⟩

/-! ### impl_isName: function 113 -/
def impl_isName.l0 : Nat → ByteArray → Int → Option (Bool)
 | 0, _, _ => none
 | k + 1, x0, x3 => if x3 < (x0.size : Int) then (if 0 ≤ x3 then (if (bt x0 x3) < 97 then (some false) else (if (bt x0 x3) > 122 then (some false) else (impl_isName.l0 k x0 (wrap64 (x3 + 1))))) else (none)) else ((impl_in.f (x0.size : Int) 1 6).bind fun t152 => (some t152))
def impl_isName.f (k : Nat) (a0 : ByteArray) : Option (Bool) := impl_isName.l0 k a0 0
theorem impl_isName.mono_l : ∀ k, (∀ y0 y1, LeO (impl_isName.l0 k y0 y1) (impl_isName.l0 (k + 1) y0 y1))
 | 0 => fun _ _ r h => by simp [impl_isName.l0] at h
 | k + 1 => by
  have ih0 := impl_isName.mono_l k
  ·intro y0 y1; unfold impl_isName.l0
   repeat' first
   | (with_reducible exact ih0 _ _)
   | (with_reducible exact LeO.refl _)
   | (with_reducible exact LeO.none _)
   | (with_reducible refine LeO.ite ?_ ?_)
   | (with_reducible refine LeO.bind ?_ (fun _ => ?_))
   | exact ih0 _ _
   | exact LeO.none _
   | refine LeO.ite ?_ ?_
   | refine LeO.bind ?_ (fun _ => ?_)
theorem impl_isName.mono : ∀ a0 k, LeO (impl_isName.f k a0) (impl_isName.f (k + 1) a0) := by
 intro a0 k; have ih0 := impl_isName.mono_l k; unfold impl_isName.f
 repeat' first
   | (with_reducible exact ih0 _ _)
   | (with_reducible exact LeO.refl _)
   | (with_reducible exact LeO.none _)
   | (with_reducible refine LeO.ite ?_ ?_)
   | (with_reducible refine LeO.bind ?_ (fun _ => ?_))
   | exact ih0 _ _
   | exact LeO.none _
   | refine LeO.ite ?_ ?_
   | refine LeO.bind ?_ (fun _ => ?_)
set_option maxHeartbeats 8000000 in
set_option maxRecDepth 100000 in
theorem impl_isName.calls (k : Nat) (a0 : ByteArray) (r : Bool) (w : World) (h : impl_isName.f k a0 = some r) :
  Calls Try.prog 113 #[.string a0] w fun e w' => e = .returned (.bool r) ∧ Drawn0 w w' := by
 have H : (impl_isName.l0 k a0 0) = some r := h; clear h; have H' := Aside0.mk H; clear H; go_enter Try.func113, Try.ntmps113; go_wp2; go_loopg [3] k (fun kq v3 w' => ∃ (x3_1 : Int), v3 = .int .i64 x3_1 ∧ Aside0 (impl_isName.l0 kq a0 x3_1 = some r) ∧ Aside0 (kq ≤ k) ∧ Drawn0 w w')
 case atStart => exact ⟨(0), zr, H', ⟨Nat.le_refl _⟩, by repeat (first | exact Drawn0.refl _ | apply Drawn0.step)⟩
 case round =>
  clear H'; (try clear c1); obtain ⟨x3_1, rfl, HA, HK1, ⟨m1, rfl⟩⟩ := hrel
  cases gk with
  | zero => exact absurd HA.out (by simp [impl_isName.l0])
  | succ k1 =>
   have H := HA.out; clear HA; simp only [impl_isName.l0] at H
   by_cases c2 : x3_1 < (a0.size : Int)
   ·rw [if_pos c2] at H; have c2b0 : decide (x3_1 < (a0.size : Int)) = true := decide_eq_true c2; clear c2
    by_cases c3 : 0 ≤ x3_1
    ·rw [if_pos c3] at H; have c3b0 : decide (0 ≤ x3_1) = true := decide_eq_true c3; clear c3
     by_cases c5 : (bt a0 x3_1) < 97
     ·rw [if_pos c5] at H; have c5b0 : decide ((bt a0 x3_1) < 97) = true := decide_eq_true c5; clear c5; obtain rfl := Option.some.inj H; have p4 : 0 ≤ (x3_1 : Int) := of_decide_eq_true za; have q4 : x3_1 < (a0.size : Int) := of_decide_eq_true za; have hx4 := bt_at a0 x3_1; replace p4 := eq_true p4; replace q4 := eq_true q4; go_wp2; go_ret; exact ⟨by first | rfl | (simp; done) | (simp [*]; done), by repeat (first | exact Drawn0.refl _ | apply Drawn0.step)⟩
     ·rw [if_neg c5] at H; have c5b0 : decide ((bt a0 x3_1) < 97) = false := decide_eq_false c5; clear c5
      by_cases c7 : (bt a0 x3_1) > 122
      ·rw [if_pos c7] at H; have c7b0 : decide (122 < (bt a0 x3_1)) = true := decide_eq_true c7; clear c7; obtain rfl := Option.some.inj H; have p4 : 0 ≤ (x3_1 : Int) := of_decide_eq_true za; have q4 : x3_1 < (a0.size : Int) := of_decide_eq_true za; have hx4 := bt_at a0 x3_1; replace p4 := eq_true p4; replace q4 := eq_true q4; have p6 : 0 ≤ (x3_1 : Int) := of_decide_eq_true za; have q6 : x3_1 < (a0.size : Int) := of_decide_eq_true za; have hx6 := bt_at a0 x3_1; replace p6 := eq_true p6; replace q6 := eq_true q6; go_wp2; go_ret; exact ⟨by first | rfl | (simp; done) | (simp [*]; done), by repeat (first | exact Drawn0.refl _ | apply Drawn0.step)⟩
      ·rw [if_neg c7] at H; have c7b0 : decide (122 < (bt a0 x3_1)) = false := decide_eq_false c7; clear c7; have H' := Aside0.mk H; clear H; have p4 : 0 ≤ (x3_1 : Int) := of_decide_eq_true za; have q4 : x3_1 < (a0.size : Int) := of_decide_eq_true za; have hx4 := bt_at a0 x3_1; replace p4 := eq_true p4; replace q4 := eq_true q4; have p6 : 0 ≤ (x3_1 : Int) := of_decide_eq_true za; have q6 : x3_1 < (a0.size : Int) := of_decide_eq_true za; have hx6 := bt_at a0 x3_1; replace p6 := eq_true p6; replace q6 := eq_true q6; go_wp2; go_roundg k1
       case measure => have := HK1.out; omega
       case rel => exact ⟨(wrap64 (x3_1 + 1)), zr, H', ⟨by have := HK1.out; omega⟩, by repeat (first | exact Drawn0.refl _ | apply Drawn0.step)⟩
    ·rw [if_neg c3] at H; exact absurd H (by simp)
   ·rw [if_neg c2] at H; have c2b0 : decide (x3_1 < (a0.size : Int)) = false := decide_eq_false c2; clear c2; replace H := Option.bind_eq_some_iff.mp H; obtain ⟨t152, A80, H⟩ := H
    (try dsimp only at H)
    have A8 := Aside0.mk A80; clear A80; obtain rfl := Option.some.inj H; go_wp2_with (first | ((with_reducible refine gate_callee (f := 122) rfl ?_); refine goesL_ (some 22) rfl rfl Try.func122 (by kernel_rfl) rfl #[.int .i64 (a0.size : Int), .int .i64 1, .int .i64 6] rfl zl ?_; (with_reducible refine (impl_in.calls (a0.size : Int) 1 6 t152 _ A8.out).mono ?_); rintro e w' ⟨rfl, ⟨nd, rfl⟩⟩; refine ⟨_, rfl, ?_⟩)); go_ret; exact ⟨by first | rfl | (simp; done) | (simp [*]; done), by repeat (first | exact Drawn0.refl _ | apply Drawn0.step)⟩

/-! ### impl_Pair_valid: function 62 -/
def impl_Pair_valid.f (k : Nat) (a0_0 : ByteArray) (a0_1 : Int) : Option (Bool) := (impl_isName.f k a0_0).bind fun t154 => (if t154 = true then ((impl_isValue.f a0_1).bind fun t155 => (some t155)) else (some false))
theorem impl_Pair_valid.mono : ∀ a0 a1 k, LeO (impl_Pair_valid.f k a0 a1) (impl_Pair_valid.f (k + 1) a0 a1) := by
 intro a0 a1 k; unfold impl_Pair_valid.f
 repeat' first
   | (with_reducible exact impl_isName.mono _ _)
   | (with_reducible exact LeO.refl _)
   | (with_reducible exact LeO.none _)
   | (with_reducible refine LeO.ite ?_ ?_)
   | (with_reducible refine LeO.bind ?_ (fun _ => ?_))
   | exact impl_isName.mono _ _
   | exact LeO.none _
   | refine LeO.ite ?_ ?_
   | refine LeO.bind ?_ (fun _ => ?_)
set_option maxHeartbeats 8000000 in
set_option maxRecDepth 100000 in
theorem impl_Pair_valid.calls (k : Nat) (a0_0 : ByteArray) (a0_1 : Int) (r : Bool) (w : World) (h : impl_Pair_valid.f k a0_0 a0_1 = some r) :
  Calls Try.prog 62 #[.agg #[.string a0_0, .int .i64 a0_1]] w fun e w' => e = .returned (.bool r) ∧ Below w.heap.size w w' := by
 have hu94 := Try.underlying94; have HB := Aside0.mk (Below.refl w.heap.size w); have H : ((impl_isName.f k a0_0).bind fun t154 => (if t154 = true then ((impl_isValue.f a0_1).bind fun t155 => (some t155)) else (some false))) = some r := h; clear h; replace H := Option.bind_eq_some_iff.mp H; obtain ⟨t154, A20, H⟩ := H
 (try dsimp only at H)
 have A2 := Aside0.mk A20; clear A20
 by_cases c3 : t154 = true
 ·subst c3; rw [if_pos rfl] at H; replace H := Option.bind_eq_some_iff.mp H; obtain ⟨t155, A40, H⟩ := H
  (try dsimp only at H)
  have A4 := Aside0.mk A40; clear A40; obtain rfl := Option.some.inj H; go_enter Try.func62, Try.ntmps62; go_wp2_with (first | ((with_reducible refine gate_dst (N := 1) rfl ?_); refine zx (N := 1) (cs := #[.string a0_0, .int .i64 a0_1]) (t := 94) ?_; intro gb153 hg w5 hbox hb; have BK153 := Aside0.mk (hbox); have GW153 := Aside0.mk ((by rw [hg]; exact (below_size (zB HB)) : w.heap.size ≤ gb153)); have GE153 := GW153; replace HB := Aside0.mk (below_step (zB HB) hb); clear hb hbox hg; have hcz6_0 : w5.cell? ⟨gb153, 0, none⟩ = some (.string a0_0) := (blk_cell BK153.out 0).trans rfl; have hcz6_1 : w5.cell? ⟨gb153, 1, none⟩ = some (.int .i64 a0_1) := (blk_cell BK153.out 1).trans rfl; have hfz6_0 := blk_frozen BK153.out 0; have hfz6_1 := blk_frozen BK153.out 1) | ((with_reducible refine gate_callee (f := 113) rfl ?_); refine goesL_ (some 5) rfl rfl Try.func113 (by kernel_rfl) rfl #[.string a0_0] rfl zl ?_; (with_reducible refine (impl_isName.calls k a0_0 true _ A2.out).mono ?_); rintro e w' ⟨rfl, ⟨nd, rfl⟩⟩; refine ⟨_, rfl, ?_⟩) | (go_at_call 72; (with_reducible refine (impl_isValue.calls a0_1 t155 _ A4.out).mono ?_); rintro e w' ⟨rfl, ⟨nd, rfl⟩⟩)); go_ret; exact ⟨by first | rfl | (simp [errW_none, errW_some] <;> rfl) | (simp [*, errW_none, errW_some] <;> rfl), zB HB⟩
 ·replace c3 := Bool.eq_false_iff.mpr c3; subst c3; rw [if_neg (show ¬ (false = true) by decide)] at H; obtain rfl := Option.some.inj H; go_enter Try.func62, Try.ntmps62; go_wp2_with (first | ((with_reducible refine gate_dst (N := 1) rfl ?_); refine zx (N := 1) (cs := #[.string a0_0, .int .i64 a0_1]) (t := 94) ?_; intro gb153 hg w7 hbox hb; have BK153 := Aside0.mk (hbox); have GW153 := Aside0.mk ((by rw [hg]; exact (below_size (zB HB)) : w.heap.size ≤ gb153)); have GE153 := GW153; replace HB := Aside0.mk (below_step (zB HB) hb); clear hb hbox hg; have hcz8_0 : w7.cell? ⟨gb153, 0, none⟩ = some (.string a0_0) := (blk_cell BK153.out 0).trans rfl; have hcz8_1 : w7.cell? ⟨gb153, 1, none⟩ = some (.int .i64 a0_1) := (blk_cell BK153.out 1).trans rfl; have hfz8_0 := blk_frozen BK153.out 0; have hfz8_1 := blk_frozen BK153.out 1) | ((with_reducible refine gate_callee (f := 113) rfl ?_); refine goesL_ (some 5) rfl rfl Try.func113 (by kernel_rfl) rfl #[.string a0_0] rfl zl ?_; (with_reducible refine (impl_isName.calls k a0_0 false _ A2.out).mono ?_); rintro e w' ⟨rfl, ⟨nd, rfl⟩⟩; refine ⟨_, rfl, ?_⟩)); go_ret; exact ⟨by first | rfl | (simp [errW_none, errW_some] <;> rfl) | (simp [*, errW_none, errW_some] <;> rfl), zB HB⟩

end Go.Proofs.Ytkandhljbbolnaa.Q

namespace Go.Proofs.Ytkandhljbbolnaa.Q
open Go.RowKit Go.Proofs.YtkandhljbbolnaaL.PrintWords Go.Proofs.YtkandhljbbolnaaL.PrintLast Go.Proofs.YtkandhljbbolnaaL.PrintMore
attribute [local go_sem] max2_int min2_int max_two min_two max_three min_three max_four min_four   -- for this text's walks alone
set_option linter.unusedVariables false
set_option linter.unusedSimpArgs false

/-! ### slices.IndexFunc at int: function 145 -/
set_option maxHeartbeats 8000000 in
set_option maxRecDepth 100000 in
theorem ix145.calls (p : Int → Bool) (g : Nat) (lb : Array Value) (eg : ∀ args w, (callFunc g args).run Try.prog w = .ok (.enter g args) w) (A0 : Option Addr) (c0 : Nat) (l0 : List (Int)) (w : World)
  (hp : PxPred Try.prog g lb (fun x : Int => .int .i64 x) p w) (hr0 : Kd.C (Kd.int .i64) w A0 l0.length l0) :
  Calls Try.prog 145 #[.slice A0 l0.length c0, .func (.func g) #[] lb] w fun e w' => e = .returned (.int .i64 (pxIdx p l0)) ∧ Below w.heap.size w w' := by
 have HR := Aside0.mk hr0; clear hr0; have hbig : l0.length ≤ 9223372036854775807 := HR.out.2.1; go_enter Try.func145, Try.ntmps145; go_wp2; go_loopg [5, 8] l0.length (fun gg _ s8 wr => ∃ kk : Nat, kk ≤ l0.length ∧ l0.length - kk ≤ gg ∧ s8 = .int .i64 kk ∧ Aside0 (Below w.heap.size w wr) ∧ Aside0 (∀ j, j < kk → p (l0.getD j 0) = false))
 case atStart => exact ⟨0, Nat.zero_le _, by omega, rfl, ⟨Below.refl _ w⟩, ⟨fun j hj => absurd hj (Nat.not_lt_zero _)⟩⟩
 case round =>
  obtain ⟨kk, hkk, hg, rfl, BW, A⟩ := hrel
  by_cases hlt : kk < l0.length
  ·have hltz : (kk : Int) < (l0.length : Int) := by omega
   have hz0 : (0 : Int) ≤ (kk : Int) := by omega
   obtain ⟨ad, e, hx0⟩ := Kd.at_int (Kd.C_below HR.out BW.out) (kk : Int) hz0 hltz; simp only [Int.toNat_natCast] at hx0
   cases e
   have hcall := hp wr (rd l0 (kk : Int)) BW.out; clear hp; have B := Aside0.mk (show rd l0 (kk : Int) = l0.getD kk 0 from rfl); generalize hy : rd l0 (kk : Int) = y at hx0 hcall B; clear hy
   cases hq : p y with
   | true =>
    rw [hq] at hcall; go_wp2_with fail; refine hcall.mono ?_; rintro e w' ⟨rfl, hb'⟩; clear hcall; go_wp2; go_ret; refine ⟨?_, below_then BW.out BW.out.size hb'⟩; rw [pxIdx_hit p l0 0 kk hlt (by rw [← B.out]; exact hq) A.out]; rfl
   | false =>
    rw [hq] at hcall; go_wp2_with fail; refine hcall.mono ?_; rintro e w' ⟨rfl, hb'⟩; clear hcall; go_wp2; go_roundg (l0.length - (kk + 1))
    case measure => omega
    case rel =>
     refine ⟨kk + 1, by omega, by omega, by go_num, ⟨below_then BW.out BW.out.size hb'⟩, ⟨fun j hj => ?_⟩⟩
     by_cases e : j = kk
     ·subst e; rw [← B.out]; exact hq
     ·exact A.out j (by omega)
  ·have hltz : ¬ (kk : Int) < (l0.length : Int) := by omega
   have : kk = l0.length := by omega
   subst this; go_wp2; go_ret; refine ⟨?_, BW.out⟩; rw [pxIdx_miss p l0 0 A.out]; rfl
/-! ### slices.ContainsFunc at int: function 116 -/
set_option maxHeartbeats 8000000 in
set_option maxRecDepth 100000 in
theorem cf116.calls (p : Int → Bool) (g : Nat) (lb : Array Value) (eg : ∀ args w, (callFunc g args).run Try.prog w = .ok (.enter g args) w) (A0 : Option Addr) (c0 : Nat) (l0 : List (Int)) (w : World)
  (hp : PxPred Try.prog g lb (fun x : Int => .int .i64 x) p w) (hr0 : Kd.C (Kd.int .i64) w A0 l0.length l0) :
  Calls Try.prog 116 #[.slice A0 l0.length c0, .func (.func g) #[] lb] w fun e w' => e = .returned (.bool (l0.any p)) ∧ Below w.heap.size w w' := by
 rw [← pxIdx_any p l0]; go_enter Try.func116, Try.ntmps116; go_wp2_with fail; refine (ix145.calls p g lb eg A0 c0 l0 w hp hr0).mono ?_; rintro e w' ⟨rfl, hb'⟩; clear hp hr0; go_wp2; go_ret; exact ⟨by first | rfl | simp, hb'⟩
theorem impl_isValue.eq (x : Int) : impl_isValue.f x = some (decide (-99 ≤ x) && decide (x ≤ 99)) := by
 unfold impl_isValue.f impl_in.f
 by_cases h : x ≥ -99
 ·have h' : -99 ≤ x := h; simp [h, h']
 ·have h' : ¬ -99 ≤ x := h; simp [h, h']
set_option maxHeartbeats 8000000 in
set_option maxRecDepth 100000 in
theorem impl_areValues.pred117 (w : World) :
  PxPred Try.prog 117 #[] (fun x : Int => .int .i64 x) (fun x : Int => !(decide (-99 ≤ x) && decide (x ≤ 99))) w := by
 intro W x hb
 show Calls Try.prog 117 #[.int .i64 x] W _
 have HV := Aside0.mk (impl_isValue.eq x)
 cases hq : (decide (-99 ≤ x) && decide (x ≤ 99)) <;> (
  have HQ := Aside0.mk hq; clear hq; go_enter Try.func117, Try.ntmps117; go_wp2_with fail; refine (impl_isValue.calls _ _ _ HV.out).mono ?_; rintro e w' ⟨rfl, hd⟩; have hb := hd.below; clear hd; rw [HQ.out]; go_wp2; go_ret
  exact ⟨by first | rfl | (rw [HQ.out]; rfl), hb⟩)
/-! ### impl_areValues: function 64 (a contract of our own) -/
def impl_areValues.f (l0 : List Int) : Option (Bool) := some (!l0.any (fun x : Int => !(decide (-99 ≤ x) && decide (x ≤ 99))))
set_option maxHeartbeats 8000000 in
set_option maxRecDepth 100000 in
theorem impl_areValues.calls (A0 : Option Addr) (c0 : Nat) (l0 : List Int) (r : Bool) (w : World) (hr0 : Kd.C (Kd.int .i64) w A0 l0.length l0) (hc0 : l0.length ≤ c0) (h : impl_areValues.f l0 = some r) :
  Calls Try.prog 64 #[.slice A0 l0.length c0] w fun e w' => e = .returned (.bool r) ∧ Below w.heap.size w w' := by
 have HR := Aside0.mk hr0; clear hr0; obtain rfl := Option.some.inj h; clear h; have eg := px_enters Try.func117 (by kernel_rfl) rfl
 cases hq : l0.any (fun x : Int => !(decide (-99 ≤ x) && decide (x ≤ 99))) <;> (
  have HQ := Aside0.mk hq; clear hq; go_enter Try.func64, Try.ntmps64; go_wp2_with fail; refine (cf116.calls (fun x : Int => !(decide (-99 ≤ x) && decide (x ≤ 99))) 117 _ eg A0 c0 l0 _ (impl_areValues.pred117 _) HR.out).mono ?_; rintro e w' ⟨rfl, hb'⟩; rw [HQ.out]; go_wp2; go_ret
  exact ⟨rfl, hb'⟩)

end Go.Proofs.Ytkandhljbbolnaa.Q

namespace Go.Proofs.Ytkandhljbbolnaa.Q
open Go.RowKit Go.Proofs.YtkandhljbbolnaaL.PrintWords Go.Proofs.YtkandhljbbolnaaL.PrintLast Go.Proofs.YtkandhljbbolnaaL.PrintMore
attribute [local go_sem] max2_int min2_int max_two min_two max_three min_three max_four min_four   -- for this text's walks alone
set_option linter.unusedVariables false
set_option linter.unusedSimpArgs false

theorem impl_isName.aeqL (s : ByteArray) (hs : s.size ≤ 9223372036854775807) : ∀ (d k n : Nat), n ≤ s.size → s.size - n = d → d < k →
  impl_isName.l0 k s (n : Int) = some ((s.data.toList.drop n).all (fun c => decide (97 ≤ c.toNat) && decide (c.toNat ≤ 122)) && (decide (1 ≤ s.size) && decide (s.size ≤ 6))) := by
 intro d
 induction d with
 | zero =>
  intro k n hn hd hk; obtain ⟨k, rfl⟩ : ∃ m, k = m + 1 := ⟨k - 1, by omega⟩
  simp only [impl_isName.l0]; rw [if_neg (by omega), List.drop_of_length_le (by simp; omega)]; unfold impl_in.f
  by_cases h : (s.size : Int) ≥ 1
  ·have h' : 1 ≤ s.size := by omega
   have e : decide ((s.size : Int) ≤ 6) = decide (s.size ≤ 6) := by rw [decide_eq_decide]; omega
   simp [h, h', e]
  ·have h' : ¬ 1 ≤ s.size := by omega
   simp [h, h']
 | succ d ih =>
  intro k n hn hd hk; obtain ⟨k, rfl⟩ : ∃ m, k = m + 1 := ⟨k - 1, by omega⟩
  have hlt : n < s.size := by omega
  simp only [impl_isName.l0]; rw [if_pos (by omega), if_pos (by omega), bt_nat s n hlt, wrap_succ hlt hs, ih k (n + 1) (by omega) (by omega) (by omega), bt_drop s n hlt, List.all_cons]
  by_cases h1 : (s[n].toNat : Int) < 97
  ·have h1' : ¬ 97 ≤ s[n].toNat := by omega
   rw [if_pos h1]; simp [h1']
  ·have h1' : 97 ≤ s[n].toNat := by omega
   rw [if_neg h1]
   by_cases h2 : (s[n].toNat : Int) > 122
   ·have h2' : ¬ s[n].toNat ≤ 122 := by omega
    rw [if_pos h2]; simp [h2']
   ·have h2' : s[n].toNat ≤ 122 := by omega
    rw [if_neg h2]; simp [h1', h2']
theorem impl_isName.aeq (s : ByteArray) (hs : s.size ≤ 9223372036854775807) (k : Nat) (hk : s.size < k) : impl_isName.f k s = some (pxName s) := by
 unfold impl_isName.f pxName; exact impl_isName.aeqL s hs s.size k 0 (by omega) (by omega) hk
/-! ### slices.IndexFunc at impl.Pair: function 114 -/
set_option maxHeartbeats 8000000 in
set_option maxRecDepth 100000 in
theorem jx114.calls (p : S94 → Bool) (g : Nat) (lb : Array Value) (eg : ∀ args w, (callFunc g args).run Try.prog w = .ok (.enter g args) w) (A0 : Option Addr) (c0 : Nat) (l0 : List (S94)) (w : World)
  (hp : ∀ (W : World) (x : S94), x ∈ l0 → Below w.heap.size w W → Calls Try.prog g (#[.agg #[.string x.f0, .int .i64 x.f1]] ++ lb) W fun e w' => e = .returned (.bool (p x)) ∧ Below W.heap.size W w') (hr0 : Kd.C k94 w A0 l0.length l0) :
  Calls Try.prog 114 #[.slice A0 l0.length c0, .func (.func g) #[] lb] w fun e w' => e = .returned (.int .i64 (pxIdx p l0)) ∧ Below w.heap.size w w' := by
 have HR := Aside0.mk hr0; clear hr0; have hbig : l0.length ≤ 9223372036854775807 := HR.out.2.1; have hu94 := Try.underlying94; go_enter Try.func114, Try.ntmps114; go_wp2; go_loopg [5, 8] l0.length (fun gg _ s8 wr => ∃ kk : Nat, kk ≤ l0.length ∧ l0.length - kk ≤ gg ∧ s8 = .int .i64 kk ∧ Aside0 (Below w.heap.size w wr) ∧ Aside0 (∀ j, j < kk → p (l0.getD j z94) = false))
 case atStart => exact ⟨0, Nat.zero_le _, by omega, rfl, ⟨Below.refl _ w⟩, ⟨fun j hj => absurd hj (Nat.not_lt_zero _)⟩⟩
 case round =>
  obtain ⟨kk, hkk, hg, rfl, BW, A⟩ := hrel
  by_cases hlt : kk < l0.length
  ·have hltz : (kk : Int) < (l0.length : Int) := by omega
   have hz0 : (0 : Int) ≤ (kk : Int) := by omega
   obtain ⟨ad, e, hx0, hx1⟩ := at_T94 (Kd.C_below HR.out BW.out) (kk : Int) hz0 hltz; simp only [Int.toNat_natCast] at hx0 hx1
   cases e
   have hcall := hp wr (rd_T94 l0 (kk : Int)) (by unfold rd_T94; rw [Int.toNat_natCast, List.getD_eq_getElem?_getD, List.getElem?_eq_getElem hlt]; exact List.getElem_mem hlt) BW.out; clear hp; have B := Aside0.mk (show rd_T94 l0 (kk : Int) = l0.getD kk z94 from rfl); generalize hy : rd_T94 l0 (kk : Int) = y at hx0 hx1 hcall B; clear hy
   cases hq : p y with
   | true =>
    rw [hq] at hcall; go_wp2_with fail; refine hcall.mono ?_; rintro e w' ⟨rfl, hb'⟩; clear hcall; go_wp2; go_ret; refine ⟨?_, below_then BW.out BW.out.size hb'⟩; rw [pxIdx_hit p l0 z94 kk hlt (by rw [← B.out]; exact hq) A.out]; rfl
   | false =>
    rw [hq] at hcall; go_wp2_with fail; refine hcall.mono ?_; rintro e w' ⟨rfl, hb'⟩; clear hcall; go_wp2; go_roundg (l0.length - (kk + 1))
    case measure => omega
    case rel =>
     refine ⟨kk + 1, by omega, by omega, by go_num, ⟨below_then BW.out BW.out.size hb'⟩, ⟨fun j hj => ?_⟩⟩
     by_cases e : j = kk
     ·subst e; rw [← B.out]; exact hq
     ·exact A.out j (by omega)
  ·have hltz : ¬ (kk : Int) < (l0.length : Int) := by omega
   have : kk = l0.length := by omega
   subst this; go_wp2; go_ret; refine ⟨?_, BW.out⟩; rw [pxIdx_miss p l0 z94 A.out]; rfl
set_option maxHeartbeats 8000000 in
set_option maxRecDepth 100000 in
theorem jc127.calls (p : S94 → Bool) (g : Nat) (lb : Array Value) (eg : ∀ args w, (callFunc g args).run Try.prog w = .ok (.enter g args) w) (A0 : Option Addr) (c0 : Nat) (l0 : List S94) (w : World)
  (hp : ∀ (W : World) (x : S94), x ∈ l0 → Below w.heap.size w W → Calls Try.prog g (#[.agg #[.string x.f0, .int .i64 x.f1]] ++ lb) W fun e w' => e = .returned (.bool (p x)) ∧ Below W.heap.size W w') (hr0 : Kd.C k94 w A0 l0.length l0) :
  Calls Try.prog 127 #[.slice A0 l0.length c0, .func (.func g) #[] lb] w fun e w' => e = .returned (.bool (l0.any p)) ∧ Below w.heap.size w w' := by
 rw [← pxIdx_any p l0]; go_enter Try.func127, Try.ntmps127; go_wp2_with fail; refine (jx114.calls p g lb eg A0 c0 l0 w hp hr0).mono ?_; rintro e w' ⟨rfl, hb'⟩; clear hp hr0; go_wp2; go_ret; exact ⟨by first | rfl | simp, hb'⟩
def pxVals (l : List Int) : Bool := !l.any (fun x : Int => !(decide (-99 ≤ x) && decide (x ≤ 99)))
def pxPairOk (x : S94) : Bool := pxName x.f0 && (decide (-99 ≤ x.f1) && decide (x.f1 ≤ 99))
def pxArg (a : Int) (b : ByteArray) (l : List Int) (m : List S94) : Bool :=
 if a = 0 then (b.toList == ([] : List UInt8) && (l.length == 1 && (m.length == 0 && pxVals l)))
 else if a = 1 then (b.toList == ([] : List UInt8) && (decide (l.length ≤ 8) && (m.length == 0 && pxVals l)))
 else if a = 2 then (pxName b && (l.length == 1 && (m.length == 0 && pxVals l)))
 else if a = 3 then (b.toList == ([] : List UInt8) && (l.length == 0 && (decide (m.length ≤ 8) && !m.any (fun x => !pxPairOk x))))
 else false
set_option maxHeartbeats 8000000 in
set_option maxRecDepth 100000 in
theorem arg_pred128 (W : World) (x : S94) (hs : x.f0.size ≤ 9223372036854775807) : Calls Try.prog 128 #[.agg #[.string x.f0, .int .i64 x.f1]] W fun e w' => e = .returned (.bool (!pxPairOk x)) ∧ Below W.heap.size W w' := by
 obtain ⟨y0, y1⟩ := x; dsimp only at hs ⊢
 have HV : Aside0 (impl_Pair_valid.f (y0.size + 1) y0 y1 = some (pxPairOk ⟨y0, y1⟩)) := ⟨by
  unfold impl_Pair_valid.f pxPairOk; rw [impl_isName.aeq y0 hs (y0.size + 1) (by omega), Option.bind_some, impl_isValue.eq, Option.bind_some]
  cases pxName y0 <;> rfl⟩
 generalize pxPairOk ⟨y0, y1⟩ = b at HV; have hu94 := Try.underlying94; go_enter Try.func128, Try.ntmps128; go_wp2_with fail; refine (impl_Pair_valid.calls _ _ _ _ _ HV.out).mono ?_; rintro e w' ⟨rfl, hb⟩; have HB := Aside0.mk (below_then (px_alloc _ _) (by simp) hb); clear hb; go_wp2; go_ret; exact ⟨rfl, HB.out⟩
set_option maxHeartbeats 8000000 in
set_option maxRecDepth 100000 in
theorem impl_Arg_valid.w0 (a0_0 : Int) (a0_1 : ByteArray) (A0_2 : Option Addr) (c0_2 : Nat) (l0_2 : List Int) (A0_3 : Option Addr) (c0_3 : Nat) (l0_3 : List S94) (w : World) (h0 : a0_0 = 0 ∨ a0_0 = 1) (hr : Kd.C (Kd.int .i64) w A0_2 l0_2.length l0_2) (hc : l0_2.length ≤ c0_2) :
  Calls Try.prog 76 #[.agg #[.int .i64 a0_0, .string a0_1, .slice A0_2 l0_2.length c0_2, .slice A0_3 l0_3.length c0_3]] w fun e w' => e = .returned (.bool (pxArg a0_0 a0_1 l0_2 l0_3)) ∧ Below w.heap.size w w' := by
 have hu110 := Try.underlying110; have HR := Aside0.mk hr; have HC := Aside0.mk hc; clear hr hc; rcases h0 with h0 | h0
 all_goals (
  subst h0; go_enter Try.func76, Try.ntmps76; go_wp2_with fail
  case' isTrue =>
   refine (impl_areValues.calls _ c0_2 l0_2 (pxVals l0_2) _ (Kd.C_below HR.out (px_alloc _ _)) HC.out rfl).mono ?_; rintro e w' ⟨rfl, hb⟩; have HB := Aside0.mk (below_then (px_alloc _ _) (by simp) hb); clear hb; go_wp2; go_ret; refine ⟨?_, HB.out⟩
   (simp_all [pxArg] <;> (try (intros; omega)))
  all_goals (go_ret; refine ⟨?_, px_alloc _ _⟩; (simp_all [pxArg] <;> (try (intros; omega)))))
set_option maxHeartbeats 8000000 in
set_option maxRecDepth 100000 in
theorem impl_Arg_valid.w2 (a0_1 : ByteArray) (A0_2 : Option Addr) (c0_2 : Nat) (l0_2 : List Int) (A0_3 : Option Addr) (c0_3 : Nat) (l0_3 : List S94) (w : World) (hs : a0_1.size ≤ 9223372036854775807) (hr : Kd.C (Kd.int .i64) w A0_2 l0_2.length l0_2) (hc : l0_2.length ≤ c0_2) :
  Calls Try.prog 76 #[.agg #[.int .i64 2, .string a0_1, .slice A0_2 l0_2.length c0_2, .slice A0_3 l0_3.length c0_3]] w fun e w' => e = .returned (.bool (pxArg 2 a0_1 l0_2 l0_3)) ∧ Below w.heap.size w w' := by
 have hu110 := Try.underlying110; have HR := Aside0.mk hr; have HC := Aside0.mk hc; have HV := Aside0.mk (impl_isName.aeq a0_1 hs (a0_1.size + 1) (by omega)); clear hr hc hs; have HP : Aside0 (pxArg 2 a0_1 l0_2 l0_3 = (pxName a0_1 && (l0_2.length == 1 && (l0_3.length == 0 && pxVals l0_2)))) := ⟨rfl⟩
 generalize pxArg 2 a0_1 l0_2 l0_3 = r at HP; generalize pxName a0_1 = b at HV HP; go_enter Try.func76, Try.ntmps76; go_wp2_with fail; refine (impl_isName.calls _ _ _ _ HV.out).mono ?_; rintro e w1 ⟨rfl, hd⟩; have hb := hd.below; clear hd; have hc2 : w1.cell? ⟨w.heap.size, 2, none⟩ = some (.slice A0_2 l0_2.length c0_2) := (hb.cell (p := ⟨w.heap.size, 2, none⟩) (by simp)).trans (by go_simp); have hc3 : w1.cell? ⟨w.heap.size, 3, none⟩ = some (.slice A0_3 l0_3.length c0_3) := (hb.cell (p := ⟨w.heap.size, 3, none⟩) (by simp)).trans (by go_simp); have HB := Aside0.mk (below_then (px_alloc _ _) (by simp) hb); clear hb; have hq := HP.out; clear HP
 cases b
 all_goals go_wp2_with fail
 case' isTrue =>
  refine (impl_areValues.calls _ c0_2 l0_2 (pxVals l0_2) _ (Kd.C_below HR.out HB.out) HC.out rfl).mono ?_; rintro e w' ⟨rfl, hb⟩; have HB2 := Aside0.mk (below_then HB.out HB.out.size hb); clear hb; go_wp2; go_ret; refine ⟨?_, HB2.out⟩
  (simp_all [pxArg] <;> (try (intros; omega)))
 all_goals (go_ret; refine ⟨?_, HB.out⟩; (simp_all [pxArg] <;> (try (intros; omega))))
set_option maxHeartbeats 8000000 in
set_option maxRecDepth 100000 in
theorem impl_Arg_valid.w3 (a0_1 : ByteArray) (A0_2 : Option Addr) (c0_2 : Nat) (l0_2 : List Int) (A0_3 : Option Addr) (c0_3 : Nat) (l0_3 : List S94) (w : World) (hs : ∀ x ∈ l0_3, x.f0.size ≤ 9223372036854775807) (hr : Kd.C k94 w A0_3 l0_3.length l0_3) (hc : l0_3.length ≤ c0_3) :
  Calls Try.prog 76 #[.agg #[.int .i64 3, .string a0_1, .slice A0_2 l0_2.length c0_2, .slice A0_3 l0_3.length c0_3]] w fun e w' => e = .returned (.bool (pxArg 3 a0_1 l0_2 l0_3)) ∧ Below w.heap.size w w' := by
 have hu110 := Try.underlying110; have HR := Aside0.mk hr; have HS := Aside0.mk hs; clear hr hc hs; have eg := px_enters Try.func128 (by kernel_rfl) rfl; have HP : Aside0 (pxArg 3 a0_1 l0_2 l0_3 = (a0_1.toList == ([] : List UInt8) && (l0_2.length == 0 && (decide (l0_3.length ≤ 8) && !l0_3.any (fun x => !pxPairOk x))))) := ⟨rfl⟩
 generalize pxArg 3 a0_1 l0_2 l0_3 = r at HP; go_enter Try.func76, Try.ntmps76; go_wp2_with fail
 case' isTrue =>
  refine (jc127.calls (fun x => !pxPairOk x) 128 _ eg _ c0_3 l0_3 _ (fun W x hx _ => arg_pred128 W x (HS.out x hx)) (Kd.C_below HR.out (px_alloc _ _))).mono ?_; rintro e w' ⟨rfl, hb⟩; have HB := Aside0.mk (below_then (px_alloc _ _) (by simp) hb); clear hb; go_wp2; go_ret; refine ⟨?_, HB.out⟩; have hq := HP.out; clear HP
  (simp_all [pxArg] <;> (try (intros; omega)))
 all_goals (go_ret; refine ⟨?_, px_alloc _ _⟩; have hq := HP.out; clear HP; (simp_all [pxArg] <;> (try (intros; omega))))
set_option maxHeartbeats 8000000 in
set_option maxRecDepth 100000 in
theorem impl_Arg_valid.w4 (a0_0 : Int) (a0_1 : ByteArray) (A0_2 : Option Addr) (c0_2 : Nat) (l0_2 : List Int) (A0_3 : Option Addr) (c0_3 : Nat) (l0_3 : List S94) (w : World) (h0 : ¬ a0_0 = 0) (h1 : ¬ a0_0 = 1) (h2 : ¬ a0_0 = 2) (h3 : ¬ a0_0 = 3) :
  Calls Try.prog 76 #[.agg #[.int .i64 a0_0, .string a0_1, .slice A0_2 l0_2.length c0_2, .slice A0_3 l0_3.length c0_3]] w fun e w' => e = .returned (.bool (pxArg a0_0 a0_1 l0_2 l0_3)) ∧ Below w.heap.size w w' := by
 have hu110 := Try.underlying110; have e0 : (a0_0 == 0) = false := by simpa using h0
 have e1 : (a0_0 == 1) = false := by simpa using h1
 have e2 : (a0_0 == 2) = false := by simpa using h2
 have e3 : (a0_0 == 3) = false := by simpa using h3
 go_enter Try.func76, Try.ntmps76; go_wp2; go_ret; refine ⟨?_, px_alloc _ _⟩; simp [pxArg, h0, h1, h2, h3]
/-! ### impl_Arg_valid: function 76 (a contract of our own) -/
def impl_Arg_valid.f (a0_0 : Int) (a0_1 : ByteArray) (l0_2 : List Int) (l0_3 : List (S94)) : Option (Bool) := if (l0_3.all (fun x : S94 => decide (x.f0.size ≤ 9223372036854775807)) && decide (a0_1.size ≤ 9223372036854775807)) = true then some (pxArg a0_0 a0_1 l0_2 l0_3) else none
set_option maxHeartbeats 8000000 in
set_option maxRecDepth 100000 in
theorem impl_Arg_valid.calls (a0_0 : Int) (a0_1 : ByteArray) (A0_2 : Option Addr) (c0_2 : Nat) (l0_2 : List Int) (A0_3 : Option Addr) (c0_3 : Nat) (l0_3 : List (S94)) (r : Bool) (w : World) (hr0_2 : Kd.C (Kd.int .i64) w A0_2 l0_2.length l0_2) (hc0_2 : l0_2.length ≤ c0_2) (hr0_3 : Kd.C k94 w A0_3 l0_3.length l0_3) (hc0_3 : l0_3.length ≤ c0_3) (h : impl_Arg_valid.f a0_0 a0_1 l0_2 l0_3 = some r) :
  Calls Try.prog 76 #[.agg #[.int .i64 a0_0, .string a0_1, .slice A0_2 l0_2.length c0_2, .slice A0_3 l0_3.length c0_3]] w fun e w' => e = .returned (.bool r) ∧ Below w.heap.size w w' := by
 unfold impl_Arg_valid.f at h; split at h
 ·rename_i hs
  obtain rfl := Option.some.inj h; clear h; rw [Bool.and_eq_true, List.all_eq_true, decide_eq_true_eq] at hs; obtain ⟨hs, hs1⟩ := hs; have hs : ∀ x ∈ l0_3, x.f0.size ≤ 9223372036854775807 := fun x hx => of_decide_eq_true (hs x hx)
  by_cases h0 : a0_0 = 0
  ·exact impl_Arg_valid.w0 a0_0 a0_1 A0_2 c0_2 l0_2 A0_3 c0_3 l0_3 w (.inl h0) hr0_2 hc0_2
  by_cases h1 : a0_0 = 1
  ·exact impl_Arg_valid.w0 a0_0 a0_1 A0_2 c0_2 l0_2 A0_3 c0_3 l0_3 w (.inr h1) hr0_2 hc0_2
  by_cases h2 : a0_0 = 2
  ·subst h2; exact impl_Arg_valid.w2 a0_1 A0_2 c0_2 l0_2 A0_3 c0_3 l0_3 w hs1 hr0_2 hc0_2
  by_cases h3 : a0_0 = 3
  ·subst h3; exact impl_Arg_valid.w3 a0_1 A0_2 c0_2 l0_2 A0_3 c0_3 l0_3 w hs hr0_3 hc0_3
  exact impl_Arg_valid.w4 a0_0 a0_1 A0_2 c0_2 l0_2 A0_3 c0_3 l0_3 w h0 h1 h2 h3
 ·cases h

end Go.Proofs.Ytkandhljbbolnaa.Q

namespace Go.Proofs.Ytkandhljbbolnaa.Q
open Go.RowKit Go.Proofs.YtkandhljbbolnaaL.PrintWords Go.Proofs.YtkandhljbbolnaaL.PrintLast Go.Proofs.YtkandhljbbolnaaL.PrintMore
attribute [local go_sem] max2_int min2_int max_two min_two max_three min_three max_four min_four   -- for this text's walks alone
set_option linter.unusedVariables false
set_option linter.unusedSimpArgs false

/-! ### impl_ValidCall: function 26 -/
def impl_ValidCall.l0 : Nat → Bool → List (S110) → Int → Int → List (S110) → Option (Bool)
 | 0, _, _, _, _, _ => none
 | k + 1, x3, x8, x9, x10, x444000 => if x10 < x9 then (if 0 ≤ x10 then (if x10 < (x8.length : Int) then (if ((rd_T110 x8 x10).f0) = 2 then ((impl_Arg_valid.f ((rd_T110 x8 x10).f0) ((rd_T110 x8 x10).f1) ((rd_T110 x8 x10).f2) ((rd_T110 x8 x10).f3)).bind fun t446 => (if t446 = true then (if x3 = true then (impl_ValidCall.l0 k true x8 x9 (wrap64 (x10 + 1)) x444000) else (impl_ValidCall.l0 k true x8 x9 (wrap64 (x10 + 1)) x444000)) else (some false))) else ((impl_Arg_valid.f ((rd_T110 x8 x10).f0) ((rd_T110 x8 x10).f1) ((rd_T110 x8 x10).f2) ((rd_T110 x8 x10).f3)).bind fun t447 => (if t447 = true then (if x3 = true then (if (((rd_T110 x8 x10).f0) = 3) then (impl_ValidCall.l0 k (((rd_T110 x8 x10).f0) == 3) x8 x9 (wrap64 (x10 + 1)) x444000) else (some false)) else (impl_ValidCall.l0 k (((rd_T110 x8 x10).f0) == 3) x8 x9 (wrap64 (x10 + 1)) x444000)) else (some false)))) else (none)) else (none)) else (some (decide ((x444000.length : Int) ≤ 16)))
def impl_ValidCall.f (k : Nat) (l0_0 : List (S110)) : Option (Bool) := impl_ValidCall.l0 k false l0_0 (l0_0.length : Int) 0 l0_0
theorem impl_ValidCall.mono_l : ∀ k, (∀ y0 y1 y2 y3 y4, LeO (impl_ValidCall.l0 k y0 y1 y2 y3 y4) (impl_ValidCall.l0 (k + 1) y0 y1 y2 y3 y4))
 | 0 => fun _ _ _ _ _ r h => by simp [impl_ValidCall.l0] at h
 | k + 1 => by
  have ih0 := impl_ValidCall.mono_l k
  ·intro y0 y1 y2 y3 y4; unfold impl_ValidCall.l0
   repeat' first
   | (with_reducible exact ih0 _ _ _ _ _)
   | (with_reducible exact LeO.refl _)
   | (with_reducible exact LeO.none _)
   | (with_reducible refine LeO.ite ?_ ?_)
   | (with_reducible refine LeO.bind ?_ (fun _ => ?_))
   | exact ih0 _ _ _ _ _
   | exact LeO.none _
   | refine LeO.ite ?_ ?_
   | refine LeO.bind ?_ (fun _ => ?_)
theorem impl_ValidCall.mono : ∀ a0 k, LeO (impl_ValidCall.f k a0) (impl_ValidCall.f (k + 1) a0) := by
 intro a0 k; have ih0 := impl_ValidCall.mono_l k; unfold impl_ValidCall.f
 repeat' first
   | (with_reducible exact ih0 _ _ _ _ _)
   | (with_reducible exact LeO.refl _)
   | (with_reducible exact LeO.none _)
   | (with_reducible refine LeO.ite ?_ ?_)
   | (with_reducible refine LeO.bind ?_ (fun _ => ?_))
   | exact ih0 _ _ _ _ _
   | exact LeO.none _
   | refine LeO.ite ?_ ?_
   | refine LeO.bind ?_ (fun _ => ?_)
set_option maxHeartbeats 8000000 in
set_option maxRecDepth 100000 in
theorem impl_ValidCall.calls (k : Nat) (A0_0 : Option Addr) (c0_0 : Nat) (l0_0 : List (S110)) (r : Bool) (w : World) (hr0_0 : Kd.C k110 w A0_0 l0_0.length l0_0) (hc0_0 : l0_0.length ≤ c0_0) (h : impl_ValidCall.f k l0_0 = some r) :
  Calls Try.prog 26 #[.agg #[.slice A0_0 l0_0.length c0_0]] w fun e w' => e = .returned (.bool r) ∧ Below w.heap.size w w' := by
 have hu48 := Try.underlying48; have hu110 := Try.underlying110; have HR0_0 := Aside0.mk hr0_0; have HC0_0 := Aside0.mk hc0_0; clear hr0_0 hc0_0; have HB := Aside0.mk (Below.refl w.heap.size w); have H : (impl_ValidCall.l0 k false l0_0 (l0_0.length : Int) 0 l0_0) = some r := h; clear h; have H' := Aside0.mk H; clear H; go_enter Try.func26, Try.ntmps26; go_wp2_with (first | ((with_reducible refine gate_dst (N := 1) rfl ?_); refine zx (N := 1) (cs := #[.slice A0_0 l0_0.length c0_0]) (t := 48) ?_; intro gb443 hg w2 hbox hb; have BK443 := Aside0.mk (hbox); have GW443 := Aside0.mk ((by rw [hg]; exact (below_size (zB HB)) : w.heap.size ≤ gb443)); have GE443 := GW443; replace HB := Aside0.mk (below_step (zB HB) hb); clear hb hbox hg; have hcz3_0 : w2.cell? ⟨gb443, 0, none⟩ = some (.slice A0_0 l0_0.length c0_0) := (blk_cell BK443.out 0).trans rfl; have hfz3_0 := blk_frozen BK443.out 0)); go_loopg [3, 10] k (fun kq v3 v10 w' => ∃ (x3_1 : Bool) (x10_1 : Int), v3 = .bool x3_1 ∧ v10 = .int .i64 x10_1 ∧ Aside0 (impl_ValidCall.l0 kq x3_1 l0_0 (l0_0.length : Int) x10_1 l0_0 = some r) ∧ Aside0 (kq ≤ k) ∧ Aside0 (w'.heap[gb443]? = some (.cells #[(.slice A0_0 l0_0.length c0_0)] 48 (0, 0))) ∧ Aside0 (Below w.heap.size w w'))
 case atStart => exact ⟨(false), (0), zr, zr, H', ⟨Nat.le_refl _⟩, ⟨zb BK443⟩, ⟨zB HB⟩⟩
 case round =>
  clear H'; (try clear c2); (try clear p2); (try clear hcz3_0); (try clear hfz3_0); obtain ⟨x3_1, x10_1, rfl, rfl, HA, HK1, BK443, HB⟩ := hrel
  cases gk with
  | zero => exact absurd HA.out (by simp [impl_ValidCall.l0])
  | succ k1 =>
   have H := HA.out; clear HA; simp only [impl_ValidCall.l0] at H
   by_cases c4 : x10_1 < (l0_0.length : Int)
   ·rw [if_pos c4] at H; have c4b0 : decide (x10_1 < (l0_0.length : Int)) = true := decide_eq_true c4; clear c4
    by_cases c5 : 0 ≤ x10_1
    ·rw [if_pos c5] at H; have c5b0 : decide (0 ≤ x10_1) = true := decide_eq_true c5; clear c5
     by_cases c6 : x10_1 < (l0_0.length : Int)
     ·rw [if_pos c6] at H; have c6b0 : decide (x10_1 < (l0_0.length : Int)) = true := decide_eq_true c6; clear c6
      by_cases c7 : ((rd_T110 l0_0 x10_1).f0) = 2
      ·rw [if_pos c7] at H; have c7b0 : (((rd_T110 l0_0 x10_1).f0) == 2) = true := beq_iff_eq.mpr c7; have c7b1 : (((rd_T110 l0_0 x10_1).f0) != 2) = false := bne_eq_false_iff_eq.mpr c7; clear c7; replace H := Option.bind_eq_some_iff.mp H; obtain ⟨t446, A80, H⟩ := H
       (try dsimp only at H)
       have A8 := Aside0.mk A80; clear A80
       by_cases c9 : t446 = true
       ·subst c9; rw [if_pos rfl] at H
        by_cases c10 : x3_1 = true
        ·subst c10; rw [if_pos rfl] at H; have H' := Aside0.mk H; clear H; have p444 : 0 ≤ (x10_1 : Int) := of_decide_eq_true za; have q444 : x10_1 < (l0_0.length : Int) := of_decide_eq_true za; obtain ⟨ad444, A444_2, c444_2, A444_3, c444_3, e444, hx444_0, hx444_1, hx444_2, hx444_3, hl444_2, hi444_2, hl444_3, hi444_3⟩ := at_T110 HR0_0.out x10_1 p444 q444
         cases e444
         replace hx444_0 := (HB.out.cell (World.block_lt_of_cell? w _ hx444_0)).trans hx444_0; replace hx444_1 := (HB.out.cell (World.block_lt_of_cell? w _ hx444_1)).trans hx444_1; replace hx444_2 := (HB.out.cell (World.block_lt_of_cell? w _ hx444_2)).trans hx444_2; replace hx444_3 := (HB.out.cell (World.block_lt_of_cell? w _ hx444_3)).trans hx444_3; have HR444_2 := Aside0.mk hi444_2; have HC444_2 := Aside0.mk hl444_2; clear hi444_2 hl444_2; have HR444_3 := Aside0.mk hi444_3; have HC444_3 := Aside0.mk hl444_3; clear hi444_3 hl444_3; replace p444 := eq_true p444; replace q444 := eq_true q444; go_wp2_with (first | ((with_reducible refine gate_dst (N := 5) rfl ?_); refine zx (N := 5) (cs := #[.int .i64 0, .string (⟨#[]⟩ : ByteArray), .slice none 0 0, .slice none 0 0]) (t := 110) ?_; intro gb445 hg w11 hbox hb; have BK445 := Aside0.mk (hbox); have GW445 := Aside0.mk ((by rw [hg]; exact (below_size (zB HB)) : w.heap.size ≤ gb445)); have GE445 := GW445; replace HB := Aside0.mk (below_step (zB HB) hb); have NB443_445 := Aside0.mk ((by rw [hg]; exact Nat.ne_of_lt (blk_lt (g := gb443) (o := .cells #[.slice (some ad444) l0_0.length c0_0] 48 (0, 0)) (zb BK443)) : gb443 ≠ gb445)); have NB445_443 := Aside0.mk NB443_445.out.symm; replace BK443 := Aside0.mk (blk_below (g := gb443) (o := .cells #[.slice (some ad444) l0_0.length c0_0] 48 (0, 0)) (zb BK443) hb); clear hb hbox hg; have hnb12 := NB445_443.out; have hnc12 := NB443_445.out; have hcz13_0 : w11.cell? ⟨gb445, 0, none⟩ = some (.int .i64 0) := (blk_cell BK445.out 0).trans rfl; have hcz13_1 : w11.cell? ⟨gb445, 1, none⟩ = some (.string (⟨#[]⟩ : ByteArray)) := (blk_cell BK445.out 1).trans rfl; have hcz13_2 : w11.cell? ⟨gb445, 2, none⟩ = some (.slice none 0 0) := (blk_cell BK445.out 2).trans rfl; have hcz13_3 : w11.cell? ⟨gb445, 3, none⟩ = some (.slice none 0 0) := (blk_cell BK445.out 3).trans rfl; have hfz13_0 := blk_frozen BK445.out 0; have hfz13_1 := blk_frozen BK445.out 1; have hfz13_2 := blk_frozen BK445.out 2; have hfz13_3 := blk_frozen BK445.out 3) | ((with_reducible refine gate_callee (f := 76) rfl ?_); refine goesL_ (some 23) rfl rfl Try.func76 (by kernel_rfl) rfl #[.agg #[.int .i64 ((rd_T110 l0_0 x10_1).f0), .string ((rd_T110 l0_0 x10_1).f1), .slice A444_2 ((rd_T110 l0_0 x10_1).f2).length c444_2, .slice A444_3 ((rd_T110 l0_0 x10_1).f3).length c444_3]] rfl zl ?_; (with_reducible refine (impl_Arg_valid.calls ((rd_T110 l0_0 x10_1).f0) ((rd_T110 l0_0 x10_1).f1) _ _ ((rd_T110 l0_0 x10_1).f2) _ _ ((rd_T110 l0_0 x10_1).f3) true _ ?side1 ?side2 ?side3 ?side4 A8.out).mono ?_); (case side1 => exact Kd.C_below HR444_2.out (zB HB)); (case side2 => exact HC444_2.out); (case side3 => exact Kd.C_below HR444_3.out (zB HB)); (case side4 => exact HC444_3.out); rintro e w14 ⟨rfl, hb⟩; refine ⟨_, rfl, ?_⟩; replace BK443 := Aside0.mk (blk_below (g := gb443) (o := .cells #[.slice (some ad444) l0_0.length c0_0] 48 (0, 0)) (zf BK443) hb); replace BK445 := Aside0.mk (blk_below (g := gb445) (o := .cells #[.int .i64 ((rd_T110 l0_0 x10_1).f0), .string ((rd_T110 l0_0 x10_1).f1), .slice A444_2 ((rd_T110 l0_0 x10_1).f2).length c444_2, .slice A444_3 ((rd_T110 l0_0 x10_1).f3).length c444_3] 110 (0, 0)) (by (with_reducible repeat (first | refine blk_drewN ?_ _ | refine blk_drew ?_ | refine blk_alloc ?_ _)); refine blk_put (cs := #[.int .i64 ((rd_T110 l0_0 x10_1).f0), .string ((rd_T110 l0_0 x10_1).f1), .slice A444_2 ((rd_T110 l0_0 x10_1).f2).length c444_2, .slice none 0 0]) ?_ 3 _ rfl; (with_reducible repeat (first | refine blk_drewN ?_ _ | refine blk_drew ?_ | refine blk_alloc ?_ _)); refine blk_put (cs := #[.int .i64 ((rd_T110 l0_0 x10_1).f0), .string ((rd_T110 l0_0 x10_1).f1), .slice none 0 0, .slice none 0 0]) ?_ 2 _ rfl; (with_reducible repeat (first | refine blk_drewN ?_ _ | refine blk_drew ?_ | refine blk_alloc ?_ _)); refine blk_put (cs := #[.int .i64 ((rd_T110 l0_0 x10_1).f0), .string (⟨#[]⟩ : ByteArray), .slice none 0 0, .slice none 0 0]) ?_ 1 _ rfl; (with_reducible repeat (first | refine blk_drewN ?_ _ | refine blk_drew ?_ | refine blk_alloc ?_ _)); refine blk_put (cs := #[.int .i64 0, .string (⟨#[]⟩ : ByteArray), .slice none 0 0, .slice none 0 0]) ?_ 0 _ rfl; (with_reducible repeat (first | refine blk_drewN ?_ _ | refine blk_drew ?_ | refine blk_alloc ?_ _)); exact BK445.out) hb); replace HB := Aside0.mk (below_step (zB HB) hb); (try clear hb); (try clear hb2); (try clear hk); (try clear hi))); go_roundg k1
         case measure => have := HK1.out; omega
         case rel => exact ⟨(true), (wrap64 (x10_1 + 1)), zr, zr, H', ⟨by have := HK1.out; omega⟩, ⟨zb BK443⟩, ⟨zB HB⟩⟩
        ·replace c10 := Bool.eq_false_iff.mpr c10; subst c10; rw [if_neg (show ¬ (false = true) by decide)] at H; have H' := Aside0.mk H; clear H; have p444 : 0 ≤ (x10_1 : Int) := of_decide_eq_true za; have q444 : x10_1 < (l0_0.length : Int) := of_decide_eq_true za; obtain ⟨ad444, A444_2, c444_2, A444_3, c444_3, e444, hx444_0, hx444_1, hx444_2, hx444_3, hl444_2, hi444_2, hl444_3, hi444_3⟩ := at_T110 HR0_0.out x10_1 p444 q444
         cases e444
         replace hx444_0 := (HB.out.cell (World.block_lt_of_cell? w _ hx444_0)).trans hx444_0; replace hx444_1 := (HB.out.cell (World.block_lt_of_cell? w _ hx444_1)).trans hx444_1; replace hx444_2 := (HB.out.cell (World.block_lt_of_cell? w _ hx444_2)).trans hx444_2; replace hx444_3 := (HB.out.cell (World.block_lt_of_cell? w _ hx444_3)).trans hx444_3; have HR444_2 := Aside0.mk hi444_2; have HC444_2 := Aside0.mk hl444_2; clear hi444_2 hl444_2; have HR444_3 := Aside0.mk hi444_3; have HC444_3 := Aside0.mk hl444_3; clear hi444_3 hl444_3; replace p444 := eq_true p444; replace q444 := eq_true q444; go_wp2_with (first | ((with_reducible refine gate_dst (N := 5) rfl ?_); refine zx (N := 5) (cs := #[.int .i64 0, .string (⟨#[]⟩ : ByteArray), .slice none 0 0, .slice none 0 0]) (t := 110) ?_; intro gb445 hg w15 hbox hb; have BK445 := Aside0.mk (hbox); have GW445 := Aside0.mk ((by rw [hg]; exact (below_size (zB HB)) : w.heap.size ≤ gb445)); have GE445 := GW445; replace HB := Aside0.mk (below_step (zB HB) hb); have NB443_445 := Aside0.mk ((by rw [hg]; exact Nat.ne_of_lt (blk_lt (g := gb443) (o := .cells #[.slice (some ad444) l0_0.length c0_0] 48 (0, 0)) (zb BK443)) : gb443 ≠ gb445)); have NB445_443 := Aside0.mk NB443_445.out.symm; replace BK443 := Aside0.mk (blk_below (g := gb443) (o := .cells #[.slice (some ad444) l0_0.length c0_0] 48 (0, 0)) (zb BK443) hb); clear hb hbox hg; have hnb16 := NB445_443.out; have hnc16 := NB443_445.out; have hcz17_0 : w15.cell? ⟨gb445, 0, none⟩ = some (.int .i64 0) := (blk_cell BK445.out 0).trans rfl; have hcz17_1 : w15.cell? ⟨gb445, 1, none⟩ = some (.string (⟨#[]⟩ : ByteArray)) := (blk_cell BK445.out 1).trans rfl; have hcz17_2 : w15.cell? ⟨gb445, 2, none⟩ = some (.slice none 0 0) := (blk_cell BK445.out 2).trans rfl; have hcz17_3 : w15.cell? ⟨gb445, 3, none⟩ = some (.slice none 0 0) := (blk_cell BK445.out 3).trans rfl; have hfz17_0 := blk_frozen BK445.out 0; have hfz17_1 := blk_frozen BK445.out 1; have hfz17_2 := blk_frozen BK445.out 2; have hfz17_3 := blk_frozen BK445.out 3) | ((with_reducible refine gate_callee (f := 76) rfl ?_); refine goesL_ (some 23) rfl rfl Try.func76 (by kernel_rfl) rfl #[.agg #[.int .i64 ((rd_T110 l0_0 x10_1).f0), .string ((rd_T110 l0_0 x10_1).f1), .slice A444_2 ((rd_T110 l0_0 x10_1).f2).length c444_2, .slice A444_3 ((rd_T110 l0_0 x10_1).f3).length c444_3]] rfl zl ?_; (with_reducible refine (impl_Arg_valid.calls ((rd_T110 l0_0 x10_1).f0) ((rd_T110 l0_0 x10_1).f1) _ _ ((rd_T110 l0_0 x10_1).f2) _ _ ((rd_T110 l0_0 x10_1).f3) true _ ?side1 ?side2 ?side3 ?side4 A8.out).mono ?_); (case side1 => exact Kd.C_below HR444_2.out (zB HB)); (case side2 => exact HC444_2.out); (case side3 => exact Kd.C_below HR444_3.out (zB HB)); (case side4 => exact HC444_3.out); rintro e w18 ⟨rfl, hb⟩; refine ⟨_, rfl, ?_⟩; replace BK443 := Aside0.mk (blk_below (g := gb443) (o := .cells #[.slice (some ad444) l0_0.length c0_0] 48 (0, 0)) (zf BK443) hb); replace BK445 := Aside0.mk (blk_below (g := gb445) (o := .cells #[.int .i64 ((rd_T110 l0_0 x10_1).f0), .string ((rd_T110 l0_0 x10_1).f1), .slice A444_2 ((rd_T110 l0_0 x10_1).f2).length c444_2, .slice A444_3 ((rd_T110 l0_0 x10_1).f3).length c444_3] 110 (0, 0)) (by (with_reducible repeat (first | refine blk_drewN ?_ _ | refine blk_drew ?_ | refine blk_alloc ?_ _)); refine blk_put (cs := #[.int .i64 ((rd_T110 l0_0 x10_1).f0), .string ((rd_T110 l0_0 x10_1).f1), .slice A444_2 ((rd_T110 l0_0 x10_1).f2).length c444_2, .slice none 0 0]) ?_ 3 _ rfl; (with_reducible repeat (first | refine blk_drewN ?_ _ | refine blk_drew ?_ | refine blk_alloc ?_ _)); refine blk_put (cs := #[.int .i64 ((rd_T110 l0_0 x10_1).f0), .string ((rd_T110 l0_0 x10_1).f1), .slice none 0 0, .slice none 0 0]) ?_ 2 _ rfl; (with_reducible repeat (first | refine blk_drewN ?_ _ | refine blk_drew ?_ | refine blk_alloc ?_ _)); refine blk_put (cs := #[.int .i64 ((rd_T110 l0_0 x10_1).f0), .string (⟨#[]⟩ : ByteArray), .slice none 0 0, .slice none 0 0]) ?_ 1 _ rfl; (with_reducible repeat (first | refine blk_drewN ?_ _ | refine blk_drew ?_ | refine blk_alloc ?_ _)); refine blk_put (cs := #[.int .i64 0, .string (⟨#[]⟩ : ByteArray), .slice none 0 0, .slice none 0 0]) ?_ 0 _ rfl; (with_reducible repeat (first | refine blk_drewN ?_ _ | refine blk_drew ?_ | refine blk_alloc ?_ _)); exact BK445.out) hb); replace HB := Aside0.mk (below_step (zB HB) hb); (try clear hb); (try clear hb2); (try clear hk); (try clear hi))); go_roundg k1
         case measure => have := HK1.out; omega
         case rel => exact ⟨(true), (wrap64 (x10_1 + 1)), zr, zr, H', ⟨by have := HK1.out; omega⟩, ⟨zb BK443⟩, ⟨zB HB⟩⟩
       ·replace c9 := Bool.eq_false_iff.mpr c9; subst c9; rw [if_neg (show ¬ (false = true) by decide)] at H; obtain rfl := Option.some.inj H; have p444 : 0 ≤ (x10_1 : Int) := of_decide_eq_true za; have q444 : x10_1 < (l0_0.length : Int) := of_decide_eq_true za; obtain ⟨ad444, A444_2, c444_2, A444_3, c444_3, e444, hx444_0, hx444_1, hx444_2, hx444_3, hl444_2, hi444_2, hl444_3, hi444_3⟩ := at_T110 HR0_0.out x10_1 p444 q444
        cases e444
        replace hx444_0 := (HB.out.cell (World.block_lt_of_cell? w _ hx444_0)).trans hx444_0; replace hx444_1 := (HB.out.cell (World.block_lt_of_cell? w _ hx444_1)).trans hx444_1; replace hx444_2 := (HB.out.cell (World.block_lt_of_cell? w _ hx444_2)).trans hx444_2; replace hx444_3 := (HB.out.cell (World.block_lt_of_cell? w _ hx444_3)).trans hx444_3; have HR444_2 := Aside0.mk hi444_2; have HC444_2 := Aside0.mk hl444_2; clear hi444_2 hl444_2; have HR444_3 := Aside0.mk hi444_3; have HC444_3 := Aside0.mk hl444_3; clear hi444_3 hl444_3; replace p444 := eq_true p444; replace q444 := eq_true q444; go_wp2_with (first | ((with_reducible refine gate_dst (N := 5) rfl ?_); refine zx (N := 5) (cs := #[.int .i64 0, .string (⟨#[]⟩ : ByteArray), .slice none 0 0, .slice none 0 0]) (t := 110) ?_; intro gb445 hg w19 hbox hb; have BK445 := Aside0.mk (hbox); have GW445 := Aside0.mk ((by rw [hg]; exact (below_size (zB HB)) : w.heap.size ≤ gb445)); have GE445 := GW445; replace HB := Aside0.mk (below_step (zB HB) hb); have NB443_445 := Aside0.mk ((by rw [hg]; exact Nat.ne_of_lt (blk_lt (g := gb443) (o := .cells #[.slice (some ad444) l0_0.length c0_0] 48 (0, 0)) (zb BK443)) : gb443 ≠ gb445)); have NB445_443 := Aside0.mk NB443_445.out.symm; replace BK443 := Aside0.mk (blk_below (g := gb443) (o := .cells #[.slice (some ad444) l0_0.length c0_0] 48 (0, 0)) (zb BK443) hb); clear hb hbox hg; have hnb20 := NB445_443.out; have hnc20 := NB443_445.out; have hcz21_0 : w19.cell? ⟨gb445, 0, none⟩ = some (.int .i64 0) := (blk_cell BK445.out 0).trans rfl; have hcz21_1 : w19.cell? ⟨gb445, 1, none⟩ = some (.string (⟨#[]⟩ : ByteArray)) := (blk_cell BK445.out 1).trans rfl; have hcz21_2 : w19.cell? ⟨gb445, 2, none⟩ = some (.slice none 0 0) := (blk_cell BK445.out 2).trans rfl; have hcz21_3 : w19.cell? ⟨gb445, 3, none⟩ = some (.slice none 0 0) := (blk_cell BK445.out 3).trans rfl; have hfz21_0 := blk_frozen BK445.out 0; have hfz21_1 := blk_frozen BK445.out 1; have hfz21_2 := blk_frozen BK445.out 2; have hfz21_3 := blk_frozen BK445.out 3) | ((with_reducible refine gate_callee (f := 76) rfl ?_); refine goesL_ (some 23) rfl rfl Try.func76 (by kernel_rfl) rfl #[.agg #[.int .i64 ((rd_T110 l0_0 x10_1).f0), .string ((rd_T110 l0_0 x10_1).f1), .slice A444_2 ((rd_T110 l0_0 x10_1).f2).length c444_2, .slice A444_3 ((rd_T110 l0_0 x10_1).f3).length c444_3]] rfl zl ?_; (with_reducible refine (impl_Arg_valid.calls ((rd_T110 l0_0 x10_1).f0) ((rd_T110 l0_0 x10_1).f1) _ _ ((rd_T110 l0_0 x10_1).f2) _ _ ((rd_T110 l0_0 x10_1).f3) false _ ?side1 ?side2 ?side3 ?side4 A8.out).mono ?_); (case side1 => exact Kd.C_below HR444_2.out (zB HB)); (case side2 => exact HC444_2.out); (case side3 => exact Kd.C_below HR444_3.out (zB HB)); (case side4 => exact HC444_3.out); rintro e w22 ⟨rfl, hb⟩; refine ⟨_, rfl, ?_⟩; replace BK443 := Aside0.mk (blk_below (g := gb443) (o := .cells #[.slice (some ad444) l0_0.length c0_0] 48 (0, 0)) (zf BK443) hb); replace BK445 := Aside0.mk (blk_below (g := gb445) (o := .cells #[.int .i64 ((rd_T110 l0_0 x10_1).f0), .string ((rd_T110 l0_0 x10_1).f1), .slice A444_2 ((rd_T110 l0_0 x10_1).f2).length c444_2, .slice A444_3 ((rd_T110 l0_0 x10_1).f3).length c444_3] 110 (0, 0)) (by (with_reducible repeat (first | refine blk_drewN ?_ _ | refine blk_drew ?_ | refine blk_alloc ?_ _)); refine blk_put (cs := #[.int .i64 ((rd_T110 l0_0 x10_1).f0), .string ((rd_T110 l0_0 x10_1).f1), .slice A444_2 ((rd_T110 l0_0 x10_1).f2).length c444_2, .slice none 0 0]) ?_ 3 _ rfl; (with_reducible repeat (first | refine blk_drewN ?_ _ | refine blk_drew ?_ | refine blk_alloc ?_ _)); refine blk_put (cs := #[.int .i64 ((rd_T110 l0_0 x10_1).f0), .string ((rd_T110 l0_0 x10_1).f1), .slice none 0 0, .slice none 0 0]) ?_ 2 _ rfl; (with_reducible repeat (first | refine blk_drewN ?_ _ | refine blk_drew ?_ | refine blk_alloc ?_ _)); refine blk_put (cs := #[.int .i64 ((rd_T110 l0_0 x10_1).f0), .string (⟨#[]⟩ : ByteArray), .slice none 0 0, .slice none 0 0]) ?_ 1 _ rfl; (with_reducible repeat (first | refine blk_drewN ?_ _ | refine blk_drew ?_ | refine blk_alloc ?_ _)); refine blk_put (cs := #[.int .i64 0, .string (⟨#[]⟩ : ByteArray), .slice none 0 0, .slice none 0 0]) ?_ 0 _ rfl; (with_reducible repeat (first | refine blk_drewN ?_ _ | refine blk_drew ?_ | refine blk_alloc ?_ _)); exact BK445.out) hb); replace HB := Aside0.mk (below_step (zB HB) hb); (try clear hb); (try clear hb2); (try clear hk); (try clear hi))); go_ret; exact ⟨by first | rfl | (simp [errW_none, errW_some] <;> rfl) | (simp [*, errW_none, errW_some] <;> rfl), zB HB⟩
      ·rw [if_neg c7] at H; have c7b0 : (((rd_T110 l0_0 x10_1).f0) == 2) = false := beq_eq_false_iff_ne.mpr c7; have c7b1 : (((rd_T110 l0_0 x10_1).f0) != 2) = true := bne_iff_ne.mpr c7; replace H := Option.bind_eq_some_iff.mp H; obtain ⟨t447, A230, H⟩ := H
       (try dsimp only at H)
       have A23 := Aside0.mk A230; clear A230
       by_cases c24 : t447 = true
       ·subst c24; rw [if_pos rfl] at H
        by_cases c25 : x3_1 = true
        ·subst c25; rw [if_pos rfl] at H
         by_cases c26 : (((rd_T110 l0_0 x10_1).f0) = 3)
         ·rw [if_pos c26] at H; have c26b0 : (((rd_T110 l0_0 x10_1).f0) == 3) = true := beq_iff_eq.mpr c26; have c26b1 : (((rd_T110 l0_0 x10_1).f0) != 3) = false := bne_eq_false_iff_eq.mpr c26; clear c26; have H' := Aside0.mk H; clear H; have p444 : 0 ≤ (x10_1 : Int) := of_decide_eq_true za; have q444 : x10_1 < (l0_0.length : Int) := of_decide_eq_true za; obtain ⟨ad444, A444_2, c444_2, A444_3, c444_3, e444, hx444_0, hx444_1, hx444_2, hx444_3, hl444_2, hi444_2, hl444_3, hi444_3⟩ := at_T110 HR0_0.out x10_1 p444 q444
          cases e444
          replace hx444_0 := (HB.out.cell (World.block_lt_of_cell? w _ hx444_0)).trans hx444_0; replace hx444_1 := (HB.out.cell (World.block_lt_of_cell? w _ hx444_1)).trans hx444_1; replace hx444_2 := (HB.out.cell (World.block_lt_of_cell? w _ hx444_2)).trans hx444_2; replace hx444_3 := (HB.out.cell (World.block_lt_of_cell? w _ hx444_3)).trans hx444_3; have HR444_2 := Aside0.mk hi444_2; have HC444_2 := Aside0.mk hl444_2; clear hi444_2 hl444_2; have HR444_3 := Aside0.mk hi444_3; have HC444_3 := Aside0.mk hl444_3; clear hi444_3 hl444_3; replace p444 := eq_true p444; replace q444 := eq_true q444; go_wp2_with (first | ((with_reducible refine gate_dst (N := 5) rfl ?_); refine zx (N := 5) (cs := #[.int .i64 0, .string (⟨#[]⟩ : ByteArray), .slice none 0 0, .slice none 0 0]) (t := 110) ?_; intro gb445 hg w27 hbox hb; have BK445 := Aside0.mk (hbox); have GW445 := Aside0.mk ((by rw [hg]; exact (below_size (zB HB)) : w.heap.size ≤ gb445)); have GE445 := GW445; replace HB := Aside0.mk (below_step (zB HB) hb); have NB443_445 := Aside0.mk ((by rw [hg]; exact Nat.ne_of_lt (blk_lt (g := gb443) (o := .cells #[.slice (some ad444) l0_0.length c0_0] 48 (0, 0)) (zb BK443)) : gb443 ≠ gb445)); have NB445_443 := Aside0.mk NB443_445.out.symm; replace BK443 := Aside0.mk (blk_below (g := gb443) (o := .cells #[.slice (some ad444) l0_0.length c0_0] 48 (0, 0)) (zb BK443) hb); clear hb hbox hg; have hnb28 := NB445_443.out; have hnc28 := NB443_445.out; have hcz29_0 : w27.cell? ⟨gb445, 0, none⟩ = some (.int .i64 0) := (blk_cell BK445.out 0).trans rfl; have hcz29_1 : w27.cell? ⟨gb445, 1, none⟩ = some (.string (⟨#[]⟩ : ByteArray)) := (blk_cell BK445.out 1).trans rfl; have hcz29_2 : w27.cell? ⟨gb445, 2, none⟩ = some (.slice none 0 0) := (blk_cell BK445.out 2).trans rfl; have hcz29_3 : w27.cell? ⟨gb445, 3, none⟩ = some (.slice none 0 0) := (blk_cell BK445.out 3).trans rfl; have hfz29_0 := blk_frozen BK445.out 0; have hfz29_1 := blk_frozen BK445.out 1; have hfz29_2 := blk_frozen BK445.out 2; have hfz29_3 := blk_frozen BK445.out 3) | ((with_reducible refine gate_callee (f := 76) rfl ?_); refine goesL_ (some 23) rfl rfl Try.func76 (by kernel_rfl) rfl #[.agg #[.int .i64 ((rd_T110 l0_0 x10_1).f0), .string ((rd_T110 l0_0 x10_1).f1), .slice A444_2 ((rd_T110 l0_0 x10_1).f2).length c444_2, .slice A444_3 ((rd_T110 l0_0 x10_1).f3).length c444_3]] rfl zl ?_; (with_reducible refine (impl_Arg_valid.calls ((rd_T110 l0_0 x10_1).f0) ((rd_T110 l0_0 x10_1).f1) _ _ ((rd_T110 l0_0 x10_1).f2) _ _ ((rd_T110 l0_0 x10_1).f3) true _ ?side1 ?side2 ?side3 ?side4 A23.out).mono ?_); (case side1 => exact Kd.C_below HR444_2.out (zB HB)); (case side2 => exact HC444_2.out); (case side3 => exact Kd.C_below HR444_3.out (zB HB)); (case side4 => exact HC444_3.out); rintro e w30 ⟨rfl, hb⟩; refine ⟨_, rfl, ?_⟩; replace BK443 := Aside0.mk (blk_below (g := gb443) (o := .cells #[.slice (some ad444) l0_0.length c0_0] 48 (0, 0)) (zf BK443) hb); replace BK445 := Aside0.mk (blk_below (g := gb445) (o := .cells #[.int .i64 ((rd_T110 l0_0 x10_1).f0), .string ((rd_T110 l0_0 x10_1).f1), .slice A444_2 ((rd_T110 l0_0 x10_1).f2).length c444_2, .slice A444_3 ((rd_T110 l0_0 x10_1).f3).length c444_3] 110 (0, 0)) (by (with_reducible repeat (first | refine blk_drewN ?_ _ | refine blk_drew ?_ | refine blk_alloc ?_ _)); refine blk_put (cs := #[.int .i64 ((rd_T110 l0_0 x10_1).f0), .string ((rd_T110 l0_0 x10_1).f1), .slice A444_2 ((rd_T110 l0_0 x10_1).f2).length c444_2, .slice none 0 0]) ?_ 3 _ rfl; (with_reducible repeat (first | refine blk_drewN ?_ _ | refine blk_drew ?_ | refine blk_alloc ?_ _)); refine blk_put (cs := #[.int .i64 ((rd_T110 l0_0 x10_1).f0), .string ((rd_T110 l0_0 x10_1).f1), .slice none 0 0, .slice none 0 0]) ?_ 2 _ rfl; (with_reducible repeat (first | refine blk_drewN ?_ _ | refine blk_drew ?_ | refine blk_alloc ?_ _)); refine blk_put (cs := #[.int .i64 ((rd_T110 l0_0 x10_1).f0), .string (⟨#[]⟩ : ByteArray), .slice none 0 0, .slice none 0 0]) ?_ 1 _ rfl; (with_reducible repeat (first | refine blk_drewN ?_ _ | refine blk_drew ?_ | refine blk_alloc ?_ _)); refine blk_put (cs := #[.int .i64 0, .string (⟨#[]⟩ : ByteArray), .slice none 0 0, .slice none 0 0]) ?_ 0 _ rfl; (with_reducible repeat (first | refine blk_drewN ?_ _ | refine blk_drew ?_ | refine blk_alloc ?_ _)); exact BK445.out) hb); replace HB := Aside0.mk (below_step (zB HB) hb); (try clear hb); (try clear hb2); (try clear hk); (try clear hi))); go_roundg k1
          case measure => have := HK1.out; omega
          case rel => exact ⟨((((rd_T110 l0_0 x10_1).f0) == 3)), (wrap64 (x10_1 + 1)), zr, zr, H', ⟨by have := HK1.out; omega⟩, ⟨zb BK443⟩, ⟨zB HB⟩⟩
         ·rw [if_neg c26] at H; have c26b0 : (((rd_T110 l0_0 x10_1).f0) == 3) = false := beq_eq_false_iff_ne.mpr c26; have c26b1 : (((rd_T110 l0_0 x10_1).f0) != 3) = true := bne_iff_ne.mpr c26; obtain rfl := Option.some.inj H; have p444 : 0 ≤ (x10_1 : Int) := of_decide_eq_true za; have q444 : x10_1 < (l0_0.length : Int) := of_decide_eq_true za; obtain ⟨ad444, A444_2, c444_2, A444_3, c444_3, e444, hx444_0, hx444_1, hx444_2, hx444_3, hl444_2, hi444_2, hl444_3, hi444_3⟩ := at_T110 HR0_0.out x10_1 p444 q444
          cases e444
          replace hx444_0 := (HB.out.cell (World.block_lt_of_cell? w _ hx444_0)).trans hx444_0; replace hx444_1 := (HB.out.cell (World.block_lt_of_cell? w _ hx444_1)).trans hx444_1; replace hx444_2 := (HB.out.cell (World.block_lt_of_cell? w _ hx444_2)).trans hx444_2; replace hx444_3 := (HB.out.cell (World.block_lt_of_cell? w _ hx444_3)).trans hx444_3; have HR444_2 := Aside0.mk hi444_2; have HC444_2 := Aside0.mk hl444_2; clear hi444_2 hl444_2; have HR444_3 := Aside0.mk hi444_3; have HC444_3 := Aside0.mk hl444_3; clear hi444_3 hl444_3; replace p444 := eq_true p444; replace q444 := eq_true q444; go_wp2_with (first | ((with_reducible refine gate_dst (N := 5) rfl ?_); refine zx (N := 5) (cs := #[.int .i64 0, .string (⟨#[]⟩ : ByteArray), .slice none 0 0, .slice none 0 0]) (t := 110) ?_; intro gb445 hg w31 hbox hb; have BK445 := Aside0.mk (hbox); have GW445 := Aside0.mk ((by rw [hg]; exact (below_size (zB HB)) : w.heap.size ≤ gb445)); have GE445 := GW445; replace HB := Aside0.mk (below_step (zB HB) hb); have NB443_445 := Aside0.mk ((by rw [hg]; exact Nat.ne_of_lt (blk_lt (g := gb443) (o := .cells #[.slice (some ad444) l0_0.length c0_0] 48 (0, 0)) (zb BK443)) : gb443 ≠ gb445)); have NB445_443 := Aside0.mk NB443_445.out.symm; replace BK443 := Aside0.mk (blk_below (g := gb443) (o := .cells #[.slice (some ad444) l0_0.length c0_0] 48 (0, 0)) (zb BK443) hb); clear hb hbox hg; have hnb32 := NB445_443.out; have hnc32 := NB443_445.out; have hcz33_0 : w31.cell? ⟨gb445, 0, none⟩ = some (.int .i64 0) := (blk_cell BK445.out 0).trans rfl; have hcz33_1 : w31.cell? ⟨gb445, 1, none⟩ = some (.string (⟨#[]⟩ : ByteArray)) := (blk_cell BK445.out 1).trans rfl; have hcz33_2 : w31.cell? ⟨gb445, 2, none⟩ = some (.slice none 0 0) := (blk_cell BK445.out 2).trans rfl; have hcz33_3 : w31.cell? ⟨gb445, 3, none⟩ = some (.slice none 0 0) := (blk_cell BK445.out 3).trans rfl; have hfz33_0 := blk_frozen BK445.out 0; have hfz33_1 := blk_frozen BK445.out 1; have hfz33_2 := blk_frozen BK445.out 2; have hfz33_3 := blk_frozen BK445.out 3) | ((with_reducible refine gate_callee (f := 76) rfl ?_); refine goesL_ (some 23) rfl rfl Try.func76 (by kernel_rfl) rfl #[.agg #[.int .i64 ((rd_T110 l0_0 x10_1).f0), .string ((rd_T110 l0_0 x10_1).f1), .slice A444_2 ((rd_T110 l0_0 x10_1).f2).length c444_2, .slice A444_3 ((rd_T110 l0_0 x10_1).f3).length c444_3]] rfl zl ?_; (with_reducible refine (impl_Arg_valid.calls ((rd_T110 l0_0 x10_1).f0) ((rd_T110 l0_0 x10_1).f1) _ _ ((rd_T110 l0_0 x10_1).f2) _ _ ((rd_T110 l0_0 x10_1).f3) true _ ?side1 ?side2 ?side3 ?side4 A23.out).mono ?_); (case side1 => exact Kd.C_below HR444_2.out (zB HB)); (case side2 => exact HC444_2.out); (case side3 => exact Kd.C_below HR444_3.out (zB HB)); (case side4 => exact HC444_3.out); rintro e w34 ⟨rfl, hb⟩; refine ⟨_, rfl, ?_⟩; replace BK443 := Aside0.mk (blk_below (g := gb443) (o := .cells #[.slice (some ad444) l0_0.length c0_0] 48 (0, 0)) (zf BK443) hb); replace BK445 := Aside0.mk (blk_below (g := gb445) (o := .cells #[.int .i64 ((rd_T110 l0_0 x10_1).f0), .string ((rd_T110 l0_0 x10_1).f1), .slice A444_2 ((rd_T110 l0_0 x10_1).f2).length c444_2, .slice A444_3 ((rd_T110 l0_0 x10_1).f3).length c444_3] 110 (0, 0)) (by (with_reducible repeat (first | refine blk_drewN ?_ _ | refine blk_drew ?_ | refine blk_alloc ?_ _)); refine blk_put (cs := #[.int .i64 ((rd_T110 l0_0 x10_1).f0), .string ((rd_T110 l0_0 x10_1).f1), .slice A444_2 ((rd_T110 l0_0 x10_1).f2).length c444_2, .slice none 0 0]) ?_ 3 _ rfl; (with_reducible repeat (first | refine blk_drewN ?_ _ | refine blk_drew ?_ | refine blk_alloc ?_ _)); refine blk_put (cs := #[.int .i64 ((rd_T110 l0_0 x10_1).f0), .string ((rd_T110 l0_0 x10_1).f1), .slice none 0 0, .slice none 0 0]) ?_ 2 _ rfl; (with_reducible repeat (first | refine blk_drewN ?_ _ | refine blk_drew ?_ | refine blk_alloc ?_ _)); refine blk_put (cs := #[.int .i64 ((rd_T110 l0_0 x10_1).f0), .string (⟨#[]⟩ : ByteArray), .slice none 0 0, .slice none 0 0]) ?_ 1 _ rfl; (with_reducible repeat (first | refine blk_drewN ?_ _ | refine blk_drew ?_ | refine blk_alloc ?_ _)); refine blk_put (cs := #[.int .i64 0, .string (⟨#[]⟩ : ByteArray), .slice none 0 0, .slice none 0 0]) ?_ 0 _ rfl; (with_reducible repeat (first | refine blk_drewN ?_ _ | refine blk_drew ?_ | refine blk_alloc ?_ _)); exact BK445.out) hb); replace HB := Aside0.mk (below_step (zB HB) hb); (try clear hb); (try clear hb2); (try clear hk); (try clear hi))); go_ret; exact ⟨by first | rfl | (simp [errW_none, errW_some] <;> rfl) | (simp [*, errW_none, errW_some] <;> rfl), zB HB⟩
        ·replace c25 := Bool.eq_false_iff.mpr c25; subst c25; rw [if_neg (show ¬ (false = true) by decide)] at H; have H' := Aside0.mk H; clear H; have p444 : 0 ≤ (x10_1 : Int) := of_decide_eq_true za; have q444 : x10_1 < (l0_0.length : Int) := of_decide_eq_true za; obtain ⟨ad444, A444_2, c444_2, A444_3, c444_3, e444, hx444_0, hx444_1, hx444_2, hx444_3, hl444_2, hi444_2, hl444_3, hi444_3⟩ := at_T110 HR0_0.out x10_1 p444 q444
         cases e444
         replace hx444_0 := (HB.out.cell (World.block_lt_of_cell? w _ hx444_0)).trans hx444_0; replace hx444_1 := (HB.out.cell (World.block_lt_of_cell? w _ hx444_1)).trans hx444_1; replace hx444_2 := (HB.out.cell (World.block_lt_of_cell? w _ hx444_2)).trans hx444_2; replace hx444_3 := (HB.out.cell (World.block_lt_of_cell? w _ hx444_3)).trans hx444_3; have HR444_2 := Aside0.mk hi444_2; have HC444_2 := Aside0.mk hl444_2; clear hi444_2 hl444_2; have HR444_3 := Aside0.mk hi444_3; have HC444_3 := Aside0.mk hl444_3; clear hi444_3 hl444_3; replace p444 := eq_true p444; replace q444 := eq_true q444; go_wp2_with (first | ((with_reducible refine gate_dst (N := 5) rfl ?_); refine zx (N := 5) (cs := #[.int .i64 0, .string (⟨#[]⟩ : ByteArray), .slice none 0 0, .slice none 0 0]) (t := 110) ?_; intro gb445 hg w35 hbox hb; have BK445 := Aside0.mk (hbox); have GW445 := Aside0.mk ((by rw [hg]; exact (below_size (zB HB)) : w.heap.size ≤ gb445)); have GE445 := GW445; replace HB := Aside0.mk (below_step (zB HB) hb); have NB443_445 := Aside0.mk ((by rw [hg]; exact Nat.ne_of_lt (blk_lt (g := gb443) (o := .cells #[.slice (some ad444) l0_0.length c0_0] 48 (0, 0)) (zb BK443)) : gb443 ≠ gb445)); have NB445_443 := Aside0.mk NB443_445.out.symm; replace BK443 := Aside0.mk (blk_below (g := gb443) (o := .cells #[.slice (some ad444) l0_0.length c0_0] 48 (0, 0)) (zb BK443) hb); clear hb hbox hg; have hnb36 := NB445_443.out; have hnc36 := NB443_445.out; have hcz37_0 : w35.cell? ⟨gb445, 0, none⟩ = some (.int .i64 0) := (blk_cell BK445.out 0).trans rfl; have hcz37_1 : w35.cell? ⟨gb445, 1, none⟩ = some (.string (⟨#[]⟩ : ByteArray)) := (blk_cell BK445.out 1).trans rfl; have hcz37_2 : w35.cell? ⟨gb445, 2, none⟩ = some (.slice none 0 0) := (blk_cell BK445.out 2).trans rfl; have hcz37_3 : w35.cell? ⟨gb445, 3, none⟩ = some (.slice none 0 0) := (blk_cell BK445.out 3).trans rfl; have hfz37_0 := blk_frozen BK445.out 0; have hfz37_1 := blk_frozen BK445.out 1; have hfz37_2 := blk_frozen BK445.out 2; have hfz37_3 := blk_frozen BK445.out 3) | ((with_reducible refine gate_callee (f := 76) rfl ?_); refine goesL_ (some 23) rfl rfl Try.func76 (by kernel_rfl) rfl #[.agg #[.int .i64 ((rd_T110 l0_0 x10_1).f0), .string ((rd_T110 l0_0 x10_1).f1), .slice A444_2 ((rd_T110 l0_0 x10_1).f2).length c444_2, .slice A444_3 ((rd_T110 l0_0 x10_1).f3).length c444_3]] rfl zl ?_; (with_reducible refine (impl_Arg_valid.calls ((rd_T110 l0_0 x10_1).f0) ((rd_T110 l0_0 x10_1).f1) _ _ ((rd_T110 l0_0 x10_1).f2) _ _ ((rd_T110 l0_0 x10_1).f3) true _ ?side1 ?side2 ?side3 ?side4 A23.out).mono ?_); (case side1 => exact Kd.C_below HR444_2.out (zB HB)); (case side2 => exact HC444_2.out); (case side3 => exact Kd.C_below HR444_3.out (zB HB)); (case side4 => exact HC444_3.out); rintro e w38 ⟨rfl, hb⟩; refine ⟨_, rfl, ?_⟩; replace BK443 := Aside0.mk (blk_below (g := gb443) (o := .cells #[.slice (some ad444) l0_0.length c0_0] 48 (0, 0)) (zf BK443) hb); replace BK445 := Aside0.mk (blk_below (g := gb445) (o := .cells #[.int .i64 ((rd_T110 l0_0 x10_1).f0), .string ((rd_T110 l0_0 x10_1).f1), .slice A444_2 ((rd_T110 l0_0 x10_1).f2).length c444_2, .slice A444_3 ((rd_T110 l0_0 x10_1).f3).length c444_3] 110 (0, 0)) (by (with_reducible repeat (first | refine blk_drewN ?_ _ | refine blk_drew ?_ | refine blk_alloc ?_ _)); refine blk_put (cs := #[.int .i64 ((rd_T110 l0_0 x10_1).f0), .string ((rd_T110 l0_0 x10_1).f1), .slice A444_2 ((rd_T110 l0_0 x10_1).f2).length c444_2, .slice none 0 0]) ?_ 3 _ rfl; (with_reducible repeat (first | refine blk_drewN ?_ _ | refine blk_drew ?_ | refine blk_alloc ?_ _)); refine blk_put (cs := #[.int .i64 ((rd_T110 l0_0 x10_1).f0), .string ((rd_T110 l0_0 x10_1).f1), .slice none 0 0, .slice none 0 0]) ?_ 2 _ rfl; (with_reducible repeat (first | refine blk_drewN ?_ _ | refine blk_drew ?_ | refine blk_alloc ?_ _)); refine blk_put (cs := #[.int .i64 ((rd_T110 l0_0 x10_1).f0), .string (⟨#[]⟩ : ByteArray), .slice none 0 0, .slice none 0 0]) ?_ 1 _ rfl; (with_reducible repeat (first | refine blk_drewN ?_ _ | refine blk_drew ?_ | refine blk_alloc ?_ _)); refine blk_put (cs := #[.int .i64 0, .string (⟨#[]⟩ : ByteArray), .slice none 0 0, .slice none 0 0]) ?_ 0 _ rfl; (with_reducible repeat (first | refine blk_drewN ?_ _ | refine blk_drew ?_ | refine blk_alloc ?_ _)); exact BK445.out) hb); replace HB := Aside0.mk (below_step (zB HB) hb); (try clear hb); (try clear hb2); (try clear hk); (try clear hi))); go_roundg k1
         case measure => have := HK1.out; omega
         case rel => exact ⟨((((rd_T110 l0_0 x10_1).f0) == 3)), (wrap64 (x10_1 + 1)), zr, zr, H', ⟨by have := HK1.out; omega⟩, ⟨zb BK443⟩, ⟨zB HB⟩⟩
       ·replace c24 := Bool.eq_false_iff.mpr c24; subst c24; rw [if_neg (show ¬ (false = true) by decide)] at H; obtain rfl := Option.some.inj H; have p444 : 0 ≤ (x10_1 : Int) := of_decide_eq_true za; have q444 : x10_1 < (l0_0.length : Int) := of_decide_eq_true za; obtain ⟨ad444, A444_2, c444_2, A444_3, c444_3, e444, hx444_0, hx444_1, hx444_2, hx444_3, hl444_2, hi444_2, hl444_3, hi444_3⟩ := at_T110 HR0_0.out x10_1 p444 q444
        cases e444
        replace hx444_0 := (HB.out.cell (World.block_lt_of_cell? w _ hx444_0)).trans hx444_0; replace hx444_1 := (HB.out.cell (World.block_lt_of_cell? w _ hx444_1)).trans hx444_1; replace hx444_2 := (HB.out.cell (World.block_lt_of_cell? w _ hx444_2)).trans hx444_2; replace hx444_3 := (HB.out.cell (World.block_lt_of_cell? w _ hx444_3)).trans hx444_3; have HR444_2 := Aside0.mk hi444_2; have HC444_2 := Aside0.mk hl444_2; clear hi444_2 hl444_2; have HR444_3 := Aside0.mk hi444_3; have HC444_3 := Aside0.mk hl444_3; clear hi444_3 hl444_3; replace p444 := eq_true p444; replace q444 := eq_true q444; go_wp2_with (first | ((with_reducible refine gate_dst (N := 5) rfl ?_); refine zx (N := 5) (cs := #[.int .i64 0, .string (⟨#[]⟩ : ByteArray), .slice none 0 0, .slice none 0 0]) (t := 110) ?_; intro gb445 hg w39 hbox hb; have BK445 := Aside0.mk (hbox); have GW445 := Aside0.mk ((by rw [hg]; exact (below_size (zB HB)) : w.heap.size ≤ gb445)); have GE445 := GW445; replace HB := Aside0.mk (below_step (zB HB) hb); have NB443_445 := Aside0.mk ((by rw [hg]; exact Nat.ne_of_lt (blk_lt (g := gb443) (o := .cells #[.slice (some ad444) l0_0.length c0_0] 48 (0, 0)) (zb BK443)) : gb443 ≠ gb445)); have NB445_443 := Aside0.mk NB443_445.out.symm; replace BK443 := Aside0.mk (blk_below (g := gb443) (o := .cells #[.slice (some ad444) l0_0.length c0_0] 48 (0, 0)) (zb BK443) hb); clear hb hbox hg; have hnb40 := NB445_443.out; have hnc40 := NB443_445.out; have hcz41_0 : w39.cell? ⟨gb445, 0, none⟩ = some (.int .i64 0) := (blk_cell BK445.out 0).trans rfl; have hcz41_1 : w39.cell? ⟨gb445, 1, none⟩ = some (.string (⟨#[]⟩ : ByteArray)) := (blk_cell BK445.out 1).trans rfl; have hcz41_2 : w39.cell? ⟨gb445, 2, none⟩ = some (.slice none 0 0) := (blk_cell BK445.out 2).trans rfl; have hcz41_3 : w39.cell? ⟨gb445, 3, none⟩ = some (.slice none 0 0) := (blk_cell BK445.out 3).trans rfl; have hfz41_0 := blk_frozen BK445.out 0; have hfz41_1 := blk_frozen BK445.out 1; have hfz41_2 := blk_frozen BK445.out 2; have hfz41_3 := blk_frozen BK445.out 3) | ((with_reducible refine gate_callee (f := 76) rfl ?_); refine goesL_ (some 23) rfl rfl Try.func76 (by kernel_rfl) rfl #[.agg #[.int .i64 ((rd_T110 l0_0 x10_1).f0), .string ((rd_T110 l0_0 x10_1).f1), .slice A444_2 ((rd_T110 l0_0 x10_1).f2).length c444_2, .slice A444_3 ((rd_T110 l0_0 x10_1).f3).length c444_3]] rfl zl ?_; (with_reducible refine (impl_Arg_valid.calls ((rd_T110 l0_0 x10_1).f0) ((rd_T110 l0_0 x10_1).f1) _ _ ((rd_T110 l0_0 x10_1).f2) _ _ ((rd_T110 l0_0 x10_1).f3) false _ ?side1 ?side2 ?side3 ?side4 A23.out).mono ?_); (case side1 => exact Kd.C_below HR444_2.out (zB HB)); (case side2 => exact HC444_2.out); (case side3 => exact Kd.C_below HR444_3.out (zB HB)); (case side4 => exact HC444_3.out); rintro e w42 ⟨rfl, hb⟩; refine ⟨_, rfl, ?_⟩; replace BK443 := Aside0.mk (blk_below (g := gb443) (o := .cells #[.slice (some ad444) l0_0.length c0_0] 48 (0, 0)) (zf BK443) hb); replace BK445 := Aside0.mk (blk_below (g := gb445) (o := .cells #[.int .i64 ((rd_T110 l0_0 x10_1).f0), .string ((rd_T110 l0_0 x10_1).f1), .slice A444_2 ((rd_T110 l0_0 x10_1).f2).length c444_2, .slice A444_3 ((rd_T110 l0_0 x10_1).f3).length c444_3] 110 (0, 0)) (by (with_reducible repeat (first | refine blk_drewN ?_ _ | refine blk_drew ?_ | refine blk_alloc ?_ _)); refine blk_put (cs := #[.int .i64 ((rd_T110 l0_0 x10_1).f0), .string ((rd_T110 l0_0 x10_1).f1), .slice A444_2 ((rd_T110 l0_0 x10_1).f2).length c444_2, .slice none 0 0]) ?_ 3 _ rfl; (with_reducible repeat (first | refine blk_drewN ?_ _ | refine blk_drew ?_ | refine blk_alloc ?_ _)); refine blk_put (cs := #[.int .i64 ((rd_T110 l0_0 x10_1).f0), .string ((rd_T110 l0_0 x10_1).f1), .slice none 0 0, .slice none 0 0]) ?_ 2 _ rfl; (with_reducible repeat (first | refine blk_drewN ?_ _ | refine blk_drew ?_ | refine blk_alloc ?_ _)); refine blk_put (cs := #[.int .i64 ((rd_T110 l0_0 x10_1).f0), .string (⟨#[]⟩ : ByteArray), .slice none 0 0, .slice none 0 0]) ?_ 1 _ rfl; (with_reducible repeat (first | refine blk_drewN ?_ _ | refine blk_drew ?_ | refine blk_alloc ?_ _)); refine blk_put (cs := #[.int .i64 0, .string (⟨#[]⟩ : ByteArray), .slice none 0 0, .slice none 0 0]) ?_ 0 _ rfl; (with_reducible repeat (first | refine blk_drewN ?_ _ | refine blk_drew ?_ | refine blk_alloc ?_ _)); exact BK445.out) hb); replace HB := Aside0.mk (below_step (zB HB) hb); (try clear hb); (try clear hb2); (try clear hk); (try clear hi))); go_ret; exact ⟨by first | rfl | (simp [errW_none, errW_some] <;> rfl) | (simp [*, errW_none, errW_some] <;> rfl), zB HB⟩
     ·rw [if_neg c6] at H; exact absurd H (by simp)
    ·rw [if_neg c5] at H; exact absurd H (by simp)
   ·rw [if_neg c4] at H; have c4b0 : decide (x10_1 < (l0_0.length : Int)) = false := decide_eq_false c4; clear c4; obtain rfl := Option.some.inj H; have hcz43_0 : wr.cell? ⟨gb443, 0, none⟩ = some (.slice A0_0 l0_0.length c0_0) := (blk_cell BK443.out 0).trans rfl; have hfz43_0 := blk_frozen BK443.out 0; go_wp2; go_ret; exact ⟨by first | rfl | (simp [errW_none, errW_some] <;> rfl) | (simp [*, errW_none, errW_some] <;> rfl), zB HB⟩

end Go.Proofs.Ytkandhljbbolnaa.Q

namespace Go.Proofs.Ytkandhljbbolnaa.Q
open Go.RowKit Go.Proofs.YtkandhljbbolnaaL.PrintWords Go.Proofs.YtkandhljbbolnaaL.PrintLast Go.Proofs.YtkandhljbbolnaaL.PrintMore
attribute [local go_sem] max2_int min2_int max_two min_two max_three min_three max_four min_four   -- for this text's walks alone
set_option linter.unusedVariables false
set_option linter.unusedSimpArgs false

/-! ### spec_validNumbers: function 110 -/
def spec_validNumbers.l0 : Nat → List Int → Int → Option (Bool)
 | 0, _, _ => none
 | k + 1, x0, x3 => if x3 < (x0.length : Int) then (if 0 ≤ x3 then ((spec_validNumber.f (rd x0 x3)).bind fun t110 => (if t110 = true then (spec_validNumbers.l0 k x0 (wrap64 (x3 + 1))) else (some false))) else (none)) else (some true)
def spec_validNumbers.f (k : Nat) (l0 : List Int) : Option (Bool) := spec_validNumbers.l0 k l0 0
theorem spec_validNumbers.mono_l : ∀ k, (∀ y0 y1, LeO (spec_validNumbers.l0 k y0 y1) (spec_validNumbers.l0 (k + 1) y0 y1))
 | 0 => fun _ _ r h => by simp [spec_validNumbers.l0] at h
 | k + 1 => by
  have ih0 := spec_validNumbers.mono_l k
  ·intro y0 y1; unfold spec_validNumbers.l0
   repeat' first
   | (with_reducible exact ih0 _ _)
   | (with_reducible exact LeO.refl _)
   | (with_reducible exact LeO.none _)
   | (with_reducible refine LeO.ite ?_ ?_)
   | (with_reducible refine LeO.bind ?_ (fun _ => ?_))
   | exact ih0 _ _
   | exact LeO.none _
   | refine LeO.ite ?_ ?_
   | refine LeO.bind ?_ (fun _ => ?_)
theorem spec_validNumbers.mono : ∀ a0 k, LeO (spec_validNumbers.f k a0) (spec_validNumbers.f (k + 1) a0) := by
 intro a0 k; have ih0 := spec_validNumbers.mono_l k; unfold spec_validNumbers.f
 repeat' first
   | (with_reducible exact ih0 _ _)
   | (with_reducible exact LeO.refl _)
   | (with_reducible exact LeO.none _)
   | (with_reducible refine LeO.ite ?_ ?_)
   | (with_reducible refine LeO.bind ?_ (fun _ => ?_))
   | exact ih0 _ _
   | exact LeO.none _
   | refine LeO.ite ?_ ?_
   | refine LeO.bind ?_ (fun _ => ?_)
set_option maxHeartbeats 8000000 in
set_option maxRecDepth 100000 in
theorem spec_validNumbers.calls (k : Nat) (A0 : Option Addr) (c0 : Nat) (l0 : List Int) (r : Bool) (w : World) (hr0 : Kd.C (Kd.int .i64) w A0 l0.length l0) (hc0 : l0.length ≤ c0) (h : spec_validNumbers.f k l0 = some r) :
  Calls Try.prog 110 #[.slice A0 l0.length c0] w fun e w' => e = .returned (.bool r) ∧ Drawn0 w w' := by
 have HR0 := Aside0.mk hr0; have HC0 := Aside0.mk hc0; clear hr0 hc0; have H : (spec_validNumbers.l0 k l0 0) = some r := h; clear h; have H' := Aside0.mk H; clear H; go_enter Try.func110, Try.ntmps110; go_wp2; go_loopg [3] k (fun kq v3 w' => ∃ (x3_1 : Int), v3 = .int .i64 x3_1 ∧ Aside0 (spec_validNumbers.l0 kq l0 x3_1 = some r) ∧ Aside0 (kq ≤ k) ∧ Drawn0 w w')
 case atStart => exact ⟨(0), zr, H', ⟨Nat.le_refl _⟩, by repeat (first | exact Drawn0.refl _ | apply Drawn0.step)⟩
 case round =>
  clear H'; (try clear c1); obtain ⟨x3_1, rfl, HA, HK1, ⟨m1, rfl⟩⟩ := hrel
  cases gk with
  | zero => exact absurd HA.out (by simp [spec_validNumbers.l0])
  | succ k1 =>
   have H := HA.out; clear HA; simp only [spec_validNumbers.l0] at H
   by_cases c2 : x3_1 < (l0.length : Int)
   ·rw [if_pos c2] at H; have c2b0 : decide (x3_1 < (l0.length : Int)) = true := decide_eq_true c2; clear c2
    by_cases c3 : 0 ≤ x3_1
    ·rw [if_pos c3] at H; have c3b0 : decide (0 ≤ x3_1) = true := decide_eq_true c3; clear c3; replace H := Option.bind_eq_some_iff.mp H; obtain ⟨t110, A40, H⟩ := H
     (try dsimp only at H)
     have A4 := Aside0.mk A40; clear A40
     by_cases c5 : t110 = true
     ·subst c5; rw [if_pos rfl] at H; have H' := Aside0.mk H; clear H; have p109 : 0 ≤ (x3_1 : Int) := of_decide_eq_true za; have q109 : x3_1 < (l0.length : Int) := of_decide_eq_true za; obtain ⟨ad109, e109, hx109_0⟩ := Kd.at_int HR0.out x3_1 p109 q109
      cases e109
      replace p109 := eq_true p109; replace q109 := eq_true q109; go_wp2_with (first | ((with_reducible refine gate_callee (f := 119) rfl ?_); refine goesL_ (some 14) rfl rfl Try.func119 (by kernel_rfl) rfl #[.int .i64 (rd l0 x3_1)] rfl zl ?_; (with_reducible refine (spec_validNumber.calls (rd l0 x3_1) true _ A4.out).mono ?_); rintro e w' ⟨rfl, ⟨nd, rfl⟩⟩; refine ⟨_, rfl, ?_⟩)); go_roundg k1
      case measure => have := HK1.out; omega
      case rel => exact ⟨(wrap64 (x3_1 + 1)), zr, H', ⟨by have := HK1.out; omega⟩, by repeat (first | exact Drawn0.refl _ | apply Drawn0.step)⟩
     ·replace c5 := Bool.eq_false_iff.mpr c5; subst c5; rw [if_neg (show ¬ (false = true) by decide)] at H; obtain rfl := Option.some.inj H; have p109 : 0 ≤ (x3_1 : Int) := of_decide_eq_true za; have q109 : x3_1 < (l0.length : Int) := of_decide_eq_true za; obtain ⟨ad109, e109, hx109_0⟩ := Kd.at_int HR0.out x3_1 p109 q109
      cases e109
      replace p109 := eq_true p109; replace q109 := eq_true q109; go_wp2_with (first | ((with_reducible refine gate_callee (f := 119) rfl ?_); refine goesL_ (some 14) rfl rfl Try.func119 (by kernel_rfl) rfl #[.int .i64 (rd l0 x3_1)] rfl zl ?_; (with_reducible refine (spec_validNumber.calls (rd l0 x3_1) false _ A4.out).mono ?_); rintro e w' ⟨rfl, ⟨nd, rfl⟩⟩; refine ⟨_, rfl, ?_⟩)); go_ret; exact ⟨by first | rfl | (simp; done) | (simp [*]; done), by repeat (first | exact Drawn0.refl _ | apply Drawn0.step)⟩
    ·rw [if_neg c3] at H; exact absurd H (by simp)
   ·rw [if_neg c2] at H; have c2b0 : decide (x3_1 < (l0.length : Int)) = false := decide_eq_false c2; clear c2; obtain rfl := Option.some.inj H; go_wp2; go_ret; exact ⟨by first | rfl | (simp; done) | (simp [*]; done), by repeat (first | exact Drawn0.refl _ | apply Drawn0.step)⟩

/-! ### spec_validName: function 138 -/
def spec_validName.l0 : Nat → ByteArray → Int → Option (Bool)
 | 0, _, _ => none
 | k + 1, x0, x3 => if x3 < (x0.size : Int) then (if 0 ≤ x3 then (if (bt x0 x3) < 97 then (some false) else (if (bt x0 x3) > 122 then (some false) else (spec_validName.l0 k x0 (wrap64 (x3 + 1))))) else (none)) else ((spec_inRange.f (x0.size : Int) 1 6).bind fun t111 => (some t111))
def spec_validName.f (k : Nat) (a0 : ByteArray) : Option (Bool) := spec_validName.l0 k a0 0
theorem spec_validName.mono_l : ∀ k, (∀ y0 y1, LeO (spec_validName.l0 k y0 y1) (spec_validName.l0 (k + 1) y0 y1))
 | 0 => fun _ _ r h => by simp [spec_validName.l0] at h
 | k + 1 => by
  have ih0 := spec_validName.mono_l k
  ·intro y0 y1; unfold spec_validName.l0
   repeat' first
   | (with_reducible exact ih0 _ _)
   | (with_reducible exact LeO.refl _)
   | (with_reducible exact LeO.none _)
   | (with_reducible refine LeO.ite ?_ ?_)
   | (with_reducible refine LeO.bind ?_ (fun _ => ?_))
   | exact ih0 _ _
   | exact LeO.none _
   | refine LeO.ite ?_ ?_
   | refine LeO.bind ?_ (fun _ => ?_)
theorem spec_validName.mono : ∀ a0 k, LeO (spec_validName.f k a0) (spec_validName.f (k + 1) a0) := by
 intro a0 k; have ih0 := spec_validName.mono_l k; unfold spec_validName.f
 repeat' first
   | (with_reducible exact ih0 _ _)
   | (with_reducible exact LeO.refl _)
   | (with_reducible exact LeO.none _)
   | (with_reducible refine LeO.ite ?_ ?_)
   | (with_reducible refine LeO.bind ?_ (fun _ => ?_))
   | exact ih0 _ _
   | exact LeO.none _
   | refine LeO.ite ?_ ?_
   | refine LeO.bind ?_ (fun _ => ?_)
set_option maxHeartbeats 8000000 in
set_option maxRecDepth 100000 in
theorem spec_validName.calls (k : Nat) (a0 : ByteArray) (r : Bool) (w : World) (h : spec_validName.f k a0 = some r) :
  Calls Try.prog 138 #[.string a0] w fun e w' => e = .returned (.bool r) ∧ Drawn0 w w' := by
 have H : (spec_validName.l0 k a0 0) = some r := h; clear h; have H' := Aside0.mk H; clear H; go_enter Try.func138, Try.ntmps138; go_wp2; go_loopg [3] k (fun kq v3 w' => ∃ (x3_1 : Int), v3 = .int .i64 x3_1 ∧ Aside0 (spec_validName.l0 kq a0 x3_1 = some r) ∧ Aside0 (kq ≤ k) ∧ Drawn0 w w')
 case atStart => exact ⟨(0), zr, H', ⟨Nat.le_refl _⟩, by repeat (first | exact Drawn0.refl _ | apply Drawn0.step)⟩
 case round =>
  clear H'; (try clear c1); obtain ⟨x3_1, rfl, HA, HK1, ⟨m1, rfl⟩⟩ := hrel
  cases gk with
  | zero => exact absurd HA.out (by simp [spec_validName.l0])
  | succ k1 =>
   have H := HA.out; clear HA; simp only [spec_validName.l0] at H
   by_cases c2 : x3_1 < (a0.size : Int)
   ·rw [if_pos c2] at H; have c2b0 : decide (x3_1 < (a0.size : Int)) = true := decide_eq_true c2; clear c2
    by_cases c3 : 0 ≤ x3_1
    ·rw [if_pos c3] at H; have c3b0 : decide (0 ≤ x3_1) = true := decide_eq_true c3; clear c3
     by_cases c5 : (bt a0 x3_1) < 97
     ·rw [if_pos c5] at H; have c5b0 : decide ((bt a0 x3_1) < 97) = true := decide_eq_true c5; clear c5; obtain rfl := Option.some.inj H; have p4 : 0 ≤ (x3_1 : Int) := of_decide_eq_true za; have q4 : x3_1 < (a0.size : Int) := of_decide_eq_true za; have hx4 := bt_at a0 x3_1; replace p4 := eq_true p4; replace q4 := eq_true q4; go_wp2; go_ret; exact ⟨by first | rfl | (simp; done) | (simp [*]; done), by repeat (first | exact Drawn0.refl _ | apply Drawn0.step)⟩
     ·rw [if_neg c5] at H; have c5b0 : decide ((bt a0 x3_1) < 97) = false := decide_eq_false c5; clear c5
      by_cases c7 : (bt a0 x3_1) > 122
      ·rw [if_pos c7] at H; have c7b0 : decide (122 < (bt a0 x3_1)) = true := decide_eq_true c7; clear c7; obtain rfl := Option.some.inj H; have p4 : 0 ≤ (x3_1 : Int) := of_decide_eq_true za; have q4 : x3_1 < (a0.size : Int) := of_decide_eq_true za; have hx4 := bt_at a0 x3_1; replace p4 := eq_true p4; replace q4 := eq_true q4; have p6 : 0 ≤ (x3_1 : Int) := of_decide_eq_true za; have q6 : x3_1 < (a0.size : Int) := of_decide_eq_true za; have hx6 := bt_at a0 x3_1; replace p6 := eq_true p6; replace q6 := eq_true q6; go_wp2; go_ret; exact ⟨by first | rfl | (simp; done) | (simp [*]; done), by repeat (first | exact Drawn0.refl _ | apply Drawn0.step)⟩
      ·rw [if_neg c7] at H; have c7b0 : decide (122 < (bt a0 x3_1)) = false := decide_eq_false c7; clear c7; have H' := Aside0.mk H; clear H; have p4 : 0 ≤ (x3_1 : Int) := of_decide_eq_true za; have q4 : x3_1 < (a0.size : Int) := of_decide_eq_true za; have hx4 := bt_at a0 x3_1; replace p4 := eq_true p4; replace q4 := eq_true q4; have p6 : 0 ≤ (x3_1 : Int) := of_decide_eq_true za; have q6 : x3_1 < (a0.size : Int) := of_decide_eq_true za; have hx6 := bt_at a0 x3_1; replace p6 := eq_true p6; replace q6 := eq_true q6; go_wp2; go_roundg k1
       case measure => have := HK1.out; omega
       case rel => exact ⟨(wrap64 (x3_1 + 1)), zr, H', ⟨by have := HK1.out; omega⟩, by repeat (first | exact Drawn0.refl _ | apply Drawn0.step)⟩
    ·rw [if_neg c3] at H; exact absurd H (by simp)
   ·rw [if_neg c2] at H; have c2b0 : decide (x3_1 < (a0.size : Int)) = false := decide_eq_false c2; clear c2; replace H := Option.bind_eq_some_iff.mp H; obtain ⟨t111, A80, H⟩ := H
    (try dsimp only at H)
    have A8 := Aside0.mk A80; clear A80; obtain rfl := Option.some.inj H; go_wp2_with (first | ((with_reducible refine gate_callee (f := 139) rfl ?_); refine goesL_ (some 22) rfl rfl Try.func139 (by kernel_rfl) rfl #[.int .i64 (a0.size : Int), .int .i64 1, .int .i64 6] rfl zl ?_; (with_reducible refine (spec_inRange.calls (a0.size : Int) 1 6 t111 _ A8.out).mono ?_); rintro e w' ⟨rfl, ⟨nd, rfl⟩⟩; refine ⟨_, rfl, ?_⟩)); go_ret; exact ⟨by first | rfl | (simp; done) | (simp [*]; done), by repeat (first | exact Drawn0.refl _ | apply Drawn0.step)⟩

end Go.Proofs.Ytkandhljbbolnaa.Q

namespace Go.Proofs.Ytkandhljbbolnaa.Q
open Go.RowKit Go.Proofs.YtkandhljbbolnaaL.PrintWords Go.Proofs.YtkandhljbbolnaaL.PrintLast Go.Proofs.YtkandhljbbolnaaL.PrintMore
attribute [local go_sem] max2_int min2_int max_two min_two max_three min_three max_four min_four   -- for this text's walks alone
set_option linter.unusedVariables false
set_option linter.unusedSimpArgs false

/-! ### spec_validPairs: function 111 -/
def spec_validPairs.l0 : Nat → List (S94) → Int → Option (Bool)
 | 0, _, _ => none
 | k + 1, x0, x3 => if x3 < (x0.length : Int) then (if 0 ≤ x3 then ((spec_validName.f k ((rd_T94 x0 x3).f0)).bind fun t113 => (if t113 = true then ((spec_validNumber.f ((rd_T94 x0 x3).f1)).bind fun t115 => (if t115 = true then (spec_validPairs.l0 k x0 (wrap64 (x3 + 1))) else (some false))) else (some false))) else (none)) else (some true)
def spec_validPairs.f (k : Nat) (l0 : List (S94)) : Option (Bool) := spec_validPairs.l0 k l0 0
theorem spec_validPairs.mono_l : ∀ k, (∀ y0 y1, LeO (spec_validPairs.l0 k y0 y1) (spec_validPairs.l0 (k + 1) y0 y1))
 | 0 => fun _ _ r h => by simp [spec_validPairs.l0] at h
 | k + 1 => by
  have ih0 := spec_validPairs.mono_l k
  ·intro y0 y1; unfold spec_validPairs.l0
   repeat' first
   | (with_reducible exact ih0 _ _)
   | (with_reducible exact spec_validName.mono _ _)
   | (with_reducible exact LeO.refl _)
   | (with_reducible exact LeO.none _)
   | (with_reducible refine LeO.ite ?_ ?_)
   | (with_reducible refine LeO.bind ?_ (fun _ => ?_))
   | exact ih0 _ _
   | exact spec_validName.mono _ _
   | exact LeO.none _
   | refine LeO.ite ?_ ?_
   | refine LeO.bind ?_ (fun _ => ?_)
theorem spec_validPairs.mono : ∀ a0 k, LeO (spec_validPairs.f k a0) (spec_validPairs.f (k + 1) a0) := by
 intro a0 k; have ih0 := spec_validPairs.mono_l k; unfold spec_validPairs.f
 repeat' first
   | (with_reducible exact ih0 _ _)
   | (with_reducible exact spec_validName.mono _ _)
   | (with_reducible exact LeO.refl _)
   | (with_reducible exact LeO.none _)
   | (with_reducible refine LeO.ite ?_ ?_)
   | (with_reducible refine LeO.bind ?_ (fun _ => ?_))
   | exact ih0 _ _
   | exact spec_validName.mono _ _
   | exact LeO.none _
   | refine LeO.ite ?_ ?_
   | refine LeO.bind ?_ (fun _ => ?_)
set_option maxHeartbeats 8000000 in
set_option maxRecDepth 100000 in
theorem spec_validPairs.calls (k : Nat) (A0 : Option Addr) (c0 : Nat) (l0 : List (S94)) (r : Bool) (w : World) (hr0 : Kd.C k94 w A0 l0.length l0) (hc0 : l0.length ≤ c0) (h : spec_validPairs.f k l0 = some r) :
  Calls Try.prog 111 #[.slice A0 l0.length c0] w fun e w' => e = .returned (.bool r) ∧ Drawn0 w w' := by
 have HR0 := Aside0.mk hr0; have HC0 := Aside0.mk hc0; clear hr0 hc0; have H : (spec_validPairs.l0 k l0 0) = some r := h; clear h; have H' := Aside0.mk H; clear H; go_enter Try.func111, Try.ntmps111; go_wp2; go_loopg [3] k (fun kq v3 w' => ∃ (x3_1 : Int), v3 = .int .i64 x3_1 ∧ Aside0 (spec_validPairs.l0 kq l0 x3_1 = some r) ∧ Aside0 (kq ≤ k) ∧ Drawn0 w w')
 case atStart => exact ⟨(0), zr, H', ⟨Nat.le_refl _⟩, by repeat (first | exact Drawn0.refl _ | apply Drawn0.step)⟩
 case round =>
  clear H'; (try clear c1); obtain ⟨x3_1, rfl, HA, HK1, ⟨m1, rfl⟩⟩ := hrel
  cases gk with
  | zero => exact absurd HA.out (by simp [spec_validPairs.l0])
  | succ k1 =>
   have H := HA.out; clear HA; simp only [spec_validPairs.l0] at H
   by_cases c2 : x3_1 < (l0.length : Int)
   ·rw [if_pos c2] at H; have c2b0 : decide (x3_1 < (l0.length : Int)) = true := decide_eq_true c2; clear c2
    by_cases c3 : 0 ≤ x3_1
    ·rw [if_pos c3] at H; have c3b0 : decide (0 ≤ x3_1) = true := decide_eq_true c3; clear c3; replace H := Option.bind_eq_some_iff.mp H; obtain ⟨t113, A40, H⟩ := H
     (try dsimp only at H)
     have A4 := Aside0.mk A40; clear A40
     by_cases c5 : t113 = true
     ·subst c5; rw [if_pos rfl] at H; replace H := Option.bind_eq_some_iff.mp H; obtain ⟨t115, A60, H⟩ := H
      (try dsimp only at H)
      have A6 := Aside0.mk A60; clear A60
      by_cases c7 : t115 = true
      ·subst c7; rw [if_pos rfl] at H; have H' := Aside0.mk H; clear H; have p112 : 0 ≤ (x3_1 : Int) := of_decide_eq_true za; have q112 : x3_1 < (l0.length : Int) := of_decide_eq_true za; obtain ⟨ad112, e112, hx112_0, hx112_1⟩ := at_T94 HR0.out x3_1 p112 q112
       cases e112
       replace p112 := eq_true p112; replace q112 := eq_true q112; go_wp2_with (first | ((with_reducible refine gate_callee (f := 138) rfl ?_); refine goesL_ (some 15) rfl rfl Try.func138 (by kernel_rfl) rfl #[.string ((rd_T94 l0 x3_1).f0)] rfl zl ?_; (with_reducible refine (spec_validName.calls k1 ((rd_T94 l0 x3_1).f0) true _ A4.out).mono ?_); rintro e w' ⟨rfl, ⟨nd, rfl⟩⟩; refine ⟨_, rfl, ?_⟩; have p114 : 0 ≤ (x3_1 : Int) := of_decide_eq_true za; have q114 : x3_1 < (l0.length : Int) := of_decide_eq_true za; obtain ⟨ad114, e114, hx114_0, hx114_1⟩ := at_T94 HR0.out x3_1 p114 q114; obtain rfl : ad112 = ad114 := (by injection e114); replace p114 := eq_true p114; replace q114 := eq_true q114) | (go_at_call 119; (with_reducible refine (spec_validNumber.calls ((rd_T94 l0 x3_1).f1) true _ A6.out).mono ?_); rintro e w' ⟨rfl, ⟨nd, rfl⟩⟩)); go_roundg k1
       case measure => have := HK1.out; omega
       case rel => exact ⟨(wrap64 (x3_1 + 1)), zr, H', ⟨by have := HK1.out; omega⟩, by repeat (first | exact Drawn0.refl _ | apply Drawn0.step)⟩
      ·replace c7 := Bool.eq_false_iff.mpr c7; subst c7; rw [if_neg (show ¬ (false = true) by decide)] at H; obtain rfl := Option.some.inj H; have p112 : 0 ≤ (x3_1 : Int) := of_decide_eq_true za; have q112 : x3_1 < (l0.length : Int) := of_decide_eq_true za; obtain ⟨ad112, e112, hx112_0, hx112_1⟩ := at_T94 HR0.out x3_1 p112 q112
       cases e112
       replace p112 := eq_true p112; replace q112 := eq_true q112; go_wp2_with (first | ((with_reducible refine gate_callee (f := 138) rfl ?_); refine goesL_ (some 15) rfl rfl Try.func138 (by kernel_rfl) rfl #[.string ((rd_T94 l0 x3_1).f0)] rfl zl ?_; (with_reducible refine (spec_validName.calls k1 ((rd_T94 l0 x3_1).f0) true _ A4.out).mono ?_); rintro e w' ⟨rfl, ⟨nd, rfl⟩⟩; refine ⟨_, rfl, ?_⟩; have p114 : 0 ≤ (x3_1 : Int) := of_decide_eq_true za; have q114 : x3_1 < (l0.length : Int) := of_decide_eq_true za; obtain ⟨ad114, e114, hx114_0, hx114_1⟩ := at_T94 HR0.out x3_1 p114 q114; obtain rfl : ad112 = ad114 := (by injection e114); replace p114 := eq_true p114; replace q114 := eq_true q114) | (go_at_call 119; (with_reducible refine (spec_validNumber.calls ((rd_T94 l0 x3_1).f1) false _ A6.out).mono ?_); rintro e w' ⟨rfl, ⟨nd, rfl⟩⟩)); go_ret; exact ⟨by first | rfl | (simp; done) | (simp [*]; done), by repeat (first | exact Drawn0.refl _ | apply Drawn0.step)⟩
     ·replace c5 := Bool.eq_false_iff.mpr c5; subst c5; rw [if_neg (show ¬ (false = true) by decide)] at H; obtain rfl := Option.some.inj H; have p112 : 0 ≤ (x3_1 : Int) := of_decide_eq_true za; have q112 : x3_1 < (l0.length : Int) := of_decide_eq_true za; obtain ⟨ad112, e112, hx112_0, hx112_1⟩ := at_T94 HR0.out x3_1 p112 q112
      cases e112
      replace p112 := eq_true p112; replace q112 := eq_true q112; go_wp2_with (first | ((with_reducible refine gate_callee (f := 138) rfl ?_); refine goesL_ (some 15) rfl rfl Try.func138 (by kernel_rfl) rfl #[.string ((rd_T94 l0 x3_1).f0)] rfl zl ?_; (with_reducible refine (spec_validName.calls k1 ((rd_T94 l0 x3_1).f0) false _ A4.out).mono ?_); rintro e w' ⟨rfl, ⟨nd, rfl⟩⟩; refine ⟨_, rfl, ?_⟩)); go_ret; exact ⟨by first | rfl | (simp; done) | (simp [*]; done), by repeat (first | exact Drawn0.refl _ | apply Drawn0.step)⟩
    ·rw [if_neg c3] at H; exact absurd H (by simp)
   ·rw [if_neg c2] at H; have c2b0 : decide (x3_1 < (l0.length : Int)) = false := decide_eq_false c2; clear c2; obtain rfl := Option.some.inj H; go_wp2; go_ret; exact ⟨by first | rfl | (simp; done) | (simp [*]; done), by repeat (first | exact Drawn0.refl _ | apply Drawn0.step)⟩

end Go.Proofs.Ytkandhljbbolnaa.Q
