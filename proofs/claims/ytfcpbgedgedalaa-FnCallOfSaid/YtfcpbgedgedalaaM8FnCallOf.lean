-- written by px.py and merge.py (programs of this claim's), over the kit's print. Not trusted: Lean checks it.
import Derived.Test.YtfcpbgedgedalaaQ0
import Derived.Test.YtfcpbgedgedalaaM0FnCallOf
import Derived.Test.YtfcpbgedgedalaaM1FnCallOf
import Derived.Test.YtfcpbgedgedalaaM2FnCallOf
import Derived.Test.YtfcpbgedgedalaaM3FnCallOf
import Derived.Test.YtfcpbgedgedalaaM5FnCallOf
import Derived.Test.YtfcpbgedgedalaaM6FnCallOf
import Derived.Test.YtfcpbgedgedalaaM7FnCallOf
namespace Go.Proofs.Ytfcpbgedgedalaa.Q
open Go.RowKit Go.Proofs.YtfcpbgedgedalaaL.PrintWords Go.Proofs.YtfcpbgedgedalaaL.PrintLast Go.Proofs.YtfcpbgedgedalaaL.PrintMore
attribute [local go_sem] max2_int min2_int max_two min_two max_three min_three max_four min_four   -- for this text's walks alone
set_option linter.unusedVariables false
set_option linter.unusedSimpArgs false

/-! ### laws_FnCallOf: function 6 -/
def laws_FnCallOf.j0 : Nat → Bool → List Int → List (S33) → List (S89) → Option (Bool)
 | 0, _, _, _, _ => none
 | k + 1, x23, x609000, x609001, x613000 => if x23 = true then ((spec_CallOf.f k x609000 x609001).bind fun t618 => ((laws_equalCall.f k x613000 t618).bind fun t621 => (some t621))) else ((impl_FlattenCall.f k x613000).bind fun bt622 => (if bt622.2.2 = true then ((laws_equalFlat.f k bt622.1 bt622.2.1 x609000 x609001).bind fun t630 => (if t630 = true then ((laws_size.f x609000 x609001).bind fun t631 => (if (x613000.length : Int) = t631 then ((impl_ValidCall.f k x613000).bind fun t632 => (some t632)) else (some false))) else (some false))) else (some false)))
def laws_FnCallOf.f (k : Nat) (l0 : List Int) : Option (Bool) := if (l0.length : Int) > 1048576 then (some true) else ((spec_DrawCallOf.f k l0).bind fun bt602 => ((impl_CallOf.f k bt602.1 bt602.2).bind fun t609 => ((spec_CallOf.f k bt602.1 bt602.2).bind fun t613 => ((laws_equalCall.f k t609 t613).bind fun t616 => (if t616 = true then ((impl_ValidFlat.f k bt602.1 bt602.2).bind fun t617 => (laws_FnCallOf.j0 k (!t617) bt602.1 bt602.2 t609)) else (laws_FnCallOf.j0 k true bt602.1 bt602.2 t609))))))
theorem laws_FnCallOf.mono_l : ∀ k, (∀ y0 y1 y2 y3, LeO (laws_FnCallOf.j0 k y0 y1 y2 y3) (laws_FnCallOf.j0 (k + 1) y0 y1 y2 y3))
 | 0 => fun _ _ _ _ r h => by simp [laws_FnCallOf.j0] at h
 | k + 1 => by
  have ih0 := laws_FnCallOf.mono_l k
  ·intro y0 y1 y2 y3; unfold laws_FnCallOf.j0
   repeat' first
   | (with_reducible exact ih0 _ _ _ _)
   | (with_reducible exact impl_CallOf.mono _ _ _)
   | (with_reducible exact impl_FlattenCall.mono _ _)
   | (with_reducible exact impl_ValidCall.mono _ _)
   | (with_reducible exact impl_ValidFlat.mono _ _ _)
   | (with_reducible exact laws_equalCall.mono _ _ _)
   | (with_reducible exact laws_equalFlat.mono _ _ _ _ _)
   | (with_reducible exact spec_CallOf.mono _ _ _)
   | (with_reducible exact spec_DrawCallOf.mono _ _)
   | (with_reducible exact LeO.refl _)
   | (with_reducible exact LeO.none _)
   | (with_reducible refine LeO.ite ?_ ?_)
   | (with_reducible refine LeO.bind ?_ (fun _ => ?_))
   | exact ih0 _ _ _ _
   | exact impl_CallOf.mono _ _ _
   | exact impl_FlattenCall.mono _ _
   | exact impl_ValidCall.mono _ _
   | exact impl_ValidFlat.mono _ _ _
   | exact laws_equalCall.mono _ _ _
   | exact laws_equalFlat.mono _ _ _ _ _
   | exact spec_CallOf.mono _ _ _
   | exact spec_DrawCallOf.mono _ _
   | exact LeO.none _
   | refine LeO.ite ?_ ?_
   | refine LeO.bind ?_ (fun _ => ?_)
theorem laws_FnCallOf.mono : ∀ a0 k, LeO (laws_FnCallOf.f k a0) (laws_FnCallOf.f (k + 1) a0) := by
 intro a0 k; have ih0 := laws_FnCallOf.mono_l k; unfold laws_FnCallOf.f
 repeat' first
   | (with_reducible exact ih0 _ _ _ _)
   | (with_reducible exact impl_CallOf.mono _ _ _)
   | (with_reducible exact impl_FlattenCall.mono _ _)
   | (with_reducible exact impl_ValidCall.mono _ _)
   | (with_reducible exact impl_ValidFlat.mono _ _ _)
   | (with_reducible exact laws_equalCall.mono _ _ _)
   | (with_reducible exact laws_equalFlat.mono _ _ _ _ _)
   | (with_reducible exact spec_CallOf.mono _ _ _)
   | (with_reducible exact spec_DrawCallOf.mono _ _)
   | (with_reducible exact LeO.refl _)
   | (with_reducible exact LeO.none _)
   | (with_reducible refine LeO.ite ?_ ?_)
   | (with_reducible refine LeO.bind ?_ (fun _ => ?_))
   | exact ih0 _ _ _ _
   | exact impl_CallOf.mono _ _ _
   | exact impl_FlattenCall.mono _ _
   | exact impl_ValidCall.mono _ _
   | exact impl_ValidFlat.mono _ _ _
   | exact laws_equalCall.mono _ _ _
   | exact laws_equalFlat.mono _ _ _ _ _
   | exact spec_CallOf.mono _ _ _
   | exact spec_DrawCallOf.mono _ _
   | exact LeO.none _
   | refine LeO.ite ?_ ?_
   | refine LeO.bind ?_ (fun _ => ?_)
def laws_FnCallOf.T5 : Bool × List (List Nat × List Nat) := (true, [([], []), ([], []), ([1], [1]), ([0, 2, 2], [0, 2]), ([3], [3]), ([4, 3], [4]), ([5], [5]), ([6, 5, 5], [5, 6]), ([7, 5], [5, 7]), ([5, 8], [5, 8])])
def laws_FnCallOf.B5 : List Nat := [0, 0, 2, 7, 15, 31, 63, 127, 255, 511]
theorem laws_FnCallOf.tab5 : rtab .any (opsOf Try.f6 5) = laws_FnCallOf.T5 := by kernel_rfl
theorem laws_FnCallOf.bits5 : waitsOk laws_FnCallOf.T5.2 laws_FnCallOf.B5 = true := by kernel_rfl
def laws_FnCallOf.T8 : Bool × List (List Nat × List Nat) := (true, [([], []), ([0], [0]), ([1], [1]), ([1], [1]), ([2, 3, 1, 1], [1, 2, 3]), ([1, 4], [1, 4]), ([5, 4], [5]), ([6], [6]), ([7, 6], [6, 7]), ([8, 6], [6, 8]), ([6], [6]), ([10, 6, 6], [6, 10]), ([9, 11, 6], [6, 9, 11]), ([6, 12], [6, 12]), ([13, 11], [13]), ([14], [14]), ([15, 14, 14], [14, 15]), ([14, 16], [14, 16]), ([17, 16, 0, 1, 2, 3, 4, 5, 6, 7, 8, 9, 10, 11, 12, 13, 14, 15, 16, 17], [17])])
def laws_FnCallOf.B8 : List Nat := [0, 1, 3, 3, 15, 31, 63, 127, 255, 511, 127, 1151, 4095, 8191, 16383, 32767, 65535, 131071, 262143]
theorem laws_FnCallOf.tab8 : rtab .any (opsOf Try.f6 8) = laws_FnCallOf.T8 := by kernel_rfl
theorem laws_FnCallOf.bits8 : waitsOk laws_FnCallOf.T8.2 laws_FnCallOf.B8 = true := by kernel_rfl
set_option maxHeartbeats 8000000 in
set_option maxRecDepth 100000 in
theorem laws_FnCallOf.calls (k : Nat) (A0 : Option Addr) (c0 : Nat) (l0 : List Int) (r : Bool) (w : World) (hr0 : Kd.C (Kd.int .u8) w A0 l0.length l0) (hc0 : l0.length ≤ c0) (h : laws_FnCallOf.f k l0 = some r) (hr_ : r = true) :
  Calls Try.prog 6 #[.slice A0 l0.length c0] w fun e w' => e = .returned (.bool r) ∧ Below w.heap.size w w' := by
 have hu26 := Try.underlying26; have hu40 := Try.underlying40; have HR_ := Aside0.mk hr_; clear hr_; have HR0 := Aside0.mk hr0; have HC0 := Aside0.mk hc0; clear hr0 hc0; have HB := Aside0.mk (Below.refl w.heap.size w); have H : (if (l0.length : Int) > 1048576 then (some true) else ((spec_DrawCallOf.f k l0).bind fun bt602 => ((impl_CallOf.f k bt602.1 bt602.2).bind fun t609 => ((spec_CallOf.f k bt602.1 bt602.2).bind fun t613 => ((laws_equalCall.f k t609 t613).bind fun t616 => (if t616 = true then ((impl_ValidFlat.f k bt602.1 bt602.2).bind fun t617 => (laws_FnCallOf.j0 k (!t617) bt602.1 bt602.2 t609)) else (laws_FnCallOf.j0 k true bt602.1 bt602.2 t609))))))) = some r := h; clear h
 by_cases c2 : (l0.length : Int) > 1048576
 ·rw [if_pos c2] at H; have c2b0 : decide (1048576 < (l0.length : Int)) = true := decide_eq_true c2; have c2b1 : decide (1048576 < l0.length) = true := decide_eq_true (by omega); clear c2; obtain rfl := Option.some.inj H; go_enter Try.func6, Try.ntmps6; go_wp2; go_ret; exact ⟨by first | rfl | (simp [errW_none, errW_some] <;> rfl) | (simp [*, errW_none, errW_some] <;> rfl), zB HB⟩
 ·rw [if_neg c2] at H; have c2b0 : decide (1048576 < (l0.length : Int)) = false := decide_eq_false c2; have c2b1 : decide (1048576 < l0.length) = false := decide_eq_false (by omega); clear c2; replace H := Option.bind_eq_some_iff.mp H; obtain ⟨⟨t602, t605⟩, A30, H⟩ := H
  (try dsimp only at H)
  have A3 := Aside0.mk A30; clear A30; replace H := Option.bind_eq_some_iff.mp H; obtain ⟨t609, A40, H⟩ := H
  (try dsimp only at H)
  have A4 := Aside0.mk A40; clear A40; have HC5 := Aside0.mk H; clear H; go_enter Try.func6, Try.ntmps6; go_upto_region 5 with (first | ((with_reducible refine gate_callee (f := 25) rfl ?_); refine goesL_ (some 11) rfl rfl Try.func25 (by kernel_rfl) rfl #[.slice A0 l0.length c0] rfl zl ?_; (with_reducible refine (spec_DrawCallOf.calls k _ _ l0 t602 t605 _ ?side1 ?side2 A3.out).mono ?_); (case side1 => repeat (first | exact HR0.out | (with_reducible refine Kd.C_alloc ?_ _) | (with_reducible refine Kd.C_drewN ?_ _) | (with_reducible refine Kd.C_drew ?_))); (case side2 => exact HC0.out); rintro e w6 ⟨v603, v606, rfl, ho0, ho1, hb⟩; refine ⟨_, rfl, ?_⟩; have HO604 := Aside0.mk (Kd.R_lower ho0 (below_size (zB HB))); have HO607 := Aside0.mk (Kd.R_lower ho1 (below_size (zB HB))); replace HB := Aside0.mk (below_step (zB HB) hb); (try clear hb); (try clear hb2); (try clear hk); (try clear hi); (try clear ho0); (try clear ho1)) | ((with_reducible refine gate_dst (N := 3) rfl ?_); refine zx (N := 3) (cs := #[.slice none 0 0, .slice none 0 0]) (t := 26) ?_; intro gb608 hg w7 hbox hb; replace HO604 := Aside0.mk (Kd.R_below (zo HO604) hb); replace HO607 := Aside0.mk (Kd.R_below (zo HO607) hb); have BK608 := Aside0.mk (hbox); have GW608 := Aside0.mk ((by rw [hg]; exact (below_size (zB HB)) : w.heap.size ≤ gb608)); have GE608 := GW608; replace HB := Aside0.mk (below_step (zB HB) hb); clear hb hbox hg; obtain ⟨Ao8, co8, eo8⟩ := Kd.R_slice HO604.out; subst eo8; have hcz9_0 : w7.cell? ⟨gb608, 0, none⟩ = some (.slice none 0 0) := (blk_cell BK608.out 0).trans rfl; have hcz9_1 : w7.cell? ⟨gb608, 1, none⟩ = some (.slice none 0 0) := (blk_cell BK608.out 1).trans rfl; have hfz9_0 := blk_frozen BK608.out 0; have hfz9_1 := blk_frozen BK608.out 1; obtain ⟨Ao10, co10, eo10⟩ := Kd.R_slice HO607.out; subst eo10) | ((with_reducible refine gate_callee (f := 26) rfl ?_); refine goesL_ (some 13) rfl rfl Try.func26 (by kernel_rfl) rfl #[.agg #[.slice Ao8 t602.length co8, .slice Ao10 t605.length co10]] rfl zl ?_; (with_reducible refine (impl_CallOf.calls k _ _ t602 _ _ t605 t609 _ ?side1 ?side2 ?side3 ?side4 A4.out).mono ?_); (case side1 => refine (Kd.R_reads' (e := 3) (base := w.heap.size) (ok := fun k_ => True) (n := t602.length) (c := co8) ?_).2.2; exact (by (with_reducible repeat (first | apply Kd.R_alloc | apply Kd.R_drewN | apply Kd.R_drew)); exact (Kd.R_mono (Kd.R_far (p := ⟨gb608, 1, none⟩) (Kd.R_far (p := ⟨gb608, 0, none⟩) (Kd.R_types HO604.out BK608.out (by decide)) (fun _ hk => hk.2) (.slice Ao8 t602.length co8)) (fun _ hk => hk.2) (.slice Ao10 t605.length co10)) (fun _ h_ => h_.1)))); (case side2 => exact (Kd.R_reads' HO604.out).2.1); (case side3 => refine (Kd.R_reads' (e := 33) (base := w.heap.size) (ok := fun k_ => True) (n := t605.length) (c := co10) ?_).2.2; exact (by (with_reducible repeat (first | apply Kd.R_alloc | apply Kd.R_drewN | apply Kd.R_drew)); exact (Kd.R_mono (Kd.R_far (p := ⟨gb608, 1, none⟩) (Kd.R_far (p := ⟨gb608, 0, none⟩) (Kd.R_types HO607.out BK608.out (by decide)) (fun _ hk => hk.2) (.slice Ao8 t602.length co8)) (fun _ hk => hk.2) (.slice Ao10 t605.length co10)) (fun _ h_ => h_.1)))); (case side4 => exact (Kd.R_reads' HO607.out).2.1); rintro e w11 ⟨v610, rfl, ho0, hb⟩; refine ⟨_, rfl, ?_⟩; have HO611 := Aside0.mk (Kd.S_lower (Kd.S_new' (Kd.S_new' ho0 (Kd.R_lt (by (with_reducible repeat (first | apply Kd.R_alloc | apply Kd.R_drewN | apply Kd.R_drew)); exact (Kd.R_mono (Kd.R_far (p := ⟨gb608, 1, none⟩) (Kd.R_far (p := ⟨gb608, 0, none⟩) (Kd.R_types HO604.out BK608.out (by decide)) (fun _ hk => hk.2) (.slice Ao8 t602.length co8)) (fun _ hk => hk.2) (.slice Ao10 t605.length co10)) (fun _ h_ => h_.1))))) (Kd.R_lt (by (with_reducible repeat (first | apply Kd.R_alloc | apply Kd.R_drewN | apply Kd.R_drew)); exact (Kd.R_mono (Kd.R_far (p := ⟨gb608, 1, none⟩) (Kd.R_far (p := ⟨gb608, 0, none⟩) (Kd.R_types HO607.out BK608.out (by decide)) (fun _ hk => hk.2) (.slice Ao8 t602.length co8)) (fun _ hk => hk.2) (.slice Ao10 t605.length co10)) (fun _ h_ => h_.1))))) (below_size (zB HB))); replace HO604 := Aside0.mk (Kd.R_below (by (with_reducible repeat (first | apply Kd.R_alloc | apply Kd.R_drewN | apply Kd.R_drew)); exact (Kd.R_mono (Kd.R_far (p := ⟨gb608, 1, none⟩) (Kd.R_far (p := ⟨gb608, 0, none⟩) (Kd.R_types HO604.out BK608.out (by decide)) (fun _ hk => hk.2) (.slice Ao8 t602.length co8)) (fun _ hk => hk.2) (.slice Ao10 t605.length co10)) (fun _ h_ => h_.1))) hb); replace HO607 := Aside0.mk (Kd.R_below (by (with_reducible repeat (first | apply Kd.R_alloc | apply Kd.R_drewN | apply Kd.R_drew)); exact (Kd.R_mono (Kd.R_far (p := ⟨gb608, 1, none⟩) (Kd.R_far (p := ⟨gb608, 0, none⟩) (Kd.R_types HO607.out BK608.out (by decide)) (fun _ hk => hk.2) (.slice Ao8 t602.length co8)) (fun _ hk => hk.2) (.slice Ao10 t605.length co10)) (fun _ h_ => h_.1))) hb); replace BK608 := Aside0.mk (blk_below (g := gb608) (o := .cells #[.slice Ao8 t602.length co8, .slice Ao10 t605.length co10] 26 (0, 0)) (by (with_reducible repeat (first | refine blk_drewN ?_ _ | refine blk_drew ?_ | refine blk_alloc ?_ _)); refine blk_put (cs := #[.slice Ao8 t602.length co8, .slice none 0 0]) ?_ 1 _ rfl; (with_reducible repeat (first | refine blk_drewN ?_ _ | refine blk_drew ?_ | refine blk_alloc ?_ _)); refine blk_put (cs := #[.slice none 0 0, .slice none 0 0]) ?_ 0 _ rfl; (with_reducible repeat (first | refine blk_drewN ?_ _ | refine blk_drew ?_ | refine blk_alloc ?_ _)); exact BK608.out) hb); replace HB := Aside0.mk (below_step (zB HB) hb); (try clear hb); (try clear hb2); (try clear hk); (try clear hi); (try clear ho0)) | ((with_reducible refine gate_dst (N := 4) rfl ?_); refine zx (N := 4) (cs := #[.slice none 0 0]) (t := 40) ?_; intro gb612 hg w12 hbox hb; replace HO604 := Aside0.mk (Kd.R_below (zo HO604) hb); replace HO607 := Aside0.mk (Kd.R_below (zo HO607) hb); replace HO611 := Aside0.mk (Kd.S_below (zoS HO611) hb); have BK612 := Aside0.mk (hbox); have GW612 := Aside0.mk ((by rw [hg]; exact (below_size (zB HB)) : w.heap.size ≤ gb612)); have GE612 := GW612; replace HB := Aside0.mk (below_step (zB HB) hb); have NB608_612 := Aside0.mk ((by rw [hg]; exact Nat.ne_of_lt (blk_lt (g := gb608) (o := .cells #[.slice Ao8 t602.length co8, .slice Ao10 t605.length co10] 26 (0, 0)) (zb BK608)) : gb608 ≠ gb612)); have NB612_608 := Aside0.mk NB608_612.out.symm; replace BK608 := Aside0.mk (blk_below (g := gb608) (o := .cells #[.slice Ao8 t602.length co8, .slice Ao10 t605.length co10] 26 (0, 0)) (zb BK608) hb); clear hb hbox hg; obtain ⟨Ao13, co13, eo13⟩ := Kd.S_slice HO611.out; subst eo13; have hnb14 := NB612_608.out; have hnc14 := NB608_612.out; have hcz15_0 : w12.cell? ⟨gb612, 0, none⟩ = some (.slice none 0 0) := (blk_cell BK612.out 0).trans rfl; have hfz15_0 := blk_frozen BK612.out 0))
  (try simp only [Act.put, List.setIfInBounds_toArray, List.set_cons_zero, List.set_cons_succ])
  go_cut [23] (fun v23 wc => ∃ (kq : Nat) (x23_4 : Bool), v23 = .bool x23_4 ∧ Aside0 (laws_FnCallOf.j0 kq x23_4 t602 t605 t609 = some r) ∧ Aside0 (kq ≤ k) ∧ Aside0 (Kd.R (Kd.int .i64) 3 wc w.heap.size (fun _ => True) (.slice Ao8 t602.length co8) t602) ∧ Aside0 (Kd.R k33 33 wc w.heap.size (fun _ => True) (.slice Ao10 t605.length co10) t605) ∧ Aside0 (Kd.S k89 89 wc w.heap.size (fun k_ => some k_ ≠ ((.slice Ao8 t602.length co8) : Value).ownBlock ∧ some k_ ≠ ((.slice Ao10 t605.length co10) : Value).ownBlock) (.slice Ao13 t609.length co13) t609) ∧ Aside0 (wc.heap[gb608]? = some (.cells #[(.slice Ao8 t602.length co8), (.slice Ao10 t605.length co10)] 26 (0, 0))) ∧ Aside0 (wc.heap[gb612]? = some (.cells #[(.slice Ao13 t609.length co13)] 40 (0, 0))) ∧ Aside0 (Below w.heap.size w wc))
  case first =>
   have H := HC5.out; clear HC5; replace H := Option.bind_eq_some_iff.mp H; obtain ⟨t613, A160, H⟩ := H
   (try dsimp only at H)
   have A16 := Aside0.mk A160; clear A160; replace H := Option.bind_eq_some_iff.mp H; obtain ⟨t616, A170, H⟩ := H
   (try dsimp only at H)
   have A17 := Aside0.mk A170; clear A170
   by_cases c18 : t616 = true
   ·subst c18; rw [if_pos rfl] at H; replace H := Option.bind_eq_some_iff.mp H; obtain ⟨t617, A190, H⟩ := H
    (try dsimp only at H)
    have A19 := Aside0.mk A190; clear A190; have H' := Aside0.mk H; clear H
    try go_wp2
    have n0_ : Aside0 (Kd.R (Kd.int .i64) 3 (w12.setCell ⟨gb612, 0, none⟩ (.slice Ao13 t609.length co13)) w.heap.size (fun _ => True) (.slice Ao8 t602.length co8) t602) := ⟨by (with_reducible repeat (first | apply Kd.R_alloc | apply Kd.R_drewN | apply Kd.R_drew)); exact Kd.R_mono (Kd.R_far (p := ⟨gb612, 0, none⟩) (Kd.R_types HO604.out BK612.out (by decide)) (fun _ hk => hk.2) (.slice Ao13 t609.length co13)) (fun _ hk => trivial)⟩
    have n1_ : Aside0 (Kd.R k33 33 (w12.setCell ⟨gb612, 0, none⟩ (.slice Ao13 t609.length co13)) w.heap.size (fun _ => True) (.slice Ao10 t605.length co10) t605) := ⟨by (with_reducible repeat (first | apply Kd.R_alloc | apply Kd.R_drewN | apply Kd.R_drew)); exact Kd.R_mono (Kd.R_far (p := ⟨gb612, 0, none⟩) (Kd.R_types HO607.out BK612.out (by decide)) (fun _ hk => hk.2) (.slice Ao13 t609.length co13)) (fun _ hk => trivial)⟩
    have n2_ : Aside0 (Kd.S k89 89 (w12.setCell ⟨gb612, 0, none⟩ (.slice Ao13 t609.length co13)) w.heap.size (fun k_ => some k_ ≠ (.slice Ao8 t602.length co8 : Value).ownBlock ∧ some k_ ≠ (.slice Ao10 t605.length co10 : Value).ownBlock) (.slice Ao13 t609.length co13) t609) := ⟨by (with_reducible repeat (first | apply Kd.S_alloc | apply Kd.S_drewN | apply Kd.S_drew)); exact Kd.S_mono (Kd.S_far (p := ⟨gb612, 0, none⟩) (Kd.S_types HO611.out BK612.out (by decide)) (fun _ hk => hk.2) (.slice Ao13 t609.length co13)) (fun _ hk => ⟨hk.1.1.2, hk.1.2⟩)⟩
    have n3_ : Aside0 ((w12.setCell ⟨gb612, 0, none⟩ (.slice Ao13 t609.length co13)).heap[gb608]? = some (.cells #[.slice Ao8 t602.length co8, .slice Ao10 t605.length co10] 26 (0, 0))) := ⟨zf BK608⟩
    have n4_ : Aside0 ((w12.setCell ⟨gb612, 0, none⟩ (.slice Ao13 t609.length co13)).heap[gb612]? = some (.cells #[.slice Ao13 t609.length co13] 40 (0, 0))) := ⟨by (with_reducible repeat (first | refine blk_drewN ?_ _ | refine blk_drew ?_ | refine blk_alloc ?_ _)); refine blk_put (cs := #[.slice none 0 0]) ?_ 0 _ rfl; (with_reducible repeat (first | refine blk_drewN ?_ _ | refine blk_drew ?_ | refine blk_alloc ?_ _)); exact BK612.out⟩
    have n5_ : Aside0 (Below w.heap.size w (w12.setCell ⟨gb612, 0, none⟩ (.slice Ao13 t609.length co13))) := ⟨zB HB⟩
    (try clear HO604); (try clear HO607); (try clear HO611); (try clear BK608); (try clear BK612); (try clear HB); generalize (w12.setCell ⟨gb612, 0, none⟩ (.slice Ao13 t609.length co13)) = w20 at n0_ n1_ n2_ n3_ n4_ n5_ ⊢; have HO604 := n0_; have HO607 := n1_; have HO611 := n2_; have BK608 := n3_; have BK612 := n4_; have HB := n5_; clear n0_ n1_ n2_ n3_ n4_ n5_; replace HO604 := Aside0.mk (Kd.R_drew HO604.out); replace HO607 := Aside0.mk (Kd.R_drew HO607.out); replace HO611 := Aside0.mk (Kd.S_drew HO611.out); replace BK608 := Aside0.mk (blk_drew BK608.out); replace BK612 := Aside0.mk (blk_drew BK612.out); replace HB := Aside0.mk (below_drew1 HB.out); refine start_ (n := 10) (S := fun w' => w'.cell? ⟨gb612, 0, none⟩ = some (.slice Ao13 t609.length co13) ∧ w'.cell? ⟨gb608, 0, none⟩ = some (.slice Ao8 t602.length co8) ∧ w'.cell? ⟨gb608, 1, none⟩ = some (.slice Ao10 t605.length co10)) (ds := []) #[false, false, false, false, false, false, false, false, false, false] (by kernel_rfl) rfl rfl ⟨(blk_cell BK612.out 0).trans rfl, (blk_cell BK608.out 0).trans rfl, (blk_cell BK608.out 1).trans rfl⟩ (fun hHeld => ?_); refine with_tabW laws_FnCallOf.tab5 laws_FnCallOf.bits5 (fun HT_ HW_ => ?_); generalize w20.drew = w21 at HO604 HO607 HO611 BK608 BK612 HB hHeld ⊢; refine take_ (i := 0) (N := some 14) (v := ?_) (a' := ?_) #[true, false, false, false, false, false, false, false, false, false] rfl rfl (take_ofW HT_.out HW_.out (by kernel_rfl)) (fun _ _ _ h => h) (Or.inl ⟨by rfl, ?_⟩) hHeld ?_ ?_; rotate_left
    ·rintro w' ⟨s0, s1, s2⟩; go_simp; with_reducible rfl
    rotate_left
    ·simp only [Act.put, List.setIfInBounds_toArray, List.set_cons_zero, List.set_cons_succ, i64_w, i32_w]; rfl
    refine take_ (i := 1) (N := some 15) (v := ?_) (a' := ?_) #[true, true, false, false, false, false, false, false, false, false] rfl rfl (take_ofW HT_.out HW_.out (by kernel_rfl)) (fun _ _ _ h => h) (Or.inl ⟨by rfl, ?_⟩) hHeld ?_ ?_; rotate_left
    ·rintro w' ⟨s0, s1, s2⟩; go_simp; with_reducible rfl
    rotate_left
    ·simp only [Act.put, List.setIfInBounds_toArray, List.set_cons_zero, List.set_cons_succ, i64_w, i32_w]; rfl
    refine one_ (i := 2) (N := some 16) #[true, true, true, false, false, false, false, false, false, false] rfl rfl (one_of HT_.out (by kernel_rfl)) (by decide) (fun K hK => ?_); refine goes_ Try.func27 (by kernel_rfl) rfl #[.agg #[.slice Ao8 t602.length co8, .slice Ao10 t605.length co10]] (by rfl) rfl rfl zl ?_; with_reducible refine (spec_CallOf.calls k _ _ t602 _ _ t605 t613 _ ?side1 ?side2 ?side3 ?side4 A16.out).mono ?_
    (case side1 => repeat (first | exact (Kd.R_reads' HO604.out).2.2 | (with_reducible refine Kd.C_alloc ?_ _) | (with_reducible refine Kd.C_drewN ?_ _) | (with_reducible refine Kd.C_drew ?_)))
    (case side2 => exact (Kd.R_reads' HO604.out).2.1)
    (case side3 => repeat (first | exact (Kd.R_reads' HO607.out).2.2 | (with_reducible refine Kd.C_alloc ?_ _) | (with_reducible refine Kd.C_drewN ?_ _) | (with_reducible refine Kd.C_drew ?_)))
    (case side4 => exact (Kd.R_reads' HO607.out).2.1)
    rintro e w22 ⟨v614, rfl, ho0, hb⟩; refine ⟨_, rfl, ?_⟩; have HO615 := Aside0.mk (Kd.S_lower (Kd.S_new' (Kd.S_new' (Kd.S_new' ho0 (Kd.R_lt (zo HO604))) (Kd.R_lt (zo HO607))) (Kd.S_lt (zoS HO611))) (below_size (zB HB))); replace HO604 := Aside0.mk (Kd.R_below (zo HO604) hb); replace HO607 := Aside0.mk (Kd.R_below (zo HO607) hb); replace HO611 := Aside0.mk (Kd.S_elder' (zoS HO611) (Kd.S_base ho0) hb); replace BK608 := Aside0.mk (blk_below (g := gb608) (o := .cells #[.slice Ao8 t602.length co8, .slice Ao10 t605.length co10] 26 (0, 0)) (zb BK608) hb); replace BK612 := Aside0.mk (blk_below (g := gb612) (o := .cells #[.slice Ao13 t609.length co13] 40 (0, 0)) (zb BK612) hb); replace HB := Aside0.mk (below_step (zB HB) hb); (try clear hb); (try clear hb2); (try clear hk); (try clear hi); (try clear ho0); obtain ⟨Ao23, co23, eo23⟩ := Kd.S_slice HO615.out
    (first | subst eo23 | (injection eo23 with f1_ f2_ f3_; have f4_ := f1_.symm; have f5_ := f3_.symm; clear f1_ f2_ f3_; subst f4_; subst f5_))
    refine hK.out _ _ ⟨(blk_cell BK612.out 0).trans rfl, (blk_cell BK608.out 0).trans rfl, (blk_cell BK608.out 1).trans rfl⟩ (fun hHeld => ?_); clear hK K; refine norm_ (a' := ?_) ?_ ?_; rotate_left
    ·show Act.put _ (some 16) _ = _
     simp only [Act.put, List.setIfInBounds_toArray, List.set_cons_zero, List.set_cons_succ, i64_w, i32_w]; rfl
    refine one_ (i := 3) (N := some 17) #[true, true, true, true, false, false, false, false, false, false] rfl rfl (one_of HT_.out (by kernel_rfl)) (by decide) (fun K hK => ?_); refine goes_ Try.func20 (by kernel_rfl) rfl #[.agg #[.slice Ao13 t609.length co13], .agg #[.slice Ao23 t613.length co23]] (by rfl) rfl rfl zl ?_; with_reducible refine (laws_equalCall.calls k _ _ t609 _ _ t613 true _ ?side1 ?side2 ?side3 ?side4 A17.out).mono ?_
    (case side1 => repeat (first | exact (Kd.S_reads' HO611.out).2.2 | (with_reducible refine Kd.C_alloc ?_ _) | (with_reducible refine Kd.C_drewN ?_ _) | (with_reducible refine Kd.C_drew ?_)))
    (case side2 => exact (Kd.S_reads' HO611.out).2.1)
    (case side3 => repeat (first | exact (Kd.S_reads' HO615.out).2.2 | (with_reducible refine Kd.C_alloc ?_ _) | (with_reducible refine Kd.C_drewN ?_ _) | (with_reducible refine Kd.C_drew ?_)))
    (case side4 => exact (Kd.S_reads' HO615.out).2.1)
    rintro e w24 ⟨rfl, hb⟩; refine ⟨_, rfl, ?_⟩; replace HO604 := Aside0.mk (Kd.R_below (zo HO604) hb); replace HO607 := Aside0.mk (Kd.R_below (zo HO607) hb); replace HO611 := Aside0.mk (Kd.S_below (zoS HO611) hb); replace HO615 := Aside0.mk (Kd.S_below (zoS HO615) hb); replace BK608 := Aside0.mk (blk_below (g := gb608) (o := .cells #[.slice Ao8 t602.length co8, .slice Ao10 t605.length co10] 26 (0, 0)) (zb BK608) hb); replace BK612 := Aside0.mk (blk_below (g := gb612) (o := .cells #[.slice Ao13 t609.length co13] 40 (0, 0)) (zb BK612) hb); replace HB := Aside0.mk (below_step (zB HB) hb); (try clear hb); (try clear hb2); (try clear hk); (try clear hi); refine hK.out _ _ ⟨(blk_cell BK612.out 0).trans rfl, (blk_cell BK608.out 0).trans rfl, (blk_cell BK608.out 1).trans rfl⟩ (fun hHeld => ?_); clear hK K; refine norm_ (a' := ?_) ?_ ?_; rotate_left
    ·show Act.put _ (some 17) _ = _
     simp only [Act.put, List.setIfInBounds_toArray, List.set_cons_zero, List.set_cons_succ, i64_w, i32_w]; rfl
    refine pure_ (i := 4) (N := some 18) (v := ?_) (a' := ?_) #[true, true, true, true, true, false, false, false, false, false] rfl rfl (any_of HT_.out (by kernel_rfl)) (fun _ _ _ h => h) (Or.inl ⟨by rfl, ?_⟩) ?_ ?_; rotate_left
    ·intro w'; go_simp; with_reducible rfl
    rotate_left
    ·simp only [Act.put, List.setIfInBounds_toArray, List.set_cons_zero, List.set_cons_succ, i64_w, i32_w]; rfl
    refine pure_ (i := 5) (N := some 19) (v := ?_) (a' := ?_) #[true, true, true, true, true, true, false, false, false, false] rfl rfl (any_of HT_.out (by kernel_rfl)) (fun _ _ _ h => h) (Or.inl ⟨by rfl, ?_⟩) ?_ ?_; rotate_left
    ·intro w'; go_simp; with_reducible rfl
    rotate_left
    ·simp only [Act.put, List.setIfInBounds_toArray, List.set_cons_zero, List.set_cons_succ, i64_w, i32_w]; rfl
    refine take_ (i := 6) (N := some 20) (v := ?_) (a' := ?_) #[true, true, true, true, true, true, true, false, false, false] rfl rfl (take_ofW HT_.out HW_.out (by kernel_rfl)) (fun _ _ _ h => h) (Or.inl ⟨by rfl, ?_⟩) hHeld ?_ ?_; rotate_left
    ·rintro w' ⟨s0, s1, s2⟩; go_simp; with_reducible rfl
    rotate_left
    ·simp only [Act.put, List.setIfInBounds_toArray, List.set_cons_zero, List.set_cons_succ, i64_w, i32_w]; rfl
    refine one_ (i := 7) (N := some 21) #[true, true, true, true, true, true, true, true, false, false] rfl rfl (one_of HT_.out (by kernel_rfl)) (by decide) (fun K hK => ?_); refine goes_ Try.func22 (by kernel_rfl) rfl #[.agg #[.slice Ao8 t602.length co8, .slice Ao10 t605.length co10]] (by rfl) rfl rfl zl ?_; with_reducible refine (impl_ValidFlat.calls k _ _ t602 _ _ t605 t617 _ ?side1 ?side2 ?side3 ?side4 A19.out).mono ?_
    (case side1 => repeat (first | exact (Kd.R_reads' HO604.out).2.2 | (with_reducible refine Kd.C_alloc ?_ _) | (with_reducible refine Kd.C_drewN ?_ _) | (with_reducible refine Kd.C_drew ?_)))
    (case side2 => exact (Kd.R_reads' HO604.out).2.1)
    (case side3 => repeat (first | exact (Kd.R_reads' HO607.out).2.2 | (with_reducible refine Kd.C_alloc ?_ _) | (with_reducible refine Kd.C_drewN ?_ _) | (with_reducible refine Kd.C_drew ?_)))
    (case side4 => exact (Kd.R_reads' HO607.out).2.1)
    rintro e w25 ⟨rfl, hb⟩; refine ⟨_, rfl, ?_⟩; replace HO604 := Aside0.mk (Kd.R_below (zo HO604) hb); replace HO607 := Aside0.mk (Kd.R_below (zo HO607) hb); replace HO611 := Aside0.mk (Kd.S_below (zoS HO611) hb); replace HO615 := Aside0.mk (Kd.S_below (zoS HO615) hb); replace BK608 := Aside0.mk (blk_below (g := gb608) (o := .cells #[.slice Ao8 t602.length co8, .slice Ao10 t605.length co10] 26 (0, 0)) (zb BK608) hb); replace BK612 := Aside0.mk (blk_below (g := gb612) (o := .cells #[.slice Ao13 t609.length co13] 40 (0, 0)) (zb BK612) hb); replace HB := Aside0.mk (below_step (zB HB) hb); (try clear hb); (try clear hb2); (try clear hk); (try clear hi); refine hK.out _ _ ⟨(blk_cell BK612.out 0).trans rfl, (blk_cell BK608.out 0).trans rfl, (blk_cell BK608.out 1).trans rfl⟩ (fun hHeld => ?_); clear hK K; refine norm_ (a' := ?_) ?_ ?_; rotate_left
    ·show Act.put _ (some 21) _ = _
     simp only [Act.put, List.setIfInBounds_toArray, List.set_cons_zero, List.set_cons_succ, i64_w, i32_w]; rfl
    refine pure_ (i := 8) (N := some 22) (v := ?_) (a' := ?_) #[true, true, true, true, true, true, true, true, true, false] rfl rfl (any_of HT_.out (by kernel_rfl)) (fun _ _ _ h => h) (Or.inl ⟨by rfl, ?_⟩) ?_ ?_; rotate_left
    ·intro w'; go_simp; with_reducible rfl
    rotate_left
    ·simp only [Act.put, List.setIfInBounds_toArray, List.set_cons_zero, List.set_cons_succ, i64_w, i32_w]; rfl
    refine pure_ (i := 9) (N := some 23) (v := ?_) (a' := ?_) #[true, true, true, true, true, true, true, true, true, true] rfl rfl (any_of HT_.out (by kernel_rfl)) (fun _ _ _ h => h) (Or.inl ⟨by rfl, ?_⟩) ?_ ?_; rotate_left
    ·intro w'; go_simp; with_reducible rfl
    rotate_left
    ·simp only [Act.put, List.setIfInBounds_toArray, List.set_cons_zero, List.set_cons_succ, i64_w, i32_w]; rfl
    refine done_ (done_of HT_.out (by kernel_rfl)) ?_
    try go_wp2
    go_meet
    case rel => exact ⟨_, (!t617), zr, H', ⟨by first | omega | exact Nat.le_refl _⟩, ⟨zo HO604⟩, ⟨zo HO607⟩, ⟨by (with_reducible repeat (first | apply Kd.S_alloc | apply Kd.S_drewN | apply Kd.S_drew)); exact Kd.S_mono HO611.out (fun _ hk => ⟨hk.1.1, hk.1.2⟩)⟩, ⟨zb BK608⟩, ⟨zb BK612⟩, ⟨zB HB⟩⟩
   ·replace c18 := Bool.eq_false_iff.mpr c18; subst c18; rw [if_neg (show ¬ (false = true) by decide)] at H; have H' := Aside0.mk H; clear H
    try go_wp2
    have n0_ : Aside0 (Kd.R (Kd.int .i64) 3 (w12.setCell ⟨gb612, 0, none⟩ (.slice Ao13 t609.length co13)) w.heap.size (fun _ => True) (.slice Ao8 t602.length co8) t602) := ⟨by (with_reducible repeat (first | apply Kd.R_alloc | apply Kd.R_drewN | apply Kd.R_drew)); exact Kd.R_mono (Kd.R_far (p := ⟨gb612, 0, none⟩) (Kd.R_types HO604.out BK612.out (by decide)) (fun _ hk => hk.2) (.slice Ao13 t609.length co13)) (fun _ hk => trivial)⟩
    have n1_ : Aside0 (Kd.R k33 33 (w12.setCell ⟨gb612, 0, none⟩ (.slice Ao13 t609.length co13)) w.heap.size (fun _ => True) (.slice Ao10 t605.length co10) t605) := ⟨by (with_reducible repeat (first | apply Kd.R_alloc | apply Kd.R_drewN | apply Kd.R_drew)); exact Kd.R_mono (Kd.R_far (p := ⟨gb612, 0, none⟩) (Kd.R_types HO607.out BK612.out (by decide)) (fun _ hk => hk.2) (.slice Ao13 t609.length co13)) (fun _ hk => trivial)⟩
    have n2_ : Aside0 (Kd.S k89 89 (w12.setCell ⟨gb612, 0, none⟩ (.slice Ao13 t609.length co13)) w.heap.size (fun k_ => some k_ ≠ (.slice Ao8 t602.length co8 : Value).ownBlock ∧ some k_ ≠ (.slice Ao10 t605.length co10 : Value).ownBlock) (.slice Ao13 t609.length co13) t609) := ⟨by (with_reducible repeat (first | apply Kd.S_alloc | apply Kd.S_drewN | apply Kd.S_drew)); exact Kd.S_mono (Kd.S_far (p := ⟨gb612, 0, none⟩) (Kd.S_types HO611.out BK612.out (by decide)) (fun _ hk => hk.2) (.slice Ao13 t609.length co13)) (fun _ hk => ⟨hk.1.1.2, hk.1.2⟩)⟩
    have n3_ : Aside0 ((w12.setCell ⟨gb612, 0, none⟩ (.slice Ao13 t609.length co13)).heap[gb608]? = some (.cells #[.slice Ao8 t602.length co8, .slice Ao10 t605.length co10] 26 (0, 0))) := ⟨zf BK608⟩
    have n4_ : Aside0 ((w12.setCell ⟨gb612, 0, none⟩ (.slice Ao13 t609.length co13)).heap[gb612]? = some (.cells #[.slice Ao13 t609.length co13] 40 (0, 0))) := ⟨by (with_reducible repeat (first | refine blk_drewN ?_ _ | refine blk_drew ?_ | refine blk_alloc ?_ _)); refine blk_put (cs := #[.slice none 0 0]) ?_ 0 _ rfl; (with_reducible repeat (first | refine blk_drewN ?_ _ | refine blk_drew ?_ | refine blk_alloc ?_ _)); exact BK612.out⟩
    have n5_ : Aside0 (Below w.heap.size w (w12.setCell ⟨gb612, 0, none⟩ (.slice Ao13 t609.length co13))) := ⟨zB HB⟩
    (try clear HO604); (try clear HO607); (try clear HO611); (try clear BK608); (try clear BK612); (try clear HB); generalize (w12.setCell ⟨gb612, 0, none⟩ (.slice Ao13 t609.length co13)) = w26 at n0_ n1_ n2_ n3_ n4_ n5_ ⊢; have HO604 := n0_; have HO607 := n1_; have HO611 := n2_; have BK608 := n3_; have BK612 := n4_; have HB := n5_; clear n0_ n1_ n2_ n3_ n4_ n5_; replace HO604 := Aside0.mk (Kd.R_drew HO604.out); replace HO607 := Aside0.mk (Kd.R_drew HO607.out); replace HO611 := Aside0.mk (Kd.S_drew HO611.out); replace BK608 := Aside0.mk (blk_drew BK608.out); replace BK612 := Aside0.mk (blk_drew BK612.out); replace HB := Aside0.mk (below_drew1 HB.out); refine start_ (n := 10) (S := fun w' => w'.cell? ⟨gb612, 0, none⟩ = some (.slice Ao13 t609.length co13) ∧ w'.cell? ⟨gb608, 0, none⟩ = some (.slice Ao8 t602.length co8) ∧ w'.cell? ⟨gb608, 1, none⟩ = some (.slice Ao10 t605.length co10)) (ds := []) #[false, false, false, false, false, false, false, false, false, false] (by kernel_rfl) rfl rfl ⟨(blk_cell BK612.out 0).trans rfl, (blk_cell BK608.out 0).trans rfl, (blk_cell BK608.out 1).trans rfl⟩ (fun hHeld => ?_); refine with_tabW laws_FnCallOf.tab5 laws_FnCallOf.bits5 (fun HT_ HW_ => ?_); generalize w26.drew = w27 at HO604 HO607 HO611 BK608 BK612 HB hHeld ⊢; refine take_ (i := 0) (N := some 14) (v := ?_) (a' := ?_) #[true, false, false, false, false, false, false, false, false, false] rfl rfl (take_ofW HT_.out HW_.out (by kernel_rfl)) (fun _ _ _ h => h) (Or.inl ⟨by rfl, ?_⟩) hHeld ?_ ?_; rotate_left
    ·rintro w' ⟨s0, s1, s2⟩; go_simp; with_reducible rfl
    rotate_left
    ·simp only [Act.put, List.setIfInBounds_toArray, List.set_cons_zero, List.set_cons_succ, i64_w, i32_w]; rfl
    refine take_ (i := 1) (N := some 15) (v := ?_) (a' := ?_) #[true, true, false, false, false, false, false, false, false, false] rfl rfl (take_ofW HT_.out HW_.out (by kernel_rfl)) (fun _ _ _ h => h) (Or.inl ⟨by rfl, ?_⟩) hHeld ?_ ?_; rotate_left
    ·rintro w' ⟨s0, s1, s2⟩; go_simp; with_reducible rfl
    rotate_left
    ·simp only [Act.put, List.setIfInBounds_toArray, List.set_cons_zero, List.set_cons_succ, i64_w, i32_w]; rfl
    refine one_ (i := 2) (N := some 16) #[true, true, true, false, false, false, false, false, false, false] rfl rfl (one_of HT_.out (by kernel_rfl)) (by decide) (fun K hK => ?_); refine goes_ Try.func27 (by kernel_rfl) rfl #[.agg #[.slice Ao8 t602.length co8, .slice Ao10 t605.length co10]] (by rfl) rfl rfl zl ?_; with_reducible refine (spec_CallOf.calls k _ _ t602 _ _ t605 t613 _ ?side1 ?side2 ?side3 ?side4 A16.out).mono ?_
    (case side1 => repeat (first | exact (Kd.R_reads' HO604.out).2.2 | (with_reducible refine Kd.C_alloc ?_ _) | (with_reducible refine Kd.C_drewN ?_ _) | (with_reducible refine Kd.C_drew ?_)))
    (case side2 => exact (Kd.R_reads' HO604.out).2.1)
    (case side3 => repeat (first | exact (Kd.R_reads' HO607.out).2.2 | (with_reducible refine Kd.C_alloc ?_ _) | (with_reducible refine Kd.C_drewN ?_ _) | (with_reducible refine Kd.C_drew ?_)))
    (case side4 => exact (Kd.R_reads' HO607.out).2.1)
    rintro e w28 ⟨v614, rfl, ho0, hb⟩; refine ⟨_, rfl, ?_⟩; have HO615 := Aside0.mk (Kd.S_lower (Kd.S_new' (Kd.S_new' (Kd.S_new' ho0 (Kd.R_lt (zo HO604))) (Kd.R_lt (zo HO607))) (Kd.S_lt (zoS HO611))) (below_size (zB HB))); replace HO604 := Aside0.mk (Kd.R_below (zo HO604) hb); replace HO607 := Aside0.mk (Kd.R_below (zo HO607) hb); replace HO611 := Aside0.mk (Kd.S_elder' (zoS HO611) (Kd.S_base ho0) hb); replace BK608 := Aside0.mk (blk_below (g := gb608) (o := .cells #[.slice Ao8 t602.length co8, .slice Ao10 t605.length co10] 26 (0, 0)) (zb BK608) hb); replace BK612 := Aside0.mk (blk_below (g := gb612) (o := .cells #[.slice Ao13 t609.length co13] 40 (0, 0)) (zb BK612) hb); replace HB := Aside0.mk (below_step (zB HB) hb); (try clear hb); (try clear hb2); (try clear hk); (try clear hi); (try clear ho0); obtain ⟨Ao29, co29, eo29⟩ := Kd.S_slice HO615.out
    (first | subst eo29 | (injection eo29 with f1_ f2_ f3_; have f4_ := f1_.symm; have f5_ := f3_.symm; clear f1_ f2_ f3_; subst f4_; subst f5_))
    refine hK.out _ _ ⟨(blk_cell BK612.out 0).trans rfl, (blk_cell BK608.out 0).trans rfl, (blk_cell BK608.out 1).trans rfl⟩ (fun hHeld => ?_); clear hK K; refine norm_ (a' := ?_) ?_ ?_; rotate_left
    ·show Act.put _ (some 16) _ = _
     simp only [Act.put, List.setIfInBounds_toArray, List.set_cons_zero, List.set_cons_succ, i64_w, i32_w]; rfl
    refine one_ (i := 3) (N := some 17) #[true, true, true, true, false, false, false, false, false, false] rfl rfl (one_of HT_.out (by kernel_rfl)) (by decide) (fun K hK => ?_); refine goes_ Try.func20 (by kernel_rfl) rfl #[.agg #[.slice Ao13 t609.length co13], .agg #[.slice Ao29 t613.length co29]] (by rfl) rfl rfl zl ?_; with_reducible refine (laws_equalCall.calls k _ _ t609 _ _ t613 false _ ?side1 ?side2 ?side3 ?side4 A17.out).mono ?_
    (case side1 => repeat (first | exact (Kd.S_reads' HO611.out).2.2 | (with_reducible refine Kd.C_alloc ?_ _) | (with_reducible refine Kd.C_drewN ?_ _) | (with_reducible refine Kd.C_drew ?_)))
    (case side2 => exact (Kd.S_reads' HO611.out).2.1)
    (case side3 => repeat (first | exact (Kd.S_reads' HO615.out).2.2 | (with_reducible refine Kd.C_alloc ?_ _) | (with_reducible refine Kd.C_drewN ?_ _) | (with_reducible refine Kd.C_drew ?_)))
    (case side4 => exact (Kd.S_reads' HO615.out).2.1)
    rintro e w30 ⟨rfl, hb⟩; refine ⟨_, rfl, ?_⟩; replace HO604 := Aside0.mk (Kd.R_below (zo HO604) hb); replace HO607 := Aside0.mk (Kd.R_below (zo HO607) hb); replace HO611 := Aside0.mk (Kd.S_below (zoS HO611) hb); replace HO615 := Aside0.mk (Kd.S_below (zoS HO615) hb); replace BK608 := Aside0.mk (blk_below (g := gb608) (o := .cells #[.slice Ao8 t602.length co8, .slice Ao10 t605.length co10] 26 (0, 0)) (zb BK608) hb); replace BK612 := Aside0.mk (blk_below (g := gb612) (o := .cells #[.slice Ao13 t609.length co13] 40 (0, 0)) (zb BK612) hb); replace HB := Aside0.mk (below_step (zB HB) hb); (try clear hb); (try clear hb2); (try clear hk); (try clear hi); refine hK.out _ _ ⟨(blk_cell BK612.out 0).trans rfl, (blk_cell BK608.out 0).trans rfl, (blk_cell BK608.out 1).trans rfl⟩ (fun hHeld => ?_); clear hK K; refine norm_ (a' := ?_) ?_ ?_; rotate_left
    ·show Act.put _ (some 17) _ = _
     simp only [Act.put, List.setIfInBounds_toArray, List.set_cons_zero, List.set_cons_succ, i64_w, i32_w]; rfl
    refine pure_ (i := 4) (N := some 18) (v := ?_) (a' := ?_) #[true, true, true, true, true, false, false, false, false, false] rfl rfl (any_of HT_.out (by kernel_rfl)) (fun _ _ _ h => h) (Or.inl ⟨by rfl, ?_⟩) ?_ ?_; rotate_left
    ·intro w'; go_simp; with_reducible rfl
    rotate_left
    ·simp only [Act.put, List.setIfInBounds_toArray, List.set_cons_zero, List.set_cons_succ, i64_w, i32_w]; rfl
    refine pure_ (i := 5) (N := some 19) (v := ?_) (a' := ?_) #[true, true, true, true, true, true, false, false, false, false] rfl rfl (any_of HT_.out (by kernel_rfl)) (fun _ _ _ h => h) (Or.inl ⟨by rfl, ?_⟩) ?_ ?_; rotate_left
    ·intro w'; go_simp; with_reducible rfl
    rotate_left
    ·simp only [Act.put, List.setIfInBounds_toArray, List.set_cons_zero, List.set_cons_succ, i64_w, i32_w]; rfl
    refine pure_ (i := 6) (N := some 20) (v := undef) (a' := ?_) #[true, true, true, true, true, true, true, false, false, false] rfl rfl (any_of HT_.out (by kernel_rfl)) (fun _ _ _ h => h) (Or.inr ⟨by rfl, rfl⟩) ?_ ?_; rotate_left
    ·simp only [Act.put, List.setIfInBounds_toArray, List.set_cons_zero, List.set_cons_succ, i64_w, i32_w]; rfl
    refine pure_ (i := 7) (N := some 21) (v := undef) (a' := ?_) #[true, true, true, true, true, true, true, true, false, false] rfl rfl (any_of HT_.out (by kernel_rfl)) (fun _ _ _ h => h) (Or.inr ⟨by rfl, rfl⟩) ?_ ?_; rotate_left
    ·simp only [Act.put, List.setIfInBounds_toArray, List.set_cons_zero, List.set_cons_succ, i64_w, i32_w]; rfl
    refine pure_ (i := 8) (N := some 22) (v := undef) (a' := ?_) #[true, true, true, true, true, true, true, true, true, false] rfl rfl (any_of HT_.out (by kernel_rfl)) (fun _ _ _ h => h) (Or.inr ⟨by rfl, rfl⟩) ?_ ?_; rotate_left
    ·simp only [Act.put, List.setIfInBounds_toArray, List.set_cons_zero, List.set_cons_succ, i64_w, i32_w]; rfl
    refine pure_ (i := 9) (N := some 23) (v := ?_) (a' := ?_) #[true, true, true, true, true, true, true, true, true, true] rfl rfl (any_of HT_.out (by kernel_rfl)) (fun _ _ _ h => h) (Or.inl ⟨by rfl, ?_⟩) ?_ ?_; rotate_left
    ·intro w'; go_simp; with_reducible rfl
    rotate_left
    ·simp only [Act.put, List.setIfInBounds_toArray, List.set_cons_zero, List.set_cons_succ, i64_w, i32_w]; rfl
    refine done_ (done_of HT_.out (by kernel_rfl)) ?_
    try go_wp2
    go_meet
    case rel => exact ⟨_, (true), zr, H', ⟨by first | omega | exact Nat.le_refl _⟩, ⟨zo HO604⟩, ⟨zo HO607⟩, ⟨by (with_reducible repeat (first | apply Kd.S_alloc | apply Kd.S_drewN | apply Kd.S_drew)); exact Kd.S_mono HO611.out (fun _ hk => ⟨hk.1.1, hk.1.2⟩)⟩, ⟨zb BK608⟩, ⟨zb BK612⟩, ⟨zB HB⟩⟩
  case rest =>
   clear HC5; (try clear c1); (try clear c2); (try clear c2b0); (try clear c2b1); (try clear p2); (try clear c6); (try clear c14); (try clear c18); (try clear c20); (try clear c22); (try clear c25); (try clear c26); (try clear c27); (try clear hcz15_0); (try clear hcz9_0); (try clear hcz9_1); (try clear hfz15_0); (try clear hfz9_0); (try clear hfz9_1); obtain ⟨kq, x23_4, rfl, HA, HJ4, HO_609000, HO_609001, HO_613000, BK608, BK612, HB⟩ := hcut
   cases kq with
   | zero => exact absurd HA.out (by simp [laws_FnCallOf.j0])
   | succ kj4 =>
    have H := HA.out; clear HA; simp only [laws_FnCallOf.j0] at H
    by_cases c31 : x23_4 = true
    ·subst c31; rw [if_pos rfl] at H; replace H := Option.bind_eq_some_iff.mp H; obtain ⟨t618, A320, H⟩ := H
     (try dsimp only at H)
     have A32 := Aside0.mk A320; clear A320; replace H := Option.bind_eq_some_iff.mp H; obtain ⟨t621, A330, H⟩ := H
     (try dsimp only at H)
     have A33 := Aside0.mk A330; clear A330; obtain rfl := Option.some.inj H
     try go_wp2
     replace HO_609000 := Aside0.mk (Kd.R_drew HO_609000.out); replace HO_609001 := Aside0.mk (Kd.R_drew HO_609001.out); replace HO_613000 := Aside0.mk (Kd.S_drew HO_613000.out); replace BK608 := Aside0.mk (blk_drew BK608.out); replace BK612 := Aside0.mk (blk_drew BK612.out); replace HB := Aside0.mk (below_drew1 HB.out); refine start_ (n := 5) (S := fun w' => w'.cell? ⟨gb612, 0, none⟩ = some (.slice Ao13 t609.length co13) ∧ w'.cell? ⟨gb608, 0, none⟩ = some (.slice Ao8 t602.length co8) ∧ w'.cell? ⟨gb608, 1, none⟩ = some (.slice Ao10 t605.length co10)) (ds := []) #[false, false, false, false, false] (by kernel_rfl) rfl rfl ⟨(blk_cell BK612.out 0).trans rfl, (blk_cell BK608.out 0).trans rfl, (blk_cell BK608.out 1).trans rfl⟩ (fun hHeld => ?_); generalize wc.drew = w34 at HO_609000 HO_609001 HO_613000 BK608 BK612 HB hHeld ⊢; refine take_ (i := 0) (N := some 24) (v := ?_) (a' := ?_) #[true, false, false, false, false] rfl rfl (by kernel_rfl) (fun _ _ _ h => h) (Or.inl ⟨by rfl, ?_⟩) hHeld ?_ ?_; rotate_left
     ·rintro w' ⟨s0, s1, s2⟩; go_simp; with_reducible rfl
     rotate_left
     ·simp only [Act.put, List.setIfInBounds_toArray, List.set_cons_zero, List.set_cons_succ, i64_w, i32_w]; rfl
     refine take_ (i := 1) (N := some 25) (v := ?_) (a' := ?_) #[true, true, false, false, false] rfl rfl (by kernel_rfl) (fun _ _ _ h => h) (Or.inl ⟨by rfl, ?_⟩) hHeld ?_ ?_; rotate_left
     ·rintro w' ⟨s0, s1, s2⟩; go_simp; with_reducible rfl
     rotate_left
     ·simp only [Act.put, List.setIfInBounds_toArray, List.set_cons_zero, List.set_cons_succ, i64_w, i32_w]; rfl
     refine one_ (i := 2) (N := some 26) #[true, true, true, false, false] rfl rfl (by kernel_rfl) (by decide) (fun K hK => ?_); refine goes_ Try.func27 (by kernel_rfl) rfl #[.agg #[.slice Ao8 t602.length co8, .slice Ao10 t605.length co10]] (by rfl) rfl rfl zl ?_; with_reducible refine (spec_CallOf.calls kj4 _ _ t602 _ _ t605 t618 _ ?side1 ?side2 ?side3 ?side4 A32.out).mono ?_
     (case side1 => repeat (first | exact (Kd.R_reads' HO_609000.out).2.2 | (with_reducible refine Kd.C_alloc ?_ _) | (with_reducible refine Kd.C_drewN ?_ _) | (with_reducible refine Kd.C_drew ?_)))
     (case side2 => exact (Kd.R_reads' HO_609000.out).2.1)
     (case side3 => repeat (first | exact (Kd.R_reads' HO_609001.out).2.2 | (with_reducible refine Kd.C_alloc ?_ _) | (with_reducible refine Kd.C_drewN ?_ _) | (with_reducible refine Kd.C_drew ?_)))
     (case side4 => exact (Kd.R_reads' HO_609001.out).2.1)
     rintro e w35 ⟨v619, rfl, ho0, hb⟩; refine ⟨_, rfl, ?_⟩; have HO620 := Aside0.mk (Kd.S_lower (Kd.S_new' (Kd.S_new' (Kd.S_new' ho0 (Kd.R_lt (zo HO_609000))) (Kd.R_lt (zo HO_609001))) (Kd.S_lt (zoS HO_613000))) (below_size (zB HB))); replace HO_609000 := Aside0.mk (Kd.R_below (zo HO_609000) hb); replace HO_609001 := Aside0.mk (Kd.R_below (zo HO_609001) hb); replace HO_613000 := Aside0.mk (Kd.S_elder' (zoS HO_613000) (Kd.S_base ho0) hb); replace BK608 := Aside0.mk (blk_below (g := gb608) (o := .cells #[.slice Ao8 t602.length co8, .slice Ao10 t605.length co10] 26 (0, 0)) (zb BK608) hb); replace BK612 := Aside0.mk (blk_below (g := gb612) (o := .cells #[.slice Ao13 t609.length co13] 40 (0, 0)) (zb BK612) hb); replace HB := Aside0.mk (below_step (zB HB) hb); (try clear hb); (try clear hb2); (try clear hk); (try clear hi); (try clear ho0); obtain ⟨Ao36, co36, eo36⟩ := Kd.S_slice HO620.out
     (first | subst eo36 | (injection eo36 with f1_ f2_ f3_; have f4_ := f1_.symm; have f5_ := f3_.symm; clear f1_ f2_ f3_; subst f4_; subst f5_))
     refine hK.out _ _ ⟨(blk_cell BK612.out 0).trans rfl, (blk_cell BK608.out 0).trans rfl, (blk_cell BK608.out 1).trans rfl⟩ (fun hHeld => ?_); clear hK K; refine norm_ (a' := ?_) ?_ ?_; rotate_left
     ·show Act.put _ (some 26) _ = _
      simp only [Act.put, List.setIfInBounds_toArray, List.set_cons_zero, List.set_cons_succ, i64_w, i32_w]; rfl
     refine one_ (i := 3) (N := some 27) #[true, true, true, true, false] rfl rfl (by kernel_rfl) (by decide) (fun K hK => ?_); refine goes_ Try.func20 (by kernel_rfl) rfl #[.agg #[.slice Ao13 t609.length co13], .agg #[.slice Ao36 t618.length co36]] (by rfl) rfl rfl zl ?_; with_reducible refine (laws_equalCall.calls kj4 _ _ t609 _ _ t618 t621 _ ?side1 ?side2 ?side3 ?side4 A33.out).mono ?_
     (case side1 => repeat (first | exact (Kd.S_reads' HO_613000.out).2.2 | (with_reducible refine Kd.C_alloc ?_ _) | (with_reducible refine Kd.C_drewN ?_ _) | (with_reducible refine Kd.C_drew ?_)))
     (case side2 => exact (Kd.S_reads' HO_613000.out).2.1)
     (case side3 => repeat (first | exact (Kd.S_reads' HO620.out).2.2 | (with_reducible refine Kd.C_alloc ?_ _) | (with_reducible refine Kd.C_drewN ?_ _) | (with_reducible refine Kd.C_drew ?_)))
     (case side4 => exact (Kd.S_reads' HO620.out).2.1)
     rintro e w37 ⟨rfl, hb⟩; refine ⟨_, rfl, ?_⟩; replace HO_609000 := Aside0.mk (Kd.R_below (zo HO_609000) hb); replace HO_609001 := Aside0.mk (Kd.R_below (zo HO_609001) hb); replace HO_613000 := Aside0.mk (Kd.S_below (zoS HO_613000) hb); replace HO620 := Aside0.mk (Kd.S_below (zoS HO620) hb); replace BK608 := Aside0.mk (blk_below (g := gb608) (o := .cells #[.slice Ao8 t602.length co8, .slice Ao10 t605.length co10] 26 (0, 0)) (zb BK608) hb); replace BK612 := Aside0.mk (blk_below (g := gb612) (o := .cells #[.slice Ao13 t609.length co13] 40 (0, 0)) (zb BK612) hb); replace HB := Aside0.mk (below_step (zB HB) hb); (try clear hb); (try clear hb2); (try clear hk); (try clear hi); refine hK.out _ _ ⟨(blk_cell BK612.out 0).trans rfl, (blk_cell BK608.out 0).trans rfl, (blk_cell BK608.out 1).trans rfl⟩ (fun hHeld => ?_); clear hK K; refine norm_ (a' := ?_) ?_ ?_; rotate_left
     ·show Act.put _ (some 27) _ = _
      simp only [Act.put, List.setIfInBounds_toArray, List.set_cons_zero, List.set_cons_succ, i64_w, i32_w]; rfl
     refine pure_ (i := 4) (N := some 2) (v := ?_) (a' := ?_) #[true, true, true, true, true] rfl rfl (by kernel_rfl) (fun _ _ _ h => h) (Or.inl ⟨by rfl, ?_⟩) ?_ ?_; rotate_left
     ·intro w'; go_simp; with_reducible rfl
     rotate_left
     ·simp only [Act.put, List.setIfInBounds_toArray, List.set_cons_zero, List.set_cons_succ, i64_w, i32_w]; rfl
     refine done_ (by kernel_rfl) ?_
     try go_wp2
     go_ret; exact ⟨by first | rfl | (simp [errW_none, errW_some] <;> rfl) | (simp [*, errW_none, errW_some] <;> rfl), zB HB⟩
    ·replace c31 := Bool.eq_false_iff.mpr c31; subst c31; rw [if_neg (show ¬ (false = true) by decide)] at H; replace H := Option.bind_eq_some_iff.mp H; obtain ⟨⟨t622, t625, t628⟩, A380, H⟩ := H
     (try dsimp only at H)
     have A38 := Aside0.mk A380; clear A380
     by_cases c39 : t628 = true
     ·subst c39; rw [if_pos rfl] at H; replace H := Option.bind_eq_some_iff.mp H; obtain ⟨t630, A400, H⟩ := H
      (try dsimp only at H)
      have A40 := Aside0.mk A400; clear A400
      by_cases c41 : t630 = true
      ·subst c41; rw [if_pos rfl] at H; replace H := Option.bind_eq_some_iff.mp H; obtain ⟨t631, A420, H⟩ := H
       (try dsimp only at H)
       have A42 := Aside0.mk A420; clear A420
       by_cases c43 : (t609.length : Int) = t631
       ·rw [if_pos c43] at H; have c43b0 : ((t609.length : Int) == t631) = true := beq_iff_eq.mpr c43; have c43b1 : ((t609.length : Int) != t631) = false := bne_eq_false_iff_eq.mpr c43; clear c43; replace H := Option.bind_eq_some_iff.mp H; obtain ⟨t632, A440, H⟩ := H
        (try dsimp only at H)
        have A44 := Aside0.mk A440; clear A440; obtain rfl := Option.some.inj H; have hnb45 := NB612_608.out; have hnc45 := NB608_612.out; have hcz46_0 : wc.cell? ⟨gb612, 0, none⟩ = some (.slice Ao13 t609.length co13) := (blk_cell BK612.out 0).trans rfl; have hfz46_0 := blk_frozen BK612.out 0
        try go_wp2_with (first | ((with_reducible refine gate_callee (f := 23) rfl ?_); refine goesL_ (some 30) rfl rfl Try.func23 (by kernel_rfl) rfl #[.agg #[.slice Ao13 t609.length co13]] rfl zl ?_; (with_reducible refine (impl_FlattenCall.calls kj4 _ _ t609 t622 t625 true _ ?side1 ?side2 A38.out).mono ?_); (case side1 => repeat (first | exact (Kd.S_reads' HO_613000.out).2.2 | (with_reducible refine Kd.C_alloc ?_ _) | (with_reducible refine Kd.C_drewN ?_ _) | (with_reducible refine Kd.C_drew ?_))); (case side2 => exact (Kd.S_reads' HO_613000.out).2.1); rintro e w47 ⟨v623, v626, rfl, ho0, ho1, hb⟩; refine ⟨_, rfl, ?_⟩; replace HO_613000 := Aside0.mk (Kd.S_mono (Kd.S_told (Kd.S_told (Kd.S_old (zoS HO_613000) hb) (Kd.R_base ho0)) (Kd.R_base ho1)) (fun _ h_ => h_.1)); have HO624 := Aside0.mk (Kd.R_lower (Kd.R_new' ho0 (Kd.R_lt (zo HO_609000))) (below_size (zB HB))); replace HO_609000 := Aside0.mk (Kd.R_elder' (zo HO_609000) (Kd.R_base ho0) hb); have HO627 := Aside0.mk (Kd.R_lower (Kd.R_new' ho1 (Kd.R_lt (zo HO_609001))) (below_size (zB HB))); replace HO_609001 := Aside0.mk (Kd.R_elder' (zo HO_609001) (Kd.R_base ho1) hb); replace BK608 := Aside0.mk (blk_below (g := gb608) (o := .cells #[.slice Ao8 t602.length co8, .slice Ao10 t605.length co10] 26 (0, 0)) (zb BK608) hb); replace BK612 := Aside0.mk (blk_below (g := gb612) (o := .cells #[.slice Ao13 t609.length co13] 40 (0, 0)) (zb BK612) hb); replace HB := Aside0.mk (below_step (zB HB) hb); (try clear hb); (try clear hb2); (try clear hk); (try clear hi); (try clear ho0); (try clear ho1)) | ((with_reducible refine gate_dst (N := 5) rfl ?_); refine zx (N := 5) (cs := #[.slice none 0 0, .slice none 0 0]) (t := 26) ?_; intro gb629 hg w48 hbox hb; replace HO_609000 := Aside0.mk (Kd.R_below (zo HO_609000) hb); replace HO_609001 := Aside0.mk (Kd.R_below (zo HO_609001) hb); replace HO_613000 := Aside0.mk (Kd.S_below (zoS HO_613000) hb); replace HO624 := Aside0.mk (Kd.R_below (zo HO624) hb); replace HO627 := Aside0.mk (Kd.R_below (zo HO627) hb); have BK629 := Aside0.mk (hbox); have GW629 := Aside0.mk ((by rw [hg]; exact (below_size (zB HB)) : w.heap.size ≤ gb629)); have GE629 := GW629; replace HB := Aside0.mk (below_step (zB HB) hb); have NB608_629 := Aside0.mk ((by rw [hg]; exact Nat.ne_of_lt (blk_lt (g := gb608) (o := .cells #[.slice Ao8 t602.length co8, .slice Ao10 t605.length co10] 26 (0, 0)) (zb BK608)) : gb608 ≠ gb629)); have NB629_608 := Aside0.mk NB608_629.out.symm; replace BK608 := Aside0.mk (blk_below (g := gb608) (o := .cells #[.slice Ao8 t602.length co8, .slice Ao10 t605.length co10] 26 (0, 0)) (zb BK608) hb); have NB612_629 := Aside0.mk ((by rw [hg]; exact Nat.ne_of_lt (blk_lt (g := gb612) (o := .cells #[.slice Ao13 t609.length co13] 40 (0, 0)) (zb BK612)) : gb612 ≠ gb629)); have NB629_612 := Aside0.mk NB612_629.out.symm; replace BK612 := Aside0.mk (blk_below (g := gb612) (o := .cells #[.slice Ao13 t609.length co13] 40 (0, 0)) (zb BK612) hb); clear hb hbox hg; obtain ⟨Ao49, co49, eo49⟩ := Kd.R_slice HO624.out; subst eo49; have hnb50 := NB629_608.out; have hnc50 := NB608_629.out; have hnb51 := NB629_612.out; have hnc51 := NB612_629.out; have hcz52_0 : w48.cell? ⟨gb629, 0, none⟩ = some (.slice none 0 0) := (blk_cell BK629.out 0).trans rfl; have hcz52_1 : w48.cell? ⟨gb629, 1, none⟩ = some (.slice none 0 0) := (blk_cell BK629.out 1).trans rfl; have hfz52_0 := blk_frozen BK629.out 0; have hfz52_1 := blk_frozen BK629.out 1; obtain ⟨Ao53, co53, eo53⟩ := Kd.R_slice HO627.out; subst eo53))
        have n0_ : Aside0 (Kd.R (Kd.int .i64) 3 ((w48.setCell ⟨gb629, 0, none⟩ (.slice Ao49 t622.length co49)).setCell ⟨gb629, 1, none⟩ (.slice Ao53 t625.length co53)) w.heap.size (fun k_ => some k_ ≠ (.slice Ao49 t622.length co49 : Value).ownBlock) (.slice Ao8 t602.length co8) t602) := ⟨by (with_reducible repeat (first | apply Kd.R_alloc | apply Kd.R_drewN | apply Kd.R_drew)); exact Kd.R_mono (Kd.R_far (p := ⟨gb629, 1, none⟩) (Kd.R_far (p := ⟨gb629, 0, none⟩) (Kd.R_types HO_609000.out BK629.out (by decide)) (fun _ hk => hk.2) (.slice Ao49 t622.length co49)) (fun _ hk => hk.2) (.slice Ao53 t625.length co53)) (fun _ hk => hk.1.2)⟩
        have n1_ : Aside0 (Kd.R k33 33 ((w48.setCell ⟨gb629, 0, none⟩ (.slice Ao49 t622.length co49)).setCell ⟨gb629, 1, none⟩ (.slice Ao53 t625.length co53)) w.heap.size (fun k_ => some k_ ≠ (.slice Ao53 t625.length co53 : Value).ownBlock) (.slice Ao10 t605.length co10) t605) := ⟨by (with_reducible repeat (first | apply Kd.R_alloc | apply Kd.R_drewN | apply Kd.R_drew)); exact Kd.R_mono (Kd.R_far (p := ⟨gb629, 1, none⟩) (Kd.R_far (p := ⟨gb629, 0, none⟩) (Kd.R_types HO_609001.out BK629.out (by decide)) (fun _ hk => hk.2) (.slice Ao49 t622.length co49)) (fun _ hk => hk.2) (.slice Ao53 t625.length co53)) (fun _ hk => hk.1.2)⟩
        have n2_ : Aside0 (Kd.S k89 89 ((w48.setCell ⟨gb629, 0, none⟩ (.slice Ao49 t622.length co49)).setCell ⟨gb629, 1, none⟩ (.slice Ao53 t625.length co53)) w.heap.size (fun k_ => some k_ ≠ (.slice Ao8 t602.length co8 : Value).ownBlock ∧ some k_ ≠ (.slice Ao10 t605.length co10 : Value).ownBlock ∧ some k_ ≠ (.slice Ao49 t622.length co49 : Value).ownBlock ∧ some k_ ≠ (.slice Ao53 t625.length co53 : Value).ownBlock) (.slice Ao13 t609.length co13) t609) := ⟨by (with_reducible repeat (first | apply Kd.S_alloc | apply Kd.S_drewN | apply Kd.S_drew)); exact Kd.S_mono (Kd.S_far (p := ⟨gb629, 1, none⟩) (Kd.S_far (p := ⟨gb629, 0, none⟩) (Kd.S_types HO_613000.out BK629.out (by decide)) (fun _ hk => hk.2) (.slice Ao49 t622.length co49)) (fun _ hk => hk.2) (.slice Ao53 t625.length co53)) (fun _ hk => ⟨hk.1.1.1.1, ⟨hk.1.1.1.2, ⟨hk.1.1.2, hk.1.2⟩⟩⟩)⟩
        have n3_ : Aside0 (Kd.R (Kd.int .i64) 3 ((w48.setCell ⟨gb629, 0, none⟩ (.slice Ao49 t622.length co49)).setCell ⟨gb629, 1, none⟩ (.slice Ao53 t625.length co53)) w.heap.size (fun k_ => some k_ ≠ (.slice Ao8 t602.length co8 : Value).ownBlock) (.slice Ao49 t622.length co49) t622) := ⟨by (with_reducible repeat (first | apply Kd.R_alloc | apply Kd.R_drewN | apply Kd.R_drew)); exact Kd.R_mono (Kd.R_far (p := ⟨gb629, 1, none⟩) (Kd.R_far (p := ⟨gb629, 0, none⟩) (Kd.R_types HO624.out BK629.out (by decide)) (fun _ hk => hk.2) (.slice Ao49 t622.length co49)) (fun _ hk => hk.2) (.slice Ao53 t625.length co53)) (fun _ hk => hk.1.2)⟩
        have n4_ : Aside0 (Kd.R k33 33 ((w48.setCell ⟨gb629, 0, none⟩ (.slice Ao49 t622.length co49)).setCell ⟨gb629, 1, none⟩ (.slice Ao53 t625.length co53)) w.heap.size (fun k_ => some k_ ≠ (.slice Ao10 t605.length co10 : Value).ownBlock) (.slice Ao53 t625.length co53) t625) := ⟨by (with_reducible repeat (first | apply Kd.R_alloc | apply Kd.R_drewN | apply Kd.R_drew)); exact Kd.R_mono (Kd.R_far (p := ⟨gb629, 1, none⟩) (Kd.R_far (p := ⟨gb629, 0, none⟩) (Kd.R_types HO627.out BK629.out (by decide)) (fun _ hk => hk.2) (.slice Ao49 t622.length co49)) (fun _ hk => hk.2) (.slice Ao53 t625.length co53)) (fun _ hk => hk.1.2)⟩
        have n5_ : Aside0 (((w48.setCell ⟨gb629, 0, none⟩ (.slice Ao49 t622.length co49)).setCell ⟨gb629, 1, none⟩ (.slice Ao53 t625.length co53)).heap[gb608]? = some (.cells #[.slice Ao8 t602.length co8, .slice Ao10 t605.length co10] 26 (0, 0))) := ⟨zf BK608⟩
        have n6_ : Aside0 (((w48.setCell ⟨gb629, 0, none⟩ (.slice Ao49 t622.length co49)).setCell ⟨gb629, 1, none⟩ (.slice Ao53 t625.length co53)).heap[gb612]? = some (.cells #[.slice Ao13 t609.length co13] 40 (0, 0))) := ⟨zf BK612⟩
        have n7_ : Aside0 (((w48.setCell ⟨gb629, 0, none⟩ (.slice Ao49 t622.length co49)).setCell ⟨gb629, 1, none⟩ (.slice Ao53 t625.length co53)).heap[gb629]? = some (.cells #[.slice Ao49 t622.length co49, .slice Ao53 t625.length co53] 26 (0, 0))) := ⟨by (with_reducible repeat (first | refine blk_drewN ?_ _ | refine blk_drew ?_ | refine blk_alloc ?_ _)); refine blk_put (cs := #[.slice Ao49 t622.length co49, .slice none 0 0]) ?_ 1 _ rfl; (with_reducible repeat (first | refine blk_drewN ?_ _ | refine blk_drew ?_ | refine blk_alloc ?_ _)); refine blk_put (cs := #[.slice none 0 0, .slice none 0 0]) ?_ 0 _ rfl; (with_reducible repeat (first | refine blk_drewN ?_ _ | refine blk_drew ?_ | refine blk_alloc ?_ _)); exact BK629.out⟩
        have n8_ : Aside0 (Below w.heap.size w ((w48.setCell ⟨gb629, 0, none⟩ (.slice Ao49 t622.length co49)).setCell ⟨gb629, 1, none⟩ (.slice Ao53 t625.length co53))) := ⟨zB HB⟩
        (try clear HO_609000); (try clear HO_609001); (try clear HO_613000); (try clear HO624); (try clear HO627); (try clear BK608); (try clear BK612); (try clear BK629); (try clear HB); generalize ((w48.setCell ⟨gb629, 0, none⟩ (.slice Ao49 t622.length co49)).setCell ⟨gb629, 1, none⟩ (.slice Ao53 t625.length co53)) = w54 at n0_ n1_ n2_ n3_ n4_ n5_ n6_ n7_ n8_ ⊢; have HO_609000 := n0_; have HO_609001 := n1_; have HO_613000 := n2_; have HO624 := n3_; have HO627 := n4_; have BK608 := n5_; have BK612 := n6_; have BK629 := n7_; have HB := n8_; clear n0_ n1_ n2_ n3_ n4_ n5_ n6_ n7_ n8_; replace HO_609000 := Aside0.mk (Kd.R_drew HO_609000.out); replace HO_609001 := Aside0.mk (Kd.R_drew HO_609001.out); replace HO_613000 := Aside0.mk (Kd.S_drew HO_613000.out); replace HO624 := Aside0.mk (Kd.R_drew HO624.out); replace HO627 := Aside0.mk (Kd.R_drew HO627.out); replace BK608 := Aside0.mk (blk_drew BK608.out); replace BK612 := Aside0.mk (blk_drew BK612.out); replace BK629 := Aside0.mk (blk_drew BK629.out); replace HB := Aside0.mk (below_drew1 HB.out); refine start_ (n := 19) (S := fun w' => w'.cell? ⟨gb629, 0, none⟩ = some (.slice Ao49 t622.length co49) ∧ w'.cell? ⟨gb629, 1, none⟩ = some (.slice Ao53 t625.length co53) ∧ w'.cell? ⟨gb608, 0, none⟩ = some (.slice Ao8 t602.length co8) ∧ w'.cell? ⟨gb608, 1, none⟩ = some (.slice Ao10 t605.length co10) ∧ w'.cell? ⟨gb612, 0, none⟩ = some (.slice Ao13 t609.length co13)) (ds := []) #[false, false, false, false, false, false, false, false, false, false, false, false, false, false, false, false, false, false, false] (by kernel_rfl) rfl rfl ⟨(blk_cell BK629.out 0).trans rfl, (blk_cell BK629.out 1).trans rfl, (blk_cell BK608.out 0).trans rfl, (blk_cell BK608.out 1).trans rfl, (blk_cell BK612.out 0).trans rfl⟩ (fun hHeld => ?_); refine with_tabW laws_FnCallOf.tab8 laws_FnCallOf.bits8 (fun HT_ HW_ => ?_); generalize w54.drew = w55 at HO_609000 HO_609001 HO_613000 HO624 HO627 BK608 BK612 BK629 HB hHeld ⊢; refine pure_ (i := 0) (N := some 33) (v := ?_) (a' := ?_) #[true, false, false, false, false, false, false, false, false, false, false, false, false, false, false, false, false, false, false] rfl rfl (any_of HT_.out (by kernel_rfl)) (fun _ _ _ h => h) (Or.inl ⟨by rfl, ?_⟩) ?_ ?_; rotate_left
        ·intro w'; go_simp; with_reducible rfl
        rotate_left
        ·simp only [Act.put, List.setIfInBounds_toArray, List.set_cons_zero, List.set_cons_succ, i64_w, i32_w]; rfl
        refine pure_ (i := 1) (N := some 34) (v := ?_) (a' := ?_) #[true, true, false, false, false, false, false, false, false, false, false, false, false, false, false, false, false, false, false] rfl rfl (any_of HT_.out (by kernel_rfl)) (fun _ _ _ h => h) (Or.inl ⟨by rfl, ?_⟩) ?_ ?_; rotate_left
        ·intro w'; go_simp; with_reducible rfl
        rotate_left
        ·simp only [Act.put, List.setIfInBounds_toArray, List.set_cons_zero, List.set_cons_succ, i64_w, i32_w]; rfl
        refine take_ (i := 2) (N := some 35) (v := ?_) (a' := ?_) #[true, true, true, false, false, false, false, false, false, false, false, false, false, false, false, false, false, false, false] rfl rfl (take_ofW HT_.out HW_.out (by kernel_rfl)) (fun _ _ _ h => h) (Or.inl ⟨by rfl, ?_⟩) hHeld ?_ ?_; rotate_left
        ·rintro w' ⟨s0, s1, s2, s3, s4⟩; go_simp; with_reducible rfl
        rotate_left
        ·simp only [Act.put, List.setIfInBounds_toArray, List.set_cons_zero, List.set_cons_succ, i64_w, i32_w]; rfl
        refine take_ (i := 3) (N := some 36) (v := ?_) (a' := ?_) #[true, true, true, true, false, false, false, false, false, false, false, false, false, false, false, false, false, false, false] rfl rfl (take_ofW HT_.out HW_.out (by kernel_rfl)) (fun _ _ _ h => h) (Or.inl ⟨by rfl, ?_⟩) hHeld ?_ ?_; rotate_left
        ·rintro w' ⟨s0, s1, s2, s3, s4⟩; go_simp; with_reducible rfl
        rotate_left
        ·simp only [Act.put, List.setIfInBounds_toArray, List.set_cons_zero, List.set_cons_succ, i64_w, i32_w]; rfl
        refine one_ (i := 4) (N := some 37) #[true, true, true, true, true, false, false, false, false, false, false, false, false, false, false, false, false, false, false] rfl rfl (one_of HT_.out (by kernel_rfl)) (by decide) (fun K hK => ?_); refine goes_ Try.func15 (by kernel_rfl) rfl #[.agg #[.slice Ao49 t622.length co49, .slice Ao53 t625.length co53], .agg #[.slice Ao8 t602.length co8, .slice Ao10 t605.length co10]] (by rfl) rfl rfl zl ?_; with_reducible refine (laws_equalFlat.calls kj4 _ _ t622 _ _ t625 _ _ t602 _ _ t605 true _ ?side1 ?side2 ?side3 ?side4 ?side5 ?side6 ?side7 ?side8 A40.out).mono ?_
        (case side1 => repeat (first | exact (Kd.R_reads' HO624.out).2.2 | (with_reducible refine Kd.C_alloc ?_ _) | (with_reducible refine Kd.C_drewN ?_ _) | (with_reducible refine Kd.C_drew ?_)))
        (case side2 => exact (Kd.R_reads' HO624.out).2.1)
        (case side3 => repeat (first | exact (Kd.R_reads' HO627.out).2.2 | (with_reducible refine Kd.C_alloc ?_ _) | (with_reducible refine Kd.C_drewN ?_ _) | (with_reducible refine Kd.C_drew ?_)))
        (case side4 => exact (Kd.R_reads' HO627.out).2.1)
        (case side5 => repeat (first | exact (Kd.R_reads' HO_609000.out).2.2 | (with_reducible refine Kd.C_alloc ?_ _) | (with_reducible refine Kd.C_drewN ?_ _) | (with_reducible refine Kd.C_drew ?_)))
        (case side6 => exact (Kd.R_reads' HO_609000.out).2.1)
        (case side7 => repeat (first | exact (Kd.R_reads' HO_609001.out).2.2 | (with_reducible refine Kd.C_alloc ?_ _) | (with_reducible refine Kd.C_drewN ?_ _) | (with_reducible refine Kd.C_drew ?_)))
        (case side8 => exact (Kd.R_reads' HO_609001.out).2.1)
        rintro e w56 ⟨rfl, hb⟩; refine ⟨_, rfl, ?_⟩; replace HO_609000 := Aside0.mk (Kd.R_below (zo HO_609000) hb); replace HO_609001 := Aside0.mk (Kd.R_below (zo HO_609001) hb); replace HO_613000 := Aside0.mk (Kd.S_below (zoS HO_613000) hb); replace HO624 := Aside0.mk (Kd.R_below (zo HO624) hb); replace HO627 := Aside0.mk (Kd.R_below (zo HO627) hb); replace BK608 := Aside0.mk (blk_below (g := gb608) (o := .cells #[.slice Ao8 t602.length co8, .slice Ao10 t605.length co10] 26 (0, 0)) (zb BK608) hb); replace BK612 := Aside0.mk (blk_below (g := gb612) (o := .cells #[.slice Ao13 t609.length co13] 40 (0, 0)) (zb BK612) hb); replace BK629 := Aside0.mk (blk_below (g := gb629) (o := .cells #[.slice Ao49 t622.length co49, .slice Ao53 t625.length co53] 26 (0, 0)) (zb BK629) hb); replace HB := Aside0.mk (below_step (zB HB) hb); (try clear hb); (try clear hb2); (try clear hk); (try clear hi); refine hK.out _ _ ⟨(blk_cell BK629.out 0).trans rfl, (blk_cell BK629.out 1).trans rfl, (blk_cell BK608.out 0).trans rfl, (blk_cell BK608.out 1).trans rfl, (blk_cell BK612.out 0).trans rfl⟩ (fun hHeld => ?_); clear hK K; refine norm_ (a' := ?_) ?_ ?_; rotate_left
        ·show Act.put _ (some 37) _ = _
         simp only [Act.put, List.setIfInBounds_toArray, List.set_cons_zero, List.set_cons_succ, i64_w, i32_w]; rfl
        refine pure_ (i := 5) (N := some 38) (v := ?_) (a' := ?_) #[true, true, true, true, true, true, false, false, false, false, false, false, false, false, false, false, false, false, false] rfl rfl (any_of HT_.out (by kernel_rfl)) (fun _ _ _ h => h) (Or.inl ⟨by rfl, ?_⟩) ?_ ?_; rotate_left
        ·intro w'; go_simp; with_reducible rfl
        rotate_left
        ·simp only [Act.put, List.setIfInBounds_toArray, List.set_cons_zero, List.set_cons_succ, i64_w, i32_w]; rfl
        refine pure_ (i := 6) (N := some 39) (v := ?_) (a' := ?_) #[true, true, true, true, true, true, true, false, false, false, false, false, false, false, false, false, false, false, false] rfl rfl (any_of HT_.out (by kernel_rfl)) (fun _ _ _ h => h) (Or.inl ⟨by rfl, ?_⟩) ?_ ?_; rotate_left
        ·intro w'; go_simp; with_reducible rfl
        rotate_left
        ·simp only [Act.put, List.setIfInBounds_toArray, List.set_cons_zero, List.set_cons_succ, i64_w, i32_w]; rfl
        refine pure_ (i := 7) (N := some 40) (v := ?_) (a' := ?_) #[true, true, true, true, true, true, true, true, false, false, false, false, false, false, false, false, false, false, false] rfl rfl (any_of HT_.out (by kernel_rfl)) (fun _ _ _ h => h) (Or.inl ⟨by rfl, ?_⟩) ?_ ?_; rotate_left
        ·intro w'; go_simp; with_reducible rfl
        rotate_left
        ·simp only [Act.put, List.setIfInBounds_toArray, List.set_cons_zero, List.set_cons_succ, i64_w, i32_w]; rfl
        refine take_ (i := 8) (N := some 41) (v := ?_) (a' := ?_) #[true, true, true, true, true, true, true, true, true, false, false, false, false, false, false, false, false, false, false] rfl rfl (take_ofW HT_.out HW_.out (by kernel_rfl)) (fun _ _ _ h => h) (Or.inl ⟨by rfl, ?_⟩) hHeld ?_ ?_; rotate_left
        ·rintro w' ⟨s0, s1, s2, s3, s4⟩; go_simp; with_reducible rfl
        rotate_left
        ·simp only [Act.put, List.setIfInBounds_toArray, List.set_cons_zero, List.set_cons_succ, i64_w, i32_w]; rfl
        refine pure_ (i := 9) (N := some 42) (v := ?_) (a' := ?_) #[true, true, true, true, true, true, true, true, true, true, false, false, false, false, false, false, false, false, false] rfl rfl (any_of HT_.out (by kernel_rfl)) (fun _ _ _ h => h) (Or.inl ⟨by rfl, ?_⟩) ?_ ?_; rotate_left
        ·intro w'; go_simp; with_reducible rfl
        rotate_left
        ·simp only [Act.put, List.setIfInBounds_toArray, List.set_cons_zero, List.set_cons_succ, i64_w, i32_w]; rfl
        refine take_ (i := 10) (N := some 43) (v := ?_) (a' := ?_) #[true, true, true, true, true, true, true, true, true, true, true, false, false, false, false, false, false, false, false] rfl rfl (take_ofW HT_.out HW_.out (by kernel_rfl)) (fun _ _ _ h => h) (Or.inl ⟨by rfl, ?_⟩) hHeld ?_ ?_; rotate_left
        ·rintro w' ⟨s0, s1, s2, s3, s4⟩; go_simp; with_reducible rfl
        rotate_left
        ·simp only [Act.put, List.setIfInBounds_toArray, List.set_cons_zero, List.set_cons_succ, i64_w, i32_w]; rfl
        refine one_ (i := 11) (N := some 44) #[true, true, true, true, true, true, true, true, true, true, true, true, false, false, false, false, false, false, false] rfl rfl (one_of HT_.out (by kernel_rfl)) (by decide) (fun K hK => ?_); refine goes_ Try.func28 (by kernel_rfl) rfl #[.agg #[.slice Ao8 t602.length co8, .slice Ao10 t605.length co10]] (by rfl) rfl rfl zl ?_; with_reducible refine (laws_size.calls _ _ t602 _ _ t605 t631 _ ?side1 ?side2 ?side3 ?side4 A42.out).mono ?_
        (case side1 => repeat (first | exact (Kd.R_reads' HO_609000.out).2.2 | (with_reducible refine Kd.C_alloc ?_ _) | (with_reducible refine Kd.C_drewN ?_ _) | (with_reducible refine Kd.C_drew ?_)))
        (case side2 => exact (Kd.R_reads' HO_609000.out).2.1)
        (case side3 => repeat (first | exact (Kd.R_reads' HO_609001.out).2.2 | (with_reducible refine Kd.C_alloc ?_ _) | (with_reducible refine Kd.C_drewN ?_ _) | (with_reducible refine Kd.C_drew ?_)))
        (case side4 => exact (Kd.R_reads' HO_609001.out).2.1)
        rintro e w57 ⟨rfl, hb⟩; refine ⟨_, rfl, ?_⟩; replace HO_609000 := Aside0.mk (Kd.R_below (zo HO_609000) hb); replace HO_609001 := Aside0.mk (Kd.R_below (zo HO_609001) hb); replace HO_613000 := Aside0.mk (Kd.S_below (zoS HO_613000) hb); replace HO624 := Aside0.mk (Kd.R_below (zo HO624) hb); replace HO627 := Aside0.mk (Kd.R_below (zo HO627) hb); replace BK608 := Aside0.mk (blk_below (g := gb608) (o := .cells #[.slice Ao8 t602.length co8, .slice Ao10 t605.length co10] 26 (0, 0)) (zb BK608) hb); replace BK612 := Aside0.mk (blk_below (g := gb612) (o := .cells #[.slice Ao13 t609.length co13] 40 (0, 0)) (zb BK612) hb); replace BK629 := Aside0.mk (blk_below (g := gb629) (o := .cells #[.slice Ao49 t622.length co49, .slice Ao53 t625.length co53] 26 (0, 0)) (zb BK629) hb); replace HB := Aside0.mk (below_step (zB HB) hb); (try clear hb); (try clear hb2); (try clear hk); (try clear hi); refine hK.out _ _ ⟨(blk_cell BK629.out 0).trans rfl, (blk_cell BK629.out 1).trans rfl, (blk_cell BK608.out 0).trans rfl, (blk_cell BK608.out 1).trans rfl, (blk_cell BK612.out 0).trans rfl⟩ (fun hHeld => ?_); clear hK K; refine norm_ (a' := ?_) ?_ ?_; rotate_left
        ·show Act.put _ (some 44) _ = _
         simp only [Act.put, List.setIfInBounds_toArray, List.set_cons_zero, List.set_cons_succ, i64_w, i32_w]; rfl
        refine pure_ (i := 12) (N := some 45) (v := ?_) (a' := ?_) #[true, true, true, true, true, true, true, true, true, true, true, true, true, false, false, false, false, false, false] rfl rfl (any_of HT_.out (by kernel_rfl)) (fun _ _ _ h => h) (Or.inl ⟨by rfl, ?_⟩) ?_ ?_; rotate_left
        ·intro w'; go_simp; with_reducible rfl
        rotate_left
        ·simp only [Act.put, List.setIfInBounds_toArray, List.set_cons_zero, List.set_cons_succ, i64_w, i32_w]; rfl
        refine pure_ (i := 13) (N := some 46) (v := ?_) (a' := ?_) #[true, true, true, true, true, true, true, true, true, true, true, true, true, true, false, false, false, false, false] rfl rfl (any_of HT_.out (by kernel_rfl)) (fun _ _ _ h => h) (Or.inl ⟨by rfl, ?_⟩) ?_ ?_; rotate_left
        ·intro w'; go_simp; with_reducible rfl
        rotate_left
        ·simp only [Act.put, List.setIfInBounds_toArray, List.set_cons_zero, List.set_cons_succ, i64_w, i32_w]; rfl
        refine pure_ (i := 14) (N := some 47) (v := ?_) (a' := ?_) #[true, true, true, true, true, true, true, true, true, true, true, true, true, true, true, false, false, false, false] rfl rfl (any_of HT_.out (by kernel_rfl)) (fun _ _ _ h => h) (Or.inl ⟨by rfl, ?_⟩) ?_ ?_; rotate_left
        ·intro w'; go_simp; with_reducible rfl
        rotate_left
        ·simp only [Act.put, List.setIfInBounds_toArray, List.set_cons_zero, List.set_cons_succ, i64_w, i32_w]; rfl
        refine take_ (i := 15) (N := some 48) (v := ?_) (a' := ?_) #[true, true, true, true, true, true, true, true, true, true, true, true, true, true, true, true, false, false, false] rfl rfl (take_ofW HT_.out HW_.out (by kernel_rfl)) (fun _ _ _ h => h) (Or.inl ⟨by rfl, ?_⟩) hHeld ?_ ?_; rotate_left
        ·rintro w' ⟨s0, s1, s2, s3, s4⟩; go_simp; with_reducible rfl
        rotate_left
        ·simp only [Act.put, List.setIfInBounds_toArray, List.set_cons_zero, List.set_cons_succ, i64_w, i32_w]; rfl
        refine one_ (i := 16) (N := some 49) #[true, true, true, true, true, true, true, true, true, true, true, true, true, true, true, true, true, false, false] rfl rfl (one_of HT_.out (by kernel_rfl)) (by decide) (fun K hK => ?_); refine goes_ Try.func24 (by kernel_rfl) rfl #[.agg #[.slice Ao13 t609.length co13]] (by rfl) rfl rfl zl ?_; with_reducible refine (impl_ValidCall.calls kj4 _ _ t609 t632 _ ?side1 ?side2 A44.out).mono ?_
        (case side1 => repeat (first | exact (Kd.S_reads' HO_613000.out).2.2 | (with_reducible refine Kd.C_alloc ?_ _) | (with_reducible refine Kd.C_drewN ?_ _) | (with_reducible refine Kd.C_drew ?_)))
        (case side2 => exact (Kd.S_reads' HO_613000.out).2.1)
        rintro e w58 ⟨rfl, hb⟩; refine ⟨_, rfl, ?_⟩; replace HO_609000 := Aside0.mk (Kd.R_below (zo HO_609000) hb); replace HO_609001 := Aside0.mk (Kd.R_below (zo HO_609001) hb); replace HO_613000 := Aside0.mk (Kd.S_below (zoS HO_613000) hb); replace HO624 := Aside0.mk (Kd.R_below (zo HO624) hb); replace HO627 := Aside0.mk (Kd.R_below (zo HO627) hb); replace BK608 := Aside0.mk (blk_below (g := gb608) (o := .cells #[.slice Ao8 t602.length co8, .slice Ao10 t605.length co10] 26 (0, 0)) (zb BK608) hb); replace BK612 := Aside0.mk (blk_below (g := gb612) (o := .cells #[.slice Ao13 t609.length co13] 40 (0, 0)) (zb BK612) hb); replace BK629 := Aside0.mk (blk_below (g := gb629) (o := .cells #[.slice Ao49 t622.length co49, .slice Ao53 t625.length co53] 26 (0, 0)) (zb BK629) hb); replace HB := Aside0.mk (below_step (zB HB) hb); (try clear hb); (try clear hb2); (try clear hk); (try clear hi); refine hK.out _ _ ⟨(blk_cell BK629.out 0).trans rfl, (blk_cell BK629.out 1).trans rfl, (blk_cell BK608.out 0).trans rfl, (blk_cell BK608.out 1).trans rfl, (blk_cell BK612.out 0).trans rfl⟩ (fun hHeld => ?_); clear hK K; refine norm_ (a' := ?_) ?_ ?_; rotate_left
        ·show Act.put _ (some 49) _ = _
         simp only [Act.put, List.setIfInBounds_toArray, List.set_cons_zero, List.set_cons_succ, i64_w, i32_w]; rfl
        refine pure_ (i := 17) (N := some 50) (v := ?_) (a' := ?_) #[true, true, true, true, true, true, true, true, true, true, true, true, true, true, true, true, true, true, false] rfl rfl (any_of HT_.out (by kernel_rfl)) (fun _ _ _ h => h) (Or.inl ⟨by rfl, ?_⟩) ?_ ?_; rotate_left
        ·intro w'; go_simp; with_reducible rfl
        rotate_left
        ·simp only [Act.put, List.setIfInBounds_toArray, List.set_cons_zero, List.set_cons_succ, i64_w, i32_w]; rfl
        refine pure_ (i := 18) (N := some 2) (v := ?_) (a' := ?_) #[true, true, true, true, true, true, true, true, true, true, true, true, true, true, true, true, true, true, true] rfl rfl (any_of HT_.out (by kernel_rfl)) (fun _ _ _ h => h) (Or.inl ⟨by rfl, ?_⟩) ?_ ?_; rotate_left
        ·intro w'; go_simp; with_reducible rfl
        rotate_left
        ·simp only [Act.put, List.setIfInBounds_toArray, List.set_cons_zero, List.set_cons_succ, i64_w, i32_w]; rfl
        refine done_ (done_of HT_.out (by kernel_rfl)) ?_
        try go_wp2
        go_ret; exact ⟨by first | rfl | (simp [errW_none, errW_some] <;> rfl) | (simp [*, errW_none, errW_some] <;> rfl), zB HB⟩
       ·rw [if_neg c43] at H; have c43b0 : ((t609.length : Int) == t631) = false := beq_eq_false_iff_ne.mpr c43; have c43b1 : ((t609.length : Int) != t631) = true := bne_iff_ne.mpr c43; obtain rfl := Option.some.inj H; exact absurd HR_.out (by decide)
      ·replace c41 := Bool.eq_false_iff.mpr c41; subst c41; rw [if_neg (show ¬ (false = true) by decide)] at H; obtain rfl := Option.some.inj H; exact absurd HR_.out (by decide)
     ·replace c39 := Bool.eq_false_iff.mpr c39; subst c39; rw [if_neg (show ¬ (false = true) by decide)] at H; obtain rfl := Option.some.inj H; exact absurd HR_.out (by decide)

/-- THE ONE PURE STATEMENT of laws_FnCallOf: yours. -/
def laws_FnCallOf.Pure : Prop := ∀ (l0 : List Int), l0.length ≤ maxLen → l0.length * 1 ≤ 140737488351232 → (∀ x ∈ l0, (Lit.int .u8 x).wf = true) → ∃ k, laws_FnCallOf.f k l0 = some true
theorem laws_FnCallOf.walk (P : laws_FnCallOf.Pure) (a0 : Option Addr) (len0 cap0 : Nat) (z0 : List Int) (w : World) (w0 : (a0 = none ∧ len0 = 0 ∧ cap0 = 0 ∧ z0 = []) ∨ ∃ x, a0 = some x ∧ len0 ≤ cap0 ∧ cap0 ≤ maxLen ∧ z0.length = cap0 ∧ (∀ i, i < z0.length → w.cell? (x.add i) = some (.int .u8 (z0.getD i 0))) ∧ ∀ n ∈ z0, (Lit.int .u8 n).wf = true) (y0 : len0 * 1 ≤ 140737488351232) :
  Calls Try.prog 6 #[.slice a0 len0 cap0] w fun e w' => e = .returned (.bool true) ∧ Below w.heap.size w w' := by
 obtain ⟨l0, rfl, hr0, hm0, hw0, hc0⟩ := ReadsInt.ofRowC w0; obtain ⟨k, h⟩ := P l0 hm0 y0 hw0; refine (laws_FnCallOf.calls k _ _ l0 true w (Kd.C_of_reads (d := (0 : Int)) (h1 := fun _ => rfl) hr0) hc0 h rfl).mono ?_; rintro e w' ⟨rfl, hd⟩; exact ⟨rfl, hd⟩

end Go.Proofs.Ytfcpbgedgedalaa.Q
