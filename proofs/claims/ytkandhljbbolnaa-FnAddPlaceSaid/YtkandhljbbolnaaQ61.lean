-- written by px.py (a program of this claim's), over the kit's print. Not trusted: Lean checks it.
import Derived.Test.YtkandhljbbolnaaQ0
import Derived.Test.YtkandhljbbolnaaQ49
import Derived.Test.YtkandhljbbolnaaQ56
import Derived.Test.YtkandhljbbolnaaQ58
import Derived.Test.YtkandhljbbolnaaQ59
import Derived.Test.YtkandhljbbolnaaQ60
namespace Go.Proofs.Ytkandhljbbolnaa.Q
open Go.RowKit Go.Proofs.YtkandhljbbolnaaL.PrintWords Go.Proofs.YtkandhljbbolnaaL.PrintLast Go.Proofs.YtkandhljbbolnaaL.PrintMore
attribute [local go_sem] max2_int min2_int max_two min_two max_three min_three max_four min_four   -- for this text's walks alone
set_option linter.unusedVariables false
set_option linter.unusedSimpArgs false

/-! ### laws_FnAddPlace: function 7 -/
def laws_FnAddPlace.j0 : Nat → Int → Bool → Bool → Bool → List Int → List (S94) → List Int → List (S94) → List Int → List (S94) → Option (Bool)
  | 0, _, _, _, _, _, _, _, _, _, _ => none
  | k + 1, x4, x6, x8, x42, x635000, x635001, x643000, x643001, x651000, x651001 => if x42 = true then ((laws_equalFlat.f k x643000 x643001 x651000 x651001).bind fun t652 => (if t652 = true then (some (x6 == x8)) else (some false))) else (if 0 ≤ (x635000.length : Int) then (if (x635000.length : Int) ≤ (x643000.length : Int) then ((laws_equalInts.f k (x643000.take ((x635000.length : Int) : Int).toNat) x635000).bind fun t657 => (if t657 = true then (if (x635000.length : Int) < (x643000.length : Int) then (if (rd x643000 (x635000.length : Int)) = x4 then (if (x643000.length : Int) = (wrap64 ((x635000.length : Int) + 1)) then ((laws_equalPairs.f k x643001 x635001).bind fun t659 => (some t659)) else (some false)) else (some false)) else (none)) else (some false))) else (none)) else (none))
def laws_FnAddPlace.f (k : Nat) (l0 : List Int) : Option (Bool) := if (l0.length : Int) > 1048576 then (some true) else ((spec_DrawAddPlace.f k l0).bind fun bt627 => ((impl_AddPlace.f k bt627.1 bt627.2.1 bt627.2.2).bind fun bt635 => ((spec_AddPlace.f k bt627.1 bt627.2.1 bt627.2.2).bind fun bt643 => ((laws_equalFlat.f k bt635.1 bt635.2.1 bt643.1 bt643.2.1).bind fun t651 => (if t651 = true then (if (bt635.2.2 != bt643.2.2) = true then (laws_FnAddPlace.j0 k bt627.2.2 bt635.2.2 bt643.2.2 true bt627.1 bt627.2.1 bt635.1 bt635.2.1 bt643.1 bt643.2.1) else (laws_FnAddPlace.j0 k bt627.2.2 bt635.2.2 bt643.2.2 (!bt635.2.2) bt627.1 bt627.2.1 bt635.1 bt635.2.1 bt643.1 bt643.2.1)) else (laws_FnAddPlace.j0 k bt627.2.2 bt635.2.2 bt643.2.2 true bt627.1 bt627.2.1 bt635.1 bt635.2.1 bt643.1 bt643.2.1))))))
theorem laws_FnAddPlace.mono_l : ∀ k, (∀ y0 y1 y2 y3 y4 y5 y6 y7 y8 y9, LeO (laws_FnAddPlace.j0 k y0 y1 y2 y3 y4 y5 y6 y7 y8 y9) (laws_FnAddPlace.j0 (k + 1) y0 y1 y2 y3 y4 y5 y6 y7 y8 y9))
  | 0 => fun _ _ _ _ _ _ _ _ _ _ r h => by simp [laws_FnAddPlace.j0] at h
  | k + 1 => by
    have ih0 := laws_FnAddPlace.mono_l k
    · intro y0 y1 y2 y3 y4 y5 y6 y7 y8 y9
      unfold laws_FnAddPlace.j0
      repeat' first
      | (with_reducible exact ih0 _ _ _ _ _ _ _ _ _ _)
      | (with_reducible exact impl_AddPlace.mono _ _ _ _)
      | (with_reducible exact laws_equalFlat.mono _ _ _ _ _)
      | (with_reducible exact laws_equalInts.mono _ _ _)
      | (with_reducible exact laws_equalPairs.mono _ _ _)
      | (with_reducible exact spec_AddPlace.mono _ _ _ _)
      | (with_reducible exact spec_DrawAddPlace.mono _ _)
      | (with_reducible exact LeO.refl _)
      | (with_reducible exact LeO.none _)
      | (with_reducible refine LeO.ite ?_ ?_)
      | (with_reducible refine LeO.bind ?_ (fun _ => ?_))
      | exact ih0 _ _ _ _ _ _ _ _ _ _
      | exact impl_AddPlace.mono _ _ _ _
      | exact laws_equalFlat.mono _ _ _ _ _
      | exact laws_equalInts.mono _ _ _
      | exact laws_equalPairs.mono _ _ _
      | exact spec_AddPlace.mono _ _ _ _
      | exact spec_DrawAddPlace.mono _ _
      | exact LeO.none _
      | refine LeO.ite ?_ ?_
      | refine LeO.bind ?_ (fun _ => ?_)
theorem laws_FnAddPlace.mono : ∀ a0 k, LeO (laws_FnAddPlace.f k a0) (laws_FnAddPlace.f (k + 1) a0) := by
  intro a0 k
  have ih0 := laws_FnAddPlace.mono_l k
  unfold laws_FnAddPlace.f
  repeat' first
      | (with_reducible exact ih0 _ _ _ _ _ _ _ _ _ _)
      | (with_reducible exact impl_AddPlace.mono _ _ _ _)
      | (with_reducible exact laws_equalFlat.mono _ _ _ _ _)
      | (with_reducible exact laws_equalInts.mono _ _ _)
      | (with_reducible exact laws_equalPairs.mono _ _ _)
      | (with_reducible exact spec_AddPlace.mono _ _ _ _)
      | (with_reducible exact spec_DrawAddPlace.mono _ _)
      | (with_reducible exact LeO.refl _)
      | (with_reducible exact LeO.none _)
      | (with_reducible refine LeO.ite ?_ ?_)
      | (with_reducible refine LeO.bind ?_ (fun _ => ?_))
      | exact ih0 _ _ _ _ _ _ _ _ _ _
      | exact impl_AddPlace.mono _ _ _ _
      | exact laws_equalFlat.mono _ _ _ _ _
      | exact laws_equalInts.mono _ _ _
      | exact laws_equalPairs.mono _ _ _
      | exact spec_AddPlace.mono _ _ _ _
      | exact spec_DrawAddPlace.mono _ _
      | exact LeO.none _
      | refine LeO.ite ?_ ?_
      | refine LeO.bind ?_ (fun _ => ?_)
def laws_FnAddPlace.T9 : Bool × List (List Nat × List Nat) := (true, [([], []), ([0], [0]), ([], []), ([1, 2], [1, 2]), ([], []), ([4], [4]), ([3, 5], [3, 5]), ([6, 6], [6]), ([7], [7]), ([8, 7], [7, 8]), ([7], [7]), ([9, 10, 7], [7, 9, 10]), ([11, 7], [7, 11]), ([7], [7]), ([12, 13, 7], [7, 12, 13]), ([7, 14], [7, 14]), ([15, 7], [15]), ([16], [16]), ([17, 16], [16, 17]), ([18, 16], [16, 18]), ([16], [16]), ([20, 16], [16, 20]), ([19, 21, 16], [16, 19, 21]), ([16, 22], [16, 22]), ([23, 16], [23]), ([24], [24]), ([25, 24], [24, 25]), ([24], [24]), ([27, 24], [24, 27]), ([26, 28, 24, 24], [24, 26, 28]), ([24, 29], [24, 29]), ([30, 29, 0, 1, 2, 3, 4, 5, 6, 7, 8, 9, 10, 11, 12, 13, 14, 15, 16, 17, 18, 19, 20, 21, 22, 23, 24, 25, 26, 27, 28, 29, 30], [30])])
def laws_FnAddPlace.B9 : List Nat := [0, 1, 0, 7, 0, 16, 63, 127, 255, 511, 255, 2047, 4095, 255, 16383, 32767, 65535, 131071, 262143, 524287, 131071, 1179647, 4194303, 8388607, 16777215, 33554431, 67108863, 33554431, 167772159, 536870911, 1073741823, 2147483647]
theorem laws_FnAddPlace.tab9 : rtab .any (opsOf Try.f7 9) = laws_FnAddPlace.T9 := by kernel_rfl
theorem laws_FnAddPlace.bits9 : waitsOk laws_FnAddPlace.T9.2 laws_FnAddPlace.B9 = true := by kernel_rfl
set_option maxHeartbeats 8000000 in
set_option maxRecDepth 100000 in
theorem laws_FnAddPlace.calls (k : Nat) (A0 : Option Addr) (c0 : Nat) (l0 : List Int) (r : Bool) (w : World) (hr0 : Kd.C (Kd.int .u8) w A0 l0.length l0) (hc0 : l0.length ≤ c0) (h : laws_FnAddPlace.f k l0 = some r) (hr_ : r = true) :
    Calls Try.prog 7 #[.slice A0 l0.length c0] w fun e w' => e = .returned (.bool r) ∧ Below w.heap.size w w' := by
  have hu30 := Try.underlying30
  have HR_ := Aside0.mk hr_
  clear hr_
  have HR0 := Aside0.mk hr0
  have HC0 := Aside0.mk hc0
  clear hr0 hc0
  have HB := Aside0.mk (Below.refl w.heap.size w)
  have H : (if (l0.length : Int) > 1048576 then (some true) else ((spec_DrawAddPlace.f k l0).bind fun bt627 => ((impl_AddPlace.f k bt627.1 bt627.2.1 bt627.2.2).bind fun bt635 => ((spec_AddPlace.f k bt627.1 bt627.2.1 bt627.2.2).bind fun bt643 => ((laws_equalFlat.f k bt635.1 bt635.2.1 bt643.1 bt643.2.1).bind fun t651 => (if t651 = true then (if (bt635.2.2 != bt643.2.2) = true then (laws_FnAddPlace.j0 k bt627.2.2 bt635.2.2 bt643.2.2 true bt627.1 bt627.2.1 bt635.1 bt635.2.1 bt643.1 bt643.2.1) else (laws_FnAddPlace.j0 k bt627.2.2 bt635.2.2 bt643.2.2 (!bt635.2.2) bt627.1 bt627.2.1 bt635.1 bt635.2.1 bt643.1 bt643.2.1)) else (laws_FnAddPlace.j0 k bt627.2.2 bt635.2.2 bt643.2.2 true bt627.1 bt627.2.1 bt635.1 bt635.2.1 bt643.1 bt643.2.1))))))) = some r := h
  clear h
  by_cases c2 : (l0.length : Int) > 1048576
  · rw [if_pos c2] at H
    have c2b0 : decide (1048576 < (l0.length : Int)) = true := decide_eq_true c2
    have c2b1 : decide (1048576 < l0.length) = true := decide_eq_true (by omega)
    clear c2
    obtain rfl := Option.some.inj H
    go_enter Try.func7, Try.ntmps7
    go_wp2
    go_ret
    exact ⟨by first | rfl | (simp [errW_none, errW_some] <;> rfl) | (simp [*, errW_none, errW_some] <;> rfl), by repeat (first | (with_reducible first | exact HB.out | apply below_alloc | apply pw_below_drewN | apply below_drew1) | exact HB.out)⟩
  · rw [if_neg c2] at H
    have c2b0 : decide (1048576 < (l0.length : Int)) = false := decide_eq_false c2
    have c2b1 : decide (1048576 < l0.length) = false := decide_eq_false (by omega)
    clear c2
    replace H := Option.bind_eq_some_iff.mp H
    obtain ⟨⟨t627, t630, t633⟩, A30, H⟩ := H
    replace H : ((impl_AddPlace.f k t627 t630 t633).bind fun bt635 => ((spec_AddPlace.f k t627 t630 t633).bind fun bt643 => ((laws_equalFlat.f k bt635.1 bt635.2.1 bt643.1 bt643.2.1).bind fun t651 => (if t651 = true then (if (bt635.2.2 != bt643.2.2) = true then (laws_FnAddPlace.j0 k t633 bt635.2.2 bt643.2.2 true t627 t630 bt635.1 bt635.2.1 bt643.1 bt643.2.1) else (laws_FnAddPlace.j0 k t633 bt635.2.2 bt643.2.2 (!bt635.2.2) t627 t630 bt635.1 bt635.2.1 bt643.1 bt643.2.1)) else (laws_FnAddPlace.j0 k t633 bt635.2.2 bt643.2.2 true t627 t630 bt635.1 bt635.2.1 bt643.1 bt643.2.1))))) = some r := H
    have A3 := Aside0.mk A30
    clear A30
    replace H := Option.bind_eq_some_iff.mp H
    obtain ⟨⟨t635, t638, t641⟩, A40, H⟩ := H
    replace H : ((spec_AddPlace.f k t627 t630 t633).bind fun bt643 => ((laws_equalFlat.f k t635 t638 bt643.1 bt643.2.1).bind fun t651 => (if t651 = true then (if (t641 != bt643.2.2) = true then (laws_FnAddPlace.j0 k t633 t641 bt643.2.2 true t627 t630 t635 t638 bt643.1 bt643.2.1) else (laws_FnAddPlace.j0 k t633 t641 bt643.2.2 (!t641) t627 t630 t635 t638 bt643.1 bt643.2.1)) else (laws_FnAddPlace.j0 k t633 t641 bt643.2.2 true t627 t630 t635 t638 bt643.1 bt643.2.1)))) = some r := H
    have A4 := Aside0.mk A40
    clear A40
    replace H := Option.bind_eq_some_iff.mp H
    obtain ⟨⟨t643, t646, t649⟩, A50, H⟩ := H
    replace H : ((laws_equalFlat.f k t635 t638 t643 t646).bind fun t651 => (if t651 = true then (if (t641 != t649) = true then (laws_FnAddPlace.j0 k t633 t641 t649 true t627 t630 t635 t638 t643 t646) else (laws_FnAddPlace.j0 k t633 t641 t649 (!t641) t627 t630 t635 t638 t643 t646)) else (laws_FnAddPlace.j0 k t633 t641 t649 true t627 t630 t635 t638 t643 t646))) = some r := H
    have A5 := Aside0.mk A50
    clear A50
    have HC6 := Aside0.mk H
    clear H
    go_enter Try.func7, Try.ntmps7
    go_upto_region 6 with (first | ((with_reducible refine gate_callee (f := 31) rfl ?_); refine goesL_ (some 15) rfl rfl Try.func31 (by kernel_rfl) rfl #[.slice A0 l0.length c0] rfl (by (try simp only [List.map_toArray, List.map_cons, List.map_nil]); first | done | rfl | (simp only [List.length_drop, List.length_take]; rfl)) ?_; (with_reducible refine (spec_DrawAddPlace.calls k _ _ l0 t627 t630 t633 _ ?side1 ?side2 A3.out).mono ?_); (case side1 => repeat (first | exact HR0.out | (with_reducible refine Kd.C_alloc ?_ _) | (with_reducible refine Kd.C_drewN ?_ _) | (with_reducible refine Kd.C_drew ?_))); (case side2 => exact HC0.out); rintro e w7 ⟨v628, v631, rfl, ho0, ho1, hb⟩; refine ⟨_, rfl, ?_⟩; have n0_ := Aside0.mk (Kd.R_lower ho0 (below_size (by repeat (first | (with_reducible first | exact HB.out | apply below_alloc | apply pw_below_drewN | apply below_drew1) | exact HB.out)))); have n1_ := Aside0.mk (Kd.R_lower ho1 (below_size (by repeat (first | (with_reducible first | exact HB.out | apply below_alloc | apply pw_below_drewN | apply below_drew1) | exact HB.out)))); have n2_ := Aside0.mk (below_step (by repeat (first | (with_reducible first | exact HB.out | apply below_alloc | apply pw_below_drewN | apply below_drew1) | exact HB.out)) hb); clear HB; have HO629 := n0_; have HO632 := n1_; have HB := n2_; clear n0_ n1_ n2_; (try clear hb); (try clear hb2); (try clear hk); (try clear hi); (try clear ho0); (try clear ho1)) | ((with_reducible refine gate_dst (N := 3) rfl ?_); refine box_event ?hg (N := 3) ?hd (cs := #[.slice none 0 0, .slice none 0 0]) (t := 30) ?hr ?_; (case hd => rfl); (case hg => rfl); (case hr => first | (go_simp; done) | (go_simp; rfl)); intro gb634 hg w8 hbox hb; have n0_ := Aside0.mk (Kd.R_below (by (with_reducible repeat (first | apply Kd.R_alloc | apply Kd.R_drewN | apply Kd.R_drew)); exact HO629.out) hb); have n1_ := Aside0.mk (Kd.R_below (by (with_reducible repeat (first | apply Kd.R_alloc | apply Kd.R_drewN | apply Kd.R_drew)); exact HO632.out) hb); have n2_ := Aside0.mk (below_step (by repeat (first | (with_reducible first | exact HB.out | apply below_alloc | apply pw_below_drewN | apply below_drew1) | exact HB.out)) hb); have n3_ := Aside0.mk (hbox); have n4_ := Aside0.mk ((by rw [hg]; exact (below_size (by repeat (first | (with_reducible first | exact HB.out | apply below_alloc | apply pw_below_drewN | apply below_drew1) | exact HB.out))) : w.heap.size ≤ gb634)); have n5_ := Aside0.mk ((by rw [hg]; exact (below_size (by repeat (first | (with_reducible first | exact HB.out | apply below_alloc | apply pw_below_drewN | apply below_drew1) | exact HB.out))) : w.heap.size ≤ gb634)); clear HO629; clear HO632; clear HB; have HO629 := n0_; have HO632 := n1_; have HB := n2_; have BK634 := n3_; have GW634 := n4_; have GE634 := n5_; clear n0_ n1_ n2_ n3_ n4_ n5_; clear hb hbox hg; obtain ⟨Ao9, co9, eo9⟩ := Kd.R_slice HO629.out; subst eo9; have hcz10_0 : w8.cell? ⟨gb634, 0, none⟩ = some (.slice none 0 0) := (blk_cell BK634.out 0).trans rfl; have hcz10_1 : w8.cell? ⟨gb634, 1, none⟩ = some (.slice none 0 0) := (blk_cell BK634.out 1).trans rfl; have hfz10_0 := blk_frozen BK634.out 0; have hfz10_1 := blk_frozen BK634.out 1; obtain ⟨Ao11, co11, eo11⟩ := Kd.R_slice HO632.out; subst eo11) | ((with_reducible refine gate_callee (f := 32) rfl ?_); refine goesL_ (some 21) rfl rfl Try.func32 (by kernel_rfl) rfl #[.agg #[.slice Ao9 t627.length co9, .slice Ao11 t630.length co11], .int .i64 t633] rfl (by (try simp only [List.map_toArray, List.map_cons, List.map_nil]); first | done | rfl | (simp only [List.length_drop, List.length_take]; rfl)) ?_; (with_reducible refine (impl_AddPlace.calls k _ _ t627 _ _ t630 t633 t635 t638 t641 _ ?side1 ?side2 ?side3 ?side4 A4.out).mono ?_); (case side1 => refine (Kd.R_reads' (e := 3) (base := w.heap.size) (ok := fun k_ => True) (n := t627.length) (c := co9) ?_).2.2; exact (by (with_reducible repeat (first | apply Kd.R_alloc | apply Kd.R_drewN | apply Kd.R_drew)); exact (Kd.R_mono (Kd.R_far (p := ⟨gb634, 1, none⟩) (Kd.R_far (p := ⟨gb634, 0, none⟩) (Kd.R_types HO629.out BK634.out (by decide)) (fun _ hk => hk.2) (.slice Ao9 t627.length co9)) (fun _ hk => hk.2) (.slice Ao11 t630.length co11)) (fun _ h_ => h_.1)))); (case side2 => exact (Kd.R_reads' HO629.out).2.1); (case side3 => refine (Kd.R_reads' (e := 94) (base := w.heap.size) (ok := fun k_ => True) (n := t630.length) (c := co11) ?_).2.2; exact (by (with_reducible repeat (first | apply Kd.R_alloc | apply Kd.R_drewN | apply Kd.R_drew)); exact (Kd.R_mono (Kd.R_far (p := ⟨gb634, 1, none⟩) (Kd.R_far (p := ⟨gb634, 0, none⟩) (Kd.R_types HO632.out BK634.out (by decide)) (fun _ hk => hk.2) (.slice Ao9 t627.length co9)) (fun _ hk => hk.2) (.slice Ao11 t630.length co11)) (fun _ h_ => h_.1)))); (case side4 => exact (Kd.R_reads' HO632.out).2.1); rintro e w12 ⟨v636, v639, rfl, ho0, ho1, hb⟩; refine ⟨_, rfl, ?_⟩; have n0_ := Aside0.mk (Kd.R_elder' (by (with_reducible repeat (first | apply Kd.R_alloc | apply Kd.R_drewN | apply Kd.R_drew)); exact (Kd.R_mono (Kd.R_far (p := ⟨gb634, 1, none⟩) (Kd.R_far (p := ⟨gb634, 0, none⟩) (Kd.R_types HO629.out BK634.out (by decide)) (fun _ hk => hk.2) (.slice Ao9 t627.length co9)) (fun _ hk => hk.2) (.slice Ao11 t630.length co11)) (fun _ h_ => h_.1))) (Kd.R_base ho0) hb); have n1_ := Aside0.mk (Kd.R_elder' (by (with_reducible repeat (first | apply Kd.R_alloc | apply Kd.R_drewN | apply Kd.R_drew)); exact (Kd.R_mono (Kd.R_far (p := ⟨gb634, 1, none⟩) (Kd.R_far (p := ⟨gb634, 0, none⟩) (Kd.R_types HO632.out BK634.out (by decide)) (fun _ hk => hk.2) (.slice Ao9 t627.length co9)) (fun _ hk => hk.2) (.slice Ao11 t630.length co11)) (fun _ h_ => h_.1))) (Kd.R_base ho1) hb); have n2_ := Aside0.mk (Kd.R_lower (Kd.R_new' ho0 (Kd.R_lt (by (with_reducible repeat (first | apply Kd.R_alloc | apply Kd.R_drewN | apply Kd.R_drew)); exact (Kd.R_mono (Kd.R_far (p := ⟨gb634, 1, none⟩) (Kd.R_far (p := ⟨gb634, 0, none⟩) (Kd.R_types HO629.out BK634.out (by decide)) (fun _ hk => hk.2) (.slice Ao9 t627.length co9)) (fun _ hk => hk.2) (.slice Ao11 t630.length co11)) (fun _ h_ => h_.1))))) (below_size (by repeat (first | (with_reducible first | exact HB.out | apply below_alloc | apply pw_below_drewN | apply below_drew1 | refine below_set ?_ GE634.out) | exact HB.out)))); have n3_ := Aside0.mk (Kd.R_lower (Kd.R_new' ho1 (Kd.R_lt (by (with_reducible repeat (first | apply Kd.R_alloc | apply Kd.R_drewN | apply Kd.R_drew)); exact (Kd.R_mono (Kd.R_far (p := ⟨gb634, 1, none⟩) (Kd.R_far (p := ⟨gb634, 0, none⟩) (Kd.R_types HO632.out BK634.out (by decide)) (fun _ hk => hk.2) (.slice Ao9 t627.length co9)) (fun _ hk => hk.2) (.slice Ao11 t630.length co11)) (fun _ h_ => h_.1))))) (below_size (by repeat (first | (with_reducible first | exact HB.out | apply below_alloc | apply pw_below_drewN | apply below_drew1 | refine below_set ?_ GE634.out) | exact HB.out)))); have n4_ := Aside0.mk (blk_below (g := gb634) (o := .cells #[.slice Ao9 t627.length co9, .slice Ao11 t630.length co11] 30 (0, 0)) (by (with_reducible repeat (first | refine blk_drewN ?_ _ | refine blk_drew ?_ | refine blk_alloc ?_ _)); refine blk_put (cs := #[.slice Ao9 t627.length co9, .slice none 0 0]) ?_ 1 _ rfl; (with_reducible repeat (first | refine blk_drewN ?_ _ | refine blk_drew ?_ | refine blk_alloc ?_ _)); refine blk_put (cs := #[.slice none 0 0, .slice none 0 0]) ?_ 0 _ rfl; (with_reducible repeat (first | refine blk_drewN ?_ _ | refine blk_drew ?_ | refine blk_alloc ?_ _)); exact BK634.out) hb); have n5_ := Aside0.mk (below_step (by repeat (first | (with_reducible first | exact HB.out | apply below_alloc | apply pw_below_drewN | apply below_drew1 | refine below_set ?_ GE634.out) | exact HB.out)) hb); clear HO629; clear HO632; clear BK634; clear HB; have HO629 := n0_; have HO632 := n1_; have HO637 := n2_; have HO640 := n3_; have BK634 := n4_; have HB := n5_; clear n0_ n1_ n2_ n3_ n4_ n5_; (try clear hb); (try clear hb2); (try clear hk); (try clear hi); (try clear ho0); (try clear ho1)) | ((with_reducible refine gate_dst (N := 5) rfl ?_); refine box_event ?hg (N := 5) ?hd (cs := #[.slice none 0 0, .slice none 0 0]) (t := 30) ?hr ?_; (case hd => rfl); (case hg => rfl); (case hr => first | (go_simp; done) | (go_simp; rfl)); intro gb642 hg w13 hbox hb; have n0_ := Aside0.mk (Kd.R_below (by (with_reducible repeat (first | apply Kd.R_alloc | apply Kd.R_drewN | apply Kd.R_drew)); exact HO629.out) hb); have n1_ := Aside0.mk (Kd.R_below (by (with_reducible repeat (first | apply Kd.R_alloc | apply Kd.R_drewN | apply Kd.R_drew)); exact HO632.out) hb); have n2_ := Aside0.mk (Kd.R_below (by (with_reducible repeat (first | apply Kd.R_alloc | apply Kd.R_drewN | apply Kd.R_drew)); exact HO637.out) hb); have n3_ := Aside0.mk (Kd.R_below (by (with_reducible repeat (first | apply Kd.R_alloc | apply Kd.R_drewN | apply Kd.R_drew)); exact HO640.out) hb); have n4_ := Aside0.mk (blk_below (g := gb634) (o := .cells #[.slice Ao9 t627.length co9, .slice Ao11 t630.length co11] 30 (0, 0)) (by (with_reducible repeat (first | refine blk_drewN ?_ _ | refine blk_drew ?_ | refine blk_alloc ?_ _)); exact BK634.out) hb); have n5_ := Aside0.mk (below_step (by repeat (first | (with_reducible first | exact HB.out | apply below_alloc | apply pw_below_drewN | apply below_drew1 | refine below_set ?_ GE634.out) | exact HB.out)) hb); have n6_ := Aside0.mk (hbox); have n7_ := Aside0.mk ((by rw [hg]; exact (below_size (by repeat (first | (with_reducible first | exact HB.out | apply below_alloc | apply pw_below_drewN | apply below_drew1 | refine below_set ?_ GE634.out) | exact HB.out))) : w.heap.size ≤ gb642)); have n8_ := Aside0.mk ((by rw [hg]; exact (below_size (by repeat (first | (with_reducible first | exact HB.out | apply below_alloc | apply pw_below_drewN | apply below_drew1 | refine below_set ?_ GE634.out) | exact HB.out))) : w.heap.size ≤ gb642)); have n9_ := Aside0.mk ((by rw [hg]; exact Nat.ne_of_lt (blk_lt (g := gb634) (o := .cells #[.slice Ao9 t627.length co9, .slice Ao11 t630.length co11] 30 (0, 0)) (by (with_reducible repeat (first | refine blk_drewN ?_ _ | refine blk_drew ?_ | refine blk_alloc ?_ _)); exact BK634.out)) : gb634 ≠ gb642)); have n10_ := Aside0.mk ((by rw [hg]; exact Nat.ne_of_gt (blk_lt (g := gb634) (o := .cells #[.slice Ao9 t627.length co9, .slice Ao11 t630.length co11] 30 (0, 0)) (by (with_reducible repeat (first | refine blk_drewN ?_ _ | refine blk_drew ?_ | refine blk_alloc ?_ _)); exact BK634.out)) : gb642 ≠ gb634)); clear HO629; clear HO632; clear HO637; clear HO640; clear BK634; clear HB; have HO629 := n0_; have HO632 := n1_; have HO637 := n2_; have HO640 := n3_; have BK634 := n4_; have HB := n5_; have BK642 := n6_; have GW642 := n7_; have GE642 := n8_; have NB634_642 := n9_; have NB642_634 := n10_; clear n0_ n1_ n2_ n3_ n4_ n5_ n6_ n7_ n8_ n9_ n10_; clear hb hbox hg; obtain ⟨Ao14, co14, eo14⟩ := Kd.R_slice HO637.out; subst eo14; have hnb15 := NB642_634.out; have hnc15 := NB634_642.out; have hcz16_0 : w13.cell? ⟨gb642, 0, none⟩ = some (.slice none 0 0) := (blk_cell BK642.out 0).trans rfl; have hcz16_1 : w13.cell? ⟨gb642, 1, none⟩ = some (.slice none 0 0) := (blk_cell BK642.out 1).trans rfl; have hfz16_0 := blk_frozen BK642.out 0; have hfz16_1 := blk_frozen BK642.out 1; obtain ⟨Ao17, co17, eo17⟩ := Kd.R_slice HO640.out; subst eo17; have hcz18_0 : w13.cell? ⟨gb634, 0, none⟩ = some (.slice Ao9 t627.length co9) := (blk_cell BK634.out 0).trans rfl; have hcz18_1 : w13.cell? ⟨gb634, 1, none⟩ = some (.slice Ao11 t630.length co11) := (blk_cell BK634.out 1).trans rfl; have hfz18_0 := blk_frozen BK634.out 0; have hfz18_1 := blk_frozen BK634.out 1) | ((with_reducible refine gate_callee (f := 33) rfl ?_); refine goesL_ (some 27) rfl rfl Try.func33 (by kernel_rfl) rfl #[.agg #[.slice Ao9 t627.length co9, .slice Ao11 t630.length co11], .int .i64 t633] rfl (by (try simp only [List.map_toArray, List.map_cons, List.map_nil]); first | done | rfl | (simp only [List.length_drop, List.length_take]; rfl)) ?_; (with_reducible refine (spec_AddPlace.calls k _ _ t627 _ _ t630 t633 t643 t646 t649 _ ?side1 ?side2 ?side3 ?side4 A5.out).mono ?_); (case side1 => refine (Kd.R_reads' (e := 3) (base := w.heap.size) (ok := fun k_ => (True ∧ some k_ ≠ (.slice Ao14 t635.length co14 : Value).ownBlock)) (n := t627.length) (c := co9) ?_).2.2; exact (by (with_reducible repeat (first | apply Kd.R_alloc | apply Kd.R_drewN | apply Kd.R_drew)); exact (Kd.R_mono (Kd.R_far (p := ⟨gb642, 1, none⟩) (Kd.R_far (p := ⟨gb642, 0, none⟩) (Kd.R_types HO629.out BK642.out (by decide)) (fun _ hk => hk.2) (.slice Ao14 t635.length co14)) (fun _ hk => hk.2) (.slice Ao17 t638.length co17)) (fun _ h_ => h_.1)))); (case side2 => exact (Kd.R_reads' HO629.out).2.1); (case side3 => refine (Kd.R_reads' (e := 94) (base := w.heap.size) (ok := fun k_ => (True ∧ some k_ ≠ (.slice Ao17 t638.length co17 : Value).ownBlock)) (n := t630.length) (c := co11) ?_).2.2; exact (by (with_reducible repeat (first | apply Kd.R_alloc | apply Kd.R_drewN | apply Kd.R_drew)); exact (Kd.R_mono (Kd.R_far (p := ⟨gb642, 1, none⟩) (Kd.R_far (p := ⟨gb642, 0, none⟩) (Kd.R_types HO632.out BK642.out (by decide)) (fun _ hk => hk.2) (.slice Ao14 t635.length co14)) (fun _ hk => hk.2) (.slice Ao17 t638.length co17)) (fun _ h_ => h_.1)))); (case side4 => exact (Kd.R_reads' HO632.out).2.1); rintro e w19 ⟨v644, v647, rfl, ho0, ho1, hb⟩; refine ⟨_, rfl, ?_⟩; have n0_ := Aside0.mk (Kd.R_elder' (by (with_reducible repeat (first | apply Kd.R_alloc | apply Kd.R_drewN | apply Kd.R_drew)); exact (Kd.R_mono (Kd.R_far (p := ⟨gb642, 1, none⟩) (Kd.R_far (p := ⟨gb642, 0, none⟩) (Kd.R_types HO629.out BK642.out (by decide)) (fun _ hk => hk.2) (.slice Ao14 t635.length co14)) (fun _ hk => hk.2) (.slice Ao17 t638.length co17)) (fun _ h_ => h_.1))) (Kd.R_base ho0) hb); have n1_ := Aside0.mk (Kd.R_elder' (by (with_reducible repeat (first | apply Kd.R_alloc | apply Kd.R_drewN | apply Kd.R_drew)); exact (Kd.R_mono (Kd.R_far (p := ⟨gb642, 1, none⟩) (Kd.R_far (p := ⟨gb642, 0, none⟩) (Kd.R_types HO632.out BK642.out (by decide)) (fun _ hk => hk.2) (.slice Ao14 t635.length co14)) (fun _ hk => hk.2) (.slice Ao17 t638.length co17)) (fun _ h_ => h_.1))) (Kd.R_base ho1) hb); have n2_ := Aside0.mk (Kd.R_elder' (by (with_reducible repeat (first | apply Kd.R_alloc | apply Kd.R_drewN | apply Kd.R_drew)); exact (Kd.R_mono (Kd.R_far (p := ⟨gb642, 1, none⟩) (Kd.R_far (p := ⟨gb642, 0, none⟩) (Kd.R_types HO637.out BK642.out (by decide)) (fun _ hk => hk.2) (.slice Ao14 t635.length co14)) (fun _ hk => hk.2) (.slice Ao17 t638.length co17)) (fun _ h_ => h_.1))) (Kd.R_base ho0) hb); have n3_ := Aside0.mk (Kd.R_elder' (by (with_reducible repeat (first | apply Kd.R_alloc | apply Kd.R_drewN | apply Kd.R_drew)); exact (Kd.R_mono (Kd.R_far (p := ⟨gb642, 1, none⟩) (Kd.R_far (p := ⟨gb642, 0, none⟩) (Kd.R_types HO640.out BK642.out (by decide)) (fun _ hk => hk.2) (.slice Ao14 t635.length co14)) (fun _ hk => hk.2) (.slice Ao17 t638.length co17)) (fun _ h_ => h_.1))) (Kd.R_base ho1) hb); have n4_ := Aside0.mk (Kd.R_lower (Kd.R_new' (Kd.R_new' ho0 (Kd.R_lt (by (with_reducible repeat (first | apply Kd.R_alloc | apply Kd.R_drewN | apply Kd.R_drew)); exact (Kd.R_mono (Kd.R_far (p := ⟨gb642, 1, none⟩) (Kd.R_far (p := ⟨gb642, 0, none⟩) (Kd.R_types HO629.out BK642.out (by decide)) (fun _ hk => hk.2) (.slice Ao14 t635.length co14)) (fun _ hk => hk.2) (.slice Ao17 t638.length co17)) (fun _ h_ => h_.1))))) (Kd.R_lt (by (with_reducible repeat (first | apply Kd.R_alloc | apply Kd.R_drewN | apply Kd.R_drew)); exact (Kd.R_mono (Kd.R_far (p := ⟨gb642, 1, none⟩) (Kd.R_far (p := ⟨gb642, 0, none⟩) (Kd.R_types HO637.out BK642.out (by decide)) (fun _ hk => hk.2) (.slice Ao14 t635.length co14)) (fun _ hk => hk.2) (.slice Ao17 t638.length co17)) (fun _ h_ => h_.1))))) (below_size (by repeat (first | (with_reducible first | exact HB.out | apply below_alloc | apply pw_below_drewN | apply below_drew1 | refine below_set ?_ GE634.out | refine below_set ?_ GE642.out) | exact HB.out)))); have n5_ := Aside0.mk (Kd.R_lower (Kd.R_new' (Kd.R_new' ho1 (Kd.R_lt (by (with_reducible repeat (first | apply Kd.R_alloc | apply Kd.R_drewN | apply Kd.R_drew)); exact (Kd.R_mono (Kd.R_far (p := ⟨gb642, 1, none⟩) (Kd.R_far (p := ⟨gb642, 0, none⟩) (Kd.R_types HO632.out BK642.out (by decide)) (fun _ hk => hk.2) (.slice Ao14 t635.length co14)) (fun _ hk => hk.2) (.slice Ao17 t638.length co17)) (fun _ h_ => h_.1))))) (Kd.R_lt (by (with_reducible repeat (first | apply Kd.R_alloc | apply Kd.R_drewN | apply Kd.R_drew)); exact (Kd.R_mono (Kd.R_far (p := ⟨gb642, 1, none⟩) (Kd.R_far (p := ⟨gb642, 0, none⟩) (Kd.R_types HO640.out BK642.out (by decide)) (fun _ hk => hk.2) (.slice Ao14 t635.length co14)) (fun _ hk => hk.2) (.slice Ao17 t638.length co17)) (fun _ h_ => h_.1))))) (below_size (by repeat (first | (with_reducible first | exact HB.out | apply below_alloc | apply pw_below_drewN | apply below_drew1 | refine below_set ?_ GE634.out | refine below_set ?_ GE642.out) | exact HB.out)))); have n6_ := Aside0.mk (blk_below (g := gb634) (o := .cells #[.slice Ao9 t627.length co9, .slice Ao11 t630.length co11] 30 (0, 0)) (by (with_reducible repeat (first | refine blk_drewN ?_ _ | refine blk_drew ?_ | refine blk_alloc ?_ _)); refine blk_far ?_ NB634_642.out _; (with_reducible repeat (first | refine blk_drewN ?_ _ | refine blk_drew ?_ | refine blk_alloc ?_ _)); refine blk_far ?_ NB634_642.out _; (with_reducible repeat (first | refine blk_drewN ?_ _ | refine blk_drew ?_ | refine blk_alloc ?_ _)); exact BK634.out) hb); have n7_ := Aside0.mk (blk_below (g := gb642) (o := .cells #[.slice Ao14 t635.length co14, .slice Ao17 t638.length co17] 30 (0, 0)) (by (with_reducible repeat (first | refine blk_drewN ?_ _ | refine blk_drew ?_ | refine blk_alloc ?_ _)); refine blk_put (cs := #[.slice Ao14 t635.length co14, .slice none 0 0]) ?_ 1 _ rfl; (with_reducible repeat (first | refine blk_drewN ?_ _ | refine blk_drew ?_ | refine blk_alloc ?_ _)); refine blk_put (cs := #[.slice none 0 0, .slice none 0 0]) ?_ 0 _ rfl; (with_reducible repeat (first | refine blk_drewN ?_ _ | refine blk_drew ?_ | refine blk_alloc ?_ _)); exact BK642.out) hb); have n8_ := Aside0.mk (below_step (by repeat (first | (with_reducible first | exact HB.out | apply below_alloc | apply pw_below_drewN | apply below_drew1 | refine below_set ?_ GE634.out | refine below_set ?_ GE642.out) | exact HB.out)) hb); clear HO629; clear HO632; clear HO637; clear HO640; clear BK634; clear BK642; clear HB; have HO629 := n0_; have HO632 := n1_; have HO637 := n2_; have HO640 := n3_; have HO645 := n4_; have HO648 := n5_; have BK634 := n6_; have BK642 := n7_; have HB := n8_; clear n0_ n1_ n2_ n3_ n4_ n5_ n6_ n7_ n8_; (try clear hb); (try clear hb2); (try clear hk); (try clear hi); (try clear ho0); (try clear ho1)) | ((with_reducible refine gate_dst (N := 7) rfl ?_); refine box_event ?hg (N := 7) ?hd (cs := #[.slice none 0 0, .slice none 0 0]) (t := 30) ?hr ?_; (case hd => rfl); (case hg => rfl); (case hr => first | (go_simp; done) | (go_simp; rfl)); intro gb650 hg w20 hbox hb; have n0_ := Aside0.mk (Kd.R_below (by (with_reducible repeat (first | apply Kd.R_alloc | apply Kd.R_drewN | apply Kd.R_drew)); exact HO629.out) hb); have n1_ := Aside0.mk (Kd.R_below (by (with_reducible repeat (first | apply Kd.R_alloc | apply Kd.R_drewN | apply Kd.R_drew)); exact HO632.out) hb); have n2_ := Aside0.mk (Kd.R_below (by (with_reducible repeat (first | apply Kd.R_alloc | apply Kd.R_drewN | apply Kd.R_drew)); exact HO637.out) hb); have n3_ := Aside0.mk (Kd.R_below (by (with_reducible repeat (first | apply Kd.R_alloc | apply Kd.R_drewN | apply Kd.R_drew)); exact HO640.out) hb); have n4_ := Aside0.mk (Kd.R_below (by (with_reducible repeat (first | apply Kd.R_alloc | apply Kd.R_drewN | apply Kd.R_drew)); exact HO645.out) hb); have n5_ := Aside0.mk (Kd.R_below (by (with_reducible repeat (first | apply Kd.R_alloc | apply Kd.R_drewN | apply Kd.R_drew)); exact HO648.out) hb); have n6_ := Aside0.mk (blk_below (g := gb634) (o := .cells #[.slice Ao9 t627.length co9, .slice Ao11 t630.length co11] 30 (0, 0)) (by (with_reducible repeat (first | refine blk_drewN ?_ _ | refine blk_drew ?_ | refine blk_alloc ?_ _)); exact BK634.out) hb); have n7_ := Aside0.mk (blk_below (g := gb642) (o := .cells #[.slice Ao14 t635.length co14, .slice Ao17 t638.length co17] 30 (0, 0)) (by (with_reducible repeat (first | refine blk_drewN ?_ _ | refine blk_drew ?_ | refine blk_alloc ?_ _)); exact BK642.out) hb); have n8_ := Aside0.mk (below_step (by repeat (first | (with_reducible first | exact HB.out | apply below_alloc | apply pw_below_drewN | apply below_drew1 | refine below_set ?_ GE634.out | refine below_set ?_ GE642.out) | exact HB.out)) hb); have n9_ := Aside0.mk (hbox); have n10_ := Aside0.mk ((by rw [hg]; exact (below_size (by repeat (first | (with_reducible first | exact HB.out | apply below_alloc | apply pw_below_drewN | apply below_drew1 | refine below_set ?_ GE634.out | refine below_set ?_ GE642.out) | exact HB.out))) : w.heap.size ≤ gb650)); have n11_ := Aside0.mk ((by rw [hg]; exact (below_size (by repeat (first | (with_reducible first | exact HB.out | apply below_alloc | apply pw_below_drewN | apply below_drew1 | refine below_set ?_ GE634.out | refine below_set ?_ GE642.out) | exact HB.out))) : w.heap.size ≤ gb650)); have n12_ := Aside0.mk ((by rw [hg]; exact Nat.ne_of_lt (blk_lt (g := gb634) (o := .cells #[.slice Ao9 t627.length co9, .slice Ao11 t630.length co11] 30 (0, 0)) (by (with_reducible repeat (first | refine blk_drewN ?_ _ | refine blk_drew ?_ | refine blk_alloc ?_ _)); exact BK634.out)) : gb634 ≠ gb650)); have n13_ := Aside0.mk ((by rw [hg]; exact Nat.ne_of_gt (blk_lt (g := gb634) (o := .cells #[.slice Ao9 t627.length co9, .slice Ao11 t630.length co11] 30 (0, 0)) (by (with_reducible repeat (first | refine blk_drewN ?_ _ | refine blk_drew ?_ | refine blk_alloc ?_ _)); exact BK634.out)) : gb650 ≠ gb634)); have n14_ := Aside0.mk ((by rw [hg]; exact Nat.ne_of_lt (blk_lt (g := gb642) (o := .cells #[.slice Ao14 t635.length co14, .slice Ao17 t638.length co17] 30 (0, 0)) (by (with_reducible repeat (first | refine blk_drewN ?_ _ | refine blk_drew ?_ | refine blk_alloc ?_ _)); exact BK642.out)) : gb642 ≠ gb650)); have n15_ := Aside0.mk ((by rw [hg]; exact Nat.ne_of_gt (blk_lt (g := gb642) (o := .cells #[.slice Ao14 t635.length co14, .slice Ao17 t638.length co17] 30 (0, 0)) (by (with_reducible repeat (first | refine blk_drewN ?_ _ | refine blk_drew ?_ | refine blk_alloc ?_ _)); exact BK642.out)) : gb650 ≠ gb642)); clear HO629; clear HO632; clear HO637; clear HO640; clear HO645; clear HO648; clear BK634; clear BK642; clear HB; have HO629 := n0_; have HO632 := n1_; have HO637 := n2_; have HO640 := n3_; have HO645 := n4_; have HO648 := n5_; have BK634 := n6_; have BK642 := n7_; have HB := n8_; have BK650 := n9_; have GW650 := n10_; have GE650 := n11_; have NB634_650 := n12_; have NB650_634 := n13_; have NB642_650 := n14_; have NB650_642 := n15_; clear n0_ n1_ n2_ n3_ n4_ n5_ n6_ n7_ n8_ n9_ n10_ n11_ n12_ n13_ n14_ n15_; clear hb hbox hg; obtain ⟨Ao21, co21, eo21⟩ := Kd.R_slice HO645.out; subst eo21; have hnb22 := NB650_634.out; have hnc22 := NB634_650.out; have hnb23 := NB650_642.out; have hnc23 := NB642_650.out; have hcz24_0 : w20.cell? ⟨gb650, 0, none⟩ = some (.slice none 0 0) := (blk_cell BK650.out 0).trans rfl; have hcz24_1 : w20.cell? ⟨gb650, 1, none⟩ = some (.slice none 0 0) := (blk_cell BK650.out 1).trans rfl; have hfz24_0 := blk_frozen BK650.out 0; have hfz24_1 := blk_frozen BK650.out 1; obtain ⟨Ao25, co25, eo25⟩ := Kd.R_slice HO648.out; subst eo25))
    (try simp only [Act.put, List.setIfInBounds_toArray, List.set_cons_zero, List.set_cons_succ])
    go_cut [42] (fun v42 wc => ∃ (kq : Nat) (x42_5 : Bool), v42 = .bool x42_5 ∧ Aside0 (laws_FnAddPlace.j0 kq t633 t641 t649 x42_5 t627 t630 t635 t638 t643 t646 = some r) ∧ Aside0 (kq ≤ k) ∧ Aside0 (Kd.R (Kd.int .i64) 3 wc w.heap.size (fun k_ => some k_ ≠ ((.slice Ao14 t635.length co14) : Value).ownBlock ∧ some k_ ≠ ((.slice Ao21 t643.length co21) : Value).ownBlock) (.slice Ao9 t627.length co9) t627) ∧ Aside0 (Kd.R k94 94 wc w.heap.size (fun k_ => some k_ ≠ ((.slice Ao17 t638.length co17) : Value).ownBlock ∧ some k_ ≠ ((.slice Ao25 t646.length co25) : Value).ownBlock) (.slice Ao11 t630.length co11) t630) ∧ Aside0 (Kd.R (Kd.int .i64) 3 wc w.heap.size (fun k_ => some k_ ≠ ((.slice Ao9 t627.length co9) : Value).ownBlock ∧ some k_ ≠ ((.slice Ao21 t643.length co21) : Value).ownBlock) (.slice Ao14 t635.length co14) t635) ∧ Aside0 (Kd.R k94 94 wc w.heap.size (fun k_ => some k_ ≠ ((.slice Ao11 t630.length co11) : Value).ownBlock ∧ some k_ ≠ ((.slice Ao25 t646.length co25) : Value).ownBlock) (.slice Ao17 t638.length co17) t638) ∧ Aside0 (Kd.R (Kd.int .i64) 3 wc w.heap.size (fun k_ => some k_ ≠ ((.slice Ao9 t627.length co9) : Value).ownBlock ∧ some k_ ≠ ((.slice Ao14 t635.length co14) : Value).ownBlock) (.slice Ao21 t643.length co21) t643) ∧ Aside0 (Kd.R k94 94 wc w.heap.size (fun k_ => some k_ ≠ ((.slice Ao11 t630.length co11) : Value).ownBlock ∧ some k_ ≠ ((.slice Ao17 t638.length co17) : Value).ownBlock) (.slice Ao25 t646.length co25) t646) ∧ Aside0 (wc.heap[gb634]? = some (.cells #[(.slice Ao9 t627.length co9), (.slice Ao11 t630.length co11)] 30 (0, 0))) ∧ Aside0 (wc.heap[gb642]? = some (.cells #[(.slice Ao14 t635.length co14), (.slice Ao17 t638.length co17)] 30 (0, 0))) ∧ Aside0 (wc.heap[gb650]? = some (.cells #[(.slice Ao21 t643.length co21), (.slice Ao25 t646.length co25)] 30 (0, 0))) ∧ Aside0 (Below w.heap.size w wc))
    case first =>
      have H := HC6.out
      clear HC6
      replace H := Option.bind_eq_some_iff.mp H
      obtain ⟨t651, A260, H⟩ := H
      replace H : (if t651 = true then (if (t641 != t649) = true then (laws_FnAddPlace.j0 k t633 t641 t649 true t627 t630 t635 t638 t643 t646) else (laws_FnAddPlace.j0 k t633 t641 t649 (!t641) t627 t630 t635 t638 t643 t646)) else (laws_FnAddPlace.j0 k t633 t641 t649 true t627 t630 t635 t638 t643 t646)) = some r := H
      have A26 := Aside0.mk A260
      clear A260
      by_cases c27 : t651 = true
      · subst c27
        have H1 : (if (t641 != t649) = true then (laws_FnAddPlace.j0 k t633 t641 t649 true t627 t630 t635 t638 t643 t646) else (laws_FnAddPlace.j0 k t633 t641 t649 (!t641) t627 t630 t635 t638 t643 t646)) = some r := by rw [if_pos rfl] at H; exact H
        clear H
        have H := H1
        clear H1
        by_cases c28 : (t641 != t649) = true
        · rw [if_pos c28] at H
          have c28b0 : (t641 != t649) = true := c28
          (try (have c28b1 : decide (t641 = t649) = false := by simpa using c28))
          (try (have c28b2 : (t641 == t649) = false := by simpa using c28))
          (try (have c28b3 : ¬ (t641 = t649) := by simpa using c28))
          clear c28
          (first | rw [c28b0] | (simp only [i64_w, i32_w]; rw [c28b0]) | skip)
          have H' := Aside0.mk H
          clear H
          have hnb29 := NB642_634.out
          have hnc29 := NB634_642.out
          have hnb30 := NB642_650.out
          have hnc30 := NB650_642.out
          have hcz31_0 : w20.cell? ⟨gb642, 0, none⟩ = some (.slice Ao14 t635.length co14) := (blk_cell BK642.out 0).trans rfl
          have hcz31_1 : w20.cell? ⟨gb642, 1, none⟩ = some (.slice Ao17 t638.length co17) := (blk_cell BK642.out 1).trans rfl
          have hfz31_0 := blk_frozen BK642.out 0
          have hfz31_1 := blk_frozen BK642.out 1
          have hnb32 := NB650_634.out
          have hnc32 := NB634_650.out
          have hcz33_0 : w20.cell? ⟨gb650, 0, none⟩ = some (.slice none 0 0) := (blk_cell BK650.out 0).trans rfl
          have hcz33_1 : w20.cell? ⟨gb650, 1, none⟩ = some (.slice none 0 0) := (blk_cell BK650.out 1).trans rfl
          have hfz33_0 := blk_frozen BK650.out 0
          have hfz33_1 := blk_frozen BK650.out 1
          go_wp2_with (first | ((with_reducible refine gate_callee (f := 34) rfl ?_); refine goesL_ (some 32) rfl rfl Try.func34 (by kernel_rfl) rfl #[.agg #[.slice Ao14 t635.length co14, .slice Ao17 t638.length co17], .agg #[.slice Ao21 t643.length co21, .slice Ao25 t646.length co25]] rfl (by (try simp only [List.map_toArray, List.map_cons, List.map_nil]); first | done | rfl | (simp only [List.length_drop, List.length_take]; rfl)) ?_; (with_reducible refine (laws_equalFlat.calls k _ _ t635 _ _ t638 _ _ t643 _ _ t646 true _ ?side1 ?side2 ?side3 ?side4 ?side5 ?side6 ?side7 ?side8 A26.out).mono ?_); (case side1 => refine (Kd.R_reads' (e := 3) (base := w.heap.size) (ok := fun k_ => ((True ∧ some k_ ≠ (.slice Ao9 t627.length co9 : Value).ownBlock) ∧ some k_ ≠ (.slice Ao21 t643.length co21 : Value).ownBlock)) (n := t635.length) (c := co14) ?_).2.2; exact (by (with_reducible repeat (first | apply Kd.R_alloc | apply Kd.R_drewN | apply Kd.R_drew)); exact (Kd.R_mono (Kd.R_far (p := ⟨gb650, 1, none⟩) (Kd.R_far (p := ⟨gb650, 0, none⟩) (Kd.R_types HO637.out BK650.out (by decide)) (fun _ hk => hk.2) (.slice Ao21 t643.length co21)) (fun _ hk => hk.2) (.slice Ao25 t646.length co25)) (fun _ h_ => h_.1)))); (case side2 => exact (Kd.R_reads' HO637.out).2.1); (case side3 => refine (Kd.R_reads' (e := 94) (base := w.heap.size) (ok := fun k_ => ((True ∧ some k_ ≠ (.slice Ao11 t630.length co11 : Value).ownBlock) ∧ some k_ ≠ (.slice Ao25 t646.length co25 : Value).ownBlock)) (n := t638.length) (c := co17) ?_).2.2; exact (by (with_reducible repeat (first | apply Kd.R_alloc | apply Kd.R_drewN | apply Kd.R_drew)); exact (Kd.R_mono (Kd.R_far (p := ⟨gb650, 1, none⟩) (Kd.R_far (p := ⟨gb650, 0, none⟩) (Kd.R_types HO640.out BK650.out (by decide)) (fun _ hk => hk.2) (.slice Ao21 t643.length co21)) (fun _ hk => hk.2) (.slice Ao25 t646.length co25)) (fun _ h_ => h_.1)))); (case side4 => exact (Kd.R_reads' HO640.out).2.1); (case side5 => refine (Kd.R_reads' (e := 3) (base := w.heap.size) (ok := fun k_ => ((True ∧ some k_ ≠ (.slice Ao9 t627.length co9 : Value).ownBlock) ∧ some k_ ≠ (.slice Ao14 t635.length co14 : Value).ownBlock)) (n := t643.length) (c := co21) ?_).2.2; exact (by (with_reducible repeat (first | apply Kd.R_alloc | apply Kd.R_drewN | apply Kd.R_drew)); exact (Kd.R_mono (Kd.R_far (p := ⟨gb650, 1, none⟩) (Kd.R_far (p := ⟨gb650, 0, none⟩) (Kd.R_types HO645.out BK650.out (by decide)) (fun _ hk => hk.2) (.slice Ao21 t643.length co21)) (fun _ hk => hk.2) (.slice Ao25 t646.length co25)) (fun _ h_ => h_.1)))); (case side6 => exact (Kd.R_reads' HO645.out).2.1); (case side7 => refine (Kd.R_reads' (e := 94) (base := w.heap.size) (ok := fun k_ => ((True ∧ some k_ ≠ (.slice Ao11 t630.length co11 : Value).ownBlock) ∧ some k_ ≠ (.slice Ao17 t638.length co17 : Value).ownBlock)) (n := t646.length) (c := co25) ?_).2.2; exact (by (with_reducible repeat (first | apply Kd.R_alloc | apply Kd.R_drewN | apply Kd.R_drew)); exact (Kd.R_mono (Kd.R_far (p := ⟨gb650, 1, none⟩) (Kd.R_far (p := ⟨gb650, 0, none⟩) (Kd.R_types HO648.out BK650.out (by decide)) (fun _ hk => hk.2) (.slice Ao21 t643.length co21)) (fun _ hk => hk.2) (.slice Ao25 t646.length co25)) (fun _ h_ => h_.1)))); (case side8 => exact (Kd.R_reads' HO648.out).2.1); rintro e w34 ⟨rfl, hb⟩; refine ⟨_, rfl, ?_⟩; have n0_ := Aside0.mk (Kd.R_below (by (with_reducible repeat (first | apply Kd.R_alloc | apply Kd.R_drewN | apply Kd.R_drew)); exact (Kd.R_mono (Kd.R_far (p := ⟨gb650, 1, none⟩) (Kd.R_far (p := ⟨gb650, 0, none⟩) (Kd.R_types HO629.out BK650.out (by decide)) (fun _ hk => hk.2) (.slice Ao21 t643.length co21)) (fun _ hk => hk.2) (.slice Ao25 t646.length co25)) (fun _ h_ => h_.1))) hb); have n1_ := Aside0.mk (Kd.R_below (by (with_reducible repeat (first | apply Kd.R_alloc | apply Kd.R_drewN | apply Kd.R_drew)); exact (Kd.R_mono (Kd.R_far (p := ⟨gb650, 1, none⟩) (Kd.R_far (p := ⟨gb650, 0, none⟩) (Kd.R_types HO632.out BK650.out (by decide)) (fun _ hk => hk.2) (.slice Ao21 t643.length co21)) (fun _ hk => hk.2) (.slice Ao25 t646.length co25)) (fun _ h_ => h_.1))) hb); have n2_ := Aside0.mk (Kd.R_below (by (with_reducible repeat (first | apply Kd.R_alloc | apply Kd.R_drewN | apply Kd.R_drew)); exact (Kd.R_mono (Kd.R_far (p := ⟨gb650, 1, none⟩) (Kd.R_far (p := ⟨gb650, 0, none⟩) (Kd.R_types HO637.out BK650.out (by decide)) (fun _ hk => hk.2) (.slice Ao21 t643.length co21)) (fun _ hk => hk.2) (.slice Ao25 t646.length co25)) (fun _ h_ => h_.1))) hb); have n3_ := Aside0.mk (Kd.R_below (by (with_reducible repeat (first | apply Kd.R_alloc | apply Kd.R_drewN | apply Kd.R_drew)); exact (Kd.R_mono (Kd.R_far (p := ⟨gb650, 1, none⟩) (Kd.R_far (p := ⟨gb650, 0, none⟩) (Kd.R_types HO640.out BK650.out (by decide)) (fun _ hk => hk.2) (.slice Ao21 t643.length co21)) (fun _ hk => hk.2) (.slice Ao25 t646.length co25)) (fun _ h_ => h_.1))) hb); have n4_ := Aside0.mk (Kd.R_below (by (with_reducible repeat (first | apply Kd.R_alloc | apply Kd.R_drewN | apply Kd.R_drew)); exact (Kd.R_mono (Kd.R_far (p := ⟨gb650, 1, none⟩) (Kd.R_far (p := ⟨gb650, 0, none⟩) (Kd.R_types HO645.out BK650.out (by decide)) (fun _ hk => hk.2) (.slice Ao21 t643.length co21)) (fun _ hk => hk.2) (.slice Ao25 t646.length co25)) (fun _ h_ => h_.1))) hb); have n5_ := Aside0.mk (Kd.R_below (by (with_reducible repeat (first | apply Kd.R_alloc | apply Kd.R_drewN | apply Kd.R_drew)); exact (Kd.R_mono (Kd.R_far (p := ⟨gb650, 1, none⟩) (Kd.R_far (p := ⟨gb650, 0, none⟩) (Kd.R_types HO648.out BK650.out (by decide)) (fun _ hk => hk.2) (.slice Ao21 t643.length co21)) (fun _ hk => hk.2) (.slice Ao25 t646.length co25)) (fun _ h_ => h_.1))) hb); have n6_ := Aside0.mk (blk_below (g := gb634) (o := .cells #[.slice Ao9 t627.length co9, .slice Ao11 t630.length co11] 30 (0, 0)) (by (with_reducible repeat (first | refine blk_drewN ?_ _ | refine blk_drew ?_ | refine blk_alloc ?_ _)); refine blk_far ?_ NB634_650.out _; (with_reducible repeat (first | refine blk_drewN ?_ _ | refine blk_drew ?_ | refine blk_alloc ?_ _)); refine blk_far ?_ NB634_650.out _; (with_reducible repeat (first | refine blk_drewN ?_ _ | refine blk_drew ?_ | refine blk_alloc ?_ _)); exact BK634.out) hb); have n7_ := Aside0.mk (blk_below (g := gb642) (o := .cells #[.slice Ao14 t635.length co14, .slice Ao17 t638.length co17] 30 (0, 0)) (by (with_reducible repeat (first | refine blk_drewN ?_ _ | refine blk_drew ?_ | refine blk_alloc ?_ _)); refine blk_far ?_ NB642_650.out _; (with_reducible repeat (first | refine blk_drewN ?_ _ | refine blk_drew ?_ | refine blk_alloc ?_ _)); refine blk_far ?_ NB642_650.out _; (with_reducible repeat (first | refine blk_drewN ?_ _ | refine blk_drew ?_ | refine blk_alloc ?_ _)); exact BK642.out) hb); have n8_ := Aside0.mk (blk_below (g := gb650) (o := .cells #[.slice Ao21 t643.length co21, .slice Ao25 t646.length co25] 30 (0, 0)) (by (with_reducible repeat (first | refine blk_drewN ?_ _ | refine blk_drew ?_ | refine blk_alloc ?_ _)); refine blk_put (cs := #[.slice Ao21 t643.length co21, .slice none 0 0]) ?_ 1 _ rfl; (with_reducible repeat (first | refine blk_drewN ?_ _ | refine blk_drew ?_ | refine blk_alloc ?_ _)); refine blk_put (cs := #[.slice none 0 0, .slice none 0 0]) ?_ 0 _ rfl; (with_reducible repeat (first | refine blk_drewN ?_ _ | refine blk_drew ?_ | refine blk_alloc ?_ _)); exact BK650.out) hb); have n9_ := Aside0.mk (below_step (by repeat (first | (with_reducible first | exact HB.out | apply below_alloc | apply pw_below_drewN | apply below_drew1 | refine below_set ?_ GE634.out | refine below_set ?_ GE642.out | refine below_set ?_ GE650.out) | exact HB.out)) hb); clear HO629; clear HO632; clear HO637; clear HO640; clear HO645; clear HO648; clear BK634; clear BK642; clear BK650; clear HB; have HO629 := n0_; have HO632 := n1_; have HO637 := n2_; have HO640 := n3_; have HO645 := n4_; have HO648 := n5_; have BK634 := n6_; have BK642 := n7_; have BK650 := n8_; have HB := n9_; clear n0_ n1_ n2_ n3_ n4_ n5_ n6_ n7_ n8_ n9_; (try clear hb); (try clear hb2); (try clear hk); (try clear hi)))
          go_meet
          case rel => exact ⟨_, (true), (by first | rfl | (simp; done) | (simp [*]; done)), H', ⟨by first | omega | exact Nat.le_refl _⟩, ⟨by (with_reducible repeat (first | apply Kd.R_alloc | apply Kd.R_drewN | apply Kd.R_drew)); exact Kd.R_mono HO629.out (fun _ hk => ⟨hk.1.2, hk.2⟩)⟩, ⟨by (with_reducible repeat (first | apply Kd.R_alloc | apply Kd.R_drewN | apply Kd.R_drew)); exact Kd.R_mono HO632.out (fun _ hk => ⟨hk.1.2, hk.2⟩)⟩, ⟨by (with_reducible repeat (first | apply Kd.R_alloc | apply Kd.R_drewN | apply Kd.R_drew)); exact Kd.R_mono HO637.out (fun _ hk => ⟨hk.1.2, hk.2⟩)⟩, ⟨by (with_reducible repeat (first | apply Kd.R_alloc | apply Kd.R_drewN | apply Kd.R_drew)); exact Kd.R_mono HO640.out (fun _ hk => ⟨hk.1.2, hk.2⟩)⟩, ⟨by (with_reducible repeat (first | apply Kd.R_alloc | apply Kd.R_drewN | apply Kd.R_drew)); exact Kd.R_mono HO645.out (fun _ hk => ⟨hk.1.2, hk.2⟩)⟩, ⟨by (with_reducible repeat (first | apply Kd.R_alloc | apply Kd.R_drewN | apply Kd.R_drew)); exact Kd.R_mono HO648.out (fun _ hk => ⟨hk.1.2, hk.2⟩)⟩, ⟨by (with_reducible repeat (first | refine blk_drewN ?_ _ | refine blk_drew ?_ | refine blk_alloc ?_ _)); exact BK634.out⟩, ⟨by (with_reducible repeat (first | refine blk_drewN ?_ _ | refine blk_drew ?_ | refine blk_alloc ?_ _)); exact BK642.out⟩, ⟨by (with_reducible repeat (first | refine blk_drewN ?_ _ | refine blk_drew ?_ | refine blk_alloc ?_ _)); exact BK650.out⟩, ⟨by repeat (first | (with_reducible first | exact HB.out | apply below_alloc | apply pw_below_drewN | apply below_drew1 | refine below_set ?_ GE634.out | refine below_set ?_ GE642.out | refine below_set ?_ GE650.out) | exact HB.out)⟩⟩
        · rw [if_neg c28] at H
          have c28b0 : (t641 != t649) = false := by simpa using c28
          (try (have c28b1 : decide (t641 = t649) = true := by simpa using c28))
          (try (have c28b2 : (t641 == t649) = true := by simpa using c28))
          clear c28
          (first | rw [c28b0] | (simp only [i64_w, i32_w]; rw [c28b0]) | skip)
          have H' := Aside0.mk H
          clear H
          have hnb35 := NB642_634.out
          have hnc35 := NB634_642.out
          have hnb36 := NB642_650.out
          have hnc36 := NB650_642.out
          have hcz37_0 : w20.cell? ⟨gb642, 0, none⟩ = some (.slice Ao14 t635.length co14) := (blk_cell BK642.out 0).trans rfl
          have hcz37_1 : w20.cell? ⟨gb642, 1, none⟩ = some (.slice Ao17 t638.length co17) := (blk_cell BK642.out 1).trans rfl
          have hfz37_0 := blk_frozen BK642.out 0
          have hfz37_1 := blk_frozen BK642.out 1
          have hnb38 := NB650_634.out
          have hnc38 := NB634_650.out
          have hcz39_0 : w20.cell? ⟨gb650, 0, none⟩ = some (.slice none 0 0) := (blk_cell BK650.out 0).trans rfl
          have hcz39_1 : w20.cell? ⟨gb650, 1, none⟩ = some (.slice none 0 0) := (blk_cell BK650.out 1).trans rfl
          have hfz39_0 := blk_frozen BK650.out 0
          have hfz39_1 := blk_frozen BK650.out 1
          go_wp2_with (first | ((with_reducible refine gate_callee (f := 34) rfl ?_); refine goesL_ (some 32) rfl rfl Try.func34 (by kernel_rfl) rfl #[.agg #[.slice Ao14 t635.length co14, .slice Ao17 t638.length co17], .agg #[.slice Ao21 t643.length co21, .slice Ao25 t646.length co25]] rfl (by (try simp only [List.map_toArray, List.map_cons, List.map_nil]); first | done | rfl | (simp only [List.length_drop, List.length_take]; rfl)) ?_; (with_reducible refine (laws_equalFlat.calls k _ _ t635 _ _ t638 _ _ t643 _ _ t646 true _ ?side1 ?side2 ?side3 ?side4 ?side5 ?side6 ?side7 ?side8 A26.out).mono ?_); (case side1 => refine (Kd.R_reads' (e := 3) (base := w.heap.size) (ok := fun k_ => ((True ∧ some k_ ≠ (.slice Ao9 t627.length co9 : Value).ownBlock) ∧ some k_ ≠ (.slice Ao21 t643.length co21 : Value).ownBlock)) (n := t635.length) (c := co14) ?_).2.2; exact (by (with_reducible repeat (first | apply Kd.R_alloc | apply Kd.R_drewN | apply Kd.R_drew)); exact (Kd.R_mono (Kd.R_far (p := ⟨gb650, 1, none⟩) (Kd.R_far (p := ⟨gb650, 0, none⟩) (Kd.R_types HO637.out BK650.out (by decide)) (fun _ hk => hk.2) (.slice Ao21 t643.length co21)) (fun _ hk => hk.2) (.slice Ao25 t646.length co25)) (fun _ h_ => h_.1)))); (case side2 => exact (Kd.R_reads' HO637.out).2.1); (case side3 => refine (Kd.R_reads' (e := 94) (base := w.heap.size) (ok := fun k_ => ((True ∧ some k_ ≠ (.slice Ao11 t630.length co11 : Value).ownBlock) ∧ some k_ ≠ (.slice Ao25 t646.length co25 : Value).ownBlock)) (n := t638.length) (c := co17) ?_).2.2; exact (by (with_reducible repeat (first | apply Kd.R_alloc | apply Kd.R_drewN | apply Kd.R_drew)); exact (Kd.R_mono (Kd.R_far (p := ⟨gb650, 1, none⟩) (Kd.R_far (p := ⟨gb650, 0, none⟩) (Kd.R_types HO640.out BK650.out (by decide)) (fun _ hk => hk.2) (.slice Ao21 t643.length co21)) (fun _ hk => hk.2) (.slice Ao25 t646.length co25)) (fun _ h_ => h_.1)))); (case side4 => exact (Kd.R_reads' HO640.out).2.1); (case side5 => refine (Kd.R_reads' (e := 3) (base := w.heap.size) (ok := fun k_ => ((True ∧ some k_ ≠ (.slice Ao9 t627.length co9 : Value).ownBlock) ∧ some k_ ≠ (.slice Ao14 t635.length co14 : Value).ownBlock)) (n := t643.length) (c := co21) ?_).2.2; exact (by (with_reducible repeat (first | apply Kd.R_alloc | apply Kd.R_drewN | apply Kd.R_drew)); exact (Kd.R_mono (Kd.R_far (p := ⟨gb650, 1, none⟩) (Kd.R_far (p := ⟨gb650, 0, none⟩) (Kd.R_types HO645.out BK650.out (by decide)) (fun _ hk => hk.2) (.slice Ao21 t643.length co21)) (fun _ hk => hk.2) (.slice Ao25 t646.length co25)) (fun _ h_ => h_.1)))); (case side6 => exact (Kd.R_reads' HO645.out).2.1); (case side7 => refine (Kd.R_reads' (e := 94) (base := w.heap.size) (ok := fun k_ => ((True ∧ some k_ ≠ (.slice Ao11 t630.length co11 : Value).ownBlock) ∧ some k_ ≠ (.slice Ao17 t638.length co17 : Value).ownBlock)) (n := t646.length) (c := co25) ?_).2.2; exact (by (with_reducible repeat (first | apply Kd.R_alloc | apply Kd.R_drewN | apply Kd.R_drew)); exact (Kd.R_mono (Kd.R_far (p := ⟨gb650, 1, none⟩) (Kd.R_far (p := ⟨gb650, 0, none⟩) (Kd.R_types HO648.out BK650.out (by decide)) (fun _ hk => hk.2) (.slice Ao21 t643.length co21)) (fun _ hk => hk.2) (.slice Ao25 t646.length co25)) (fun _ h_ => h_.1)))); (case side8 => exact (Kd.R_reads' HO648.out).2.1); rintro e w40 ⟨rfl, hb⟩; refine ⟨_, rfl, ?_⟩; have n0_ := Aside0.mk (Kd.R_below (by (with_reducible repeat (first | apply Kd.R_alloc | apply Kd.R_drewN | apply Kd.R_drew)); exact (Kd.R_mono (Kd.R_far (p := ⟨gb650, 1, none⟩) (Kd.R_far (p := ⟨gb650, 0, none⟩) (Kd.R_types HO629.out BK650.out (by decide)) (fun _ hk => hk.2) (.slice Ao21 t643.length co21)) (fun _ hk => hk.2) (.slice Ao25 t646.length co25)) (fun _ h_ => h_.1))) hb); have n1_ := Aside0.mk (Kd.R_below (by (with_reducible repeat (first | apply Kd.R_alloc | apply Kd.R_drewN | apply Kd.R_drew)); exact (Kd.R_mono (Kd.R_far (p := ⟨gb650, 1, none⟩) (Kd.R_far (p := ⟨gb650, 0, none⟩) (Kd.R_types HO632.out BK650.out (by decide)) (fun _ hk => hk.2) (.slice Ao21 t643.length co21)) (fun _ hk => hk.2) (.slice Ao25 t646.length co25)) (fun _ h_ => h_.1))) hb); have n2_ := Aside0.mk (Kd.R_below (by (with_reducible repeat (first | apply Kd.R_alloc | apply Kd.R_drewN | apply Kd.R_drew)); exact (Kd.R_mono (Kd.R_far (p := ⟨gb650, 1, none⟩) (Kd.R_far (p := ⟨gb650, 0, none⟩) (Kd.R_types HO637.out BK650.out (by decide)) (fun _ hk => hk.2) (.slice Ao21 t643.length co21)) (fun _ hk => hk.2) (.slice Ao25 t646.length co25)) (fun _ h_ => h_.1))) hb); have n3_ := Aside0.mk (Kd.R_below (by (with_reducible repeat (first | apply Kd.R_alloc | apply Kd.R_drewN | apply Kd.R_drew)); exact (Kd.R_mono (Kd.R_far (p := ⟨gb650, 1, none⟩) (Kd.R_far (p := ⟨gb650, 0, none⟩) (Kd.R_types HO640.out BK650.out (by decide)) (fun _ hk => hk.2) (.slice Ao21 t643.length co21)) (fun _ hk => hk.2) (.slice Ao25 t646.length co25)) (fun _ h_ => h_.1))) hb); have n4_ := Aside0.mk (Kd.R_below (by (with_reducible repeat (first | apply Kd.R_alloc | apply Kd.R_drewN | apply Kd.R_drew)); exact (Kd.R_mono (Kd.R_far (p := ⟨gb650, 1, none⟩) (Kd.R_far (p := ⟨gb650, 0, none⟩) (Kd.R_types HO645.out BK650.out (by decide)) (fun _ hk => hk.2) (.slice Ao21 t643.length co21)) (fun _ hk => hk.2) (.slice Ao25 t646.length co25)) (fun _ h_ => h_.1))) hb); have n5_ := Aside0.mk (Kd.R_below (by (with_reducible repeat (first | apply Kd.R_alloc | apply Kd.R_drewN | apply Kd.R_drew)); exact (Kd.R_mono (Kd.R_far (p := ⟨gb650, 1, none⟩) (Kd.R_far (p := ⟨gb650, 0, none⟩) (Kd.R_types HO648.out BK650.out (by decide)) (fun _ hk => hk.2) (.slice Ao21 t643.length co21)) (fun _ hk => hk.2) (.slice Ao25 t646.length co25)) (fun _ h_ => h_.1))) hb); have n6_ := Aside0.mk (blk_below (g := gb634) (o := .cells #[.slice Ao9 t627.length co9, .slice Ao11 t630.length co11] 30 (0, 0)) (by (with_reducible repeat (first | refine blk_drewN ?_ _ | refine blk_drew ?_ | refine blk_alloc ?_ _)); refine blk_far ?_ NB634_650.out _; (with_reducible repeat (first | refine blk_drewN ?_ _ | refine blk_drew ?_ | refine blk_alloc ?_ _)); refine blk_far ?_ NB634_650.out _; (with_reducible repeat (first | refine blk_drewN ?_ _ | refine blk_drew ?_ | refine blk_alloc ?_ _)); exact BK634.out) hb); have n7_ := Aside0.mk (blk_below (g := gb642) (o := .cells #[.slice Ao14 t635.length co14, .slice Ao17 t638.length co17] 30 (0, 0)) (by (with_reducible repeat (first | refine blk_drewN ?_ _ | refine blk_drew ?_ | refine blk_alloc ?_ _)); refine blk_far ?_ NB642_650.out _; (with_reducible repeat (first | refine blk_drewN ?_ _ | refine blk_drew ?_ | refine blk_alloc ?_ _)); refine blk_far ?_ NB642_650.out _; (with_reducible repeat (first | refine blk_drewN ?_ _ | refine blk_drew ?_ | refine blk_alloc ?_ _)); exact BK642.out) hb); have n8_ := Aside0.mk (blk_below (g := gb650) (o := .cells #[.slice Ao21 t643.length co21, .slice Ao25 t646.length co25] 30 (0, 0)) (by (with_reducible repeat (first | refine blk_drewN ?_ _ | refine blk_drew ?_ | refine blk_alloc ?_ _)); refine blk_put (cs := #[.slice Ao21 t643.length co21, .slice none 0 0]) ?_ 1 _ rfl; (with_reducible repeat (first | refine blk_drewN ?_ _ | refine blk_drew ?_ | refine blk_alloc ?_ _)); refine blk_put (cs := #[.slice none 0 0, .slice none 0 0]) ?_ 0 _ rfl; (with_reducible repeat (first | refine blk_drewN ?_ _ | refine blk_drew ?_ | refine blk_alloc ?_ _)); exact BK650.out) hb); have n9_ := Aside0.mk (below_step (by repeat (first | (with_reducible first | exact HB.out | apply below_alloc | apply pw_below_drewN | apply below_drew1 | refine below_set ?_ GE634.out | refine below_set ?_ GE642.out | refine below_set ?_ GE650.out) | exact HB.out)) hb); clear HO629; clear HO632; clear HO637; clear HO640; clear HO645; clear HO648; clear BK634; clear BK642; clear BK650; clear HB; have HO629 := n0_; have HO632 := n1_; have HO637 := n2_; have HO640 := n3_; have HO645 := n4_; have HO648 := n5_; have BK634 := n6_; have BK642 := n7_; have BK650 := n8_; have HB := n9_; clear n0_ n1_ n2_ n3_ n4_ n5_ n6_ n7_ n8_ n9_; (try clear hb); (try clear hb2); (try clear hk); (try clear hi)))
          go_meet
          case rel => exact ⟨_, (!t641), (by first | rfl | (simp; done) | (simp [*]; done)), H', ⟨by first | omega | exact Nat.le_refl _⟩, ⟨by (with_reducible repeat (first | apply Kd.R_alloc | apply Kd.R_drewN | apply Kd.R_drew)); exact Kd.R_mono HO629.out (fun _ hk => ⟨hk.1.2, hk.2⟩)⟩, ⟨by (with_reducible repeat (first | apply Kd.R_alloc | apply Kd.R_drewN | apply Kd.R_drew)); exact Kd.R_mono HO632.out (fun _ hk => ⟨hk.1.2, hk.2⟩)⟩, ⟨by (with_reducible repeat (first | apply Kd.R_alloc | apply Kd.R_drewN | apply Kd.R_drew)); exact Kd.R_mono HO637.out (fun _ hk => ⟨hk.1.2, hk.2⟩)⟩, ⟨by (with_reducible repeat (first | apply Kd.R_alloc | apply Kd.R_drewN | apply Kd.R_drew)); exact Kd.R_mono HO640.out (fun _ hk => ⟨hk.1.2, hk.2⟩)⟩, ⟨by (with_reducible repeat (first | apply Kd.R_alloc | apply Kd.R_drewN | apply Kd.R_drew)); exact Kd.R_mono HO645.out (fun _ hk => ⟨hk.1.2, hk.2⟩)⟩, ⟨by (with_reducible repeat (first | apply Kd.R_alloc | apply Kd.R_drewN | apply Kd.R_drew)); exact Kd.R_mono HO648.out (fun _ hk => ⟨hk.1.2, hk.2⟩)⟩, ⟨by (with_reducible repeat (first | refine blk_drewN ?_ _ | refine blk_drew ?_ | refine blk_alloc ?_ _)); exact BK634.out⟩, ⟨by (with_reducible repeat (first | refine blk_drewN ?_ _ | refine blk_drew ?_ | refine blk_alloc ?_ _)); exact BK642.out⟩, ⟨by (with_reducible repeat (first | refine blk_drewN ?_ _ | refine blk_drew ?_ | refine blk_alloc ?_ _)); exact BK650.out⟩, ⟨by repeat (first | (with_reducible first | exact HB.out | apply below_alloc | apply pw_below_drewN | apply below_drew1 | refine below_set ?_ GE634.out | refine below_set ?_ GE642.out | refine below_set ?_ GE650.out) | exact HB.out)⟩⟩
      · replace c27 := Bool.eq_false_iff.mpr c27
        subst c27
        have H1 : (laws_FnAddPlace.j0 k t633 t641 t649 true t627 t630 t635 t638 t643 t646) = some r := by rw [if_neg (show ¬ (false = true) by decide)] at H; exact H
        clear H
        have H := H1
        clear H1
        have H' := Aside0.mk H
        clear H
        have hnb41 := NB642_634.out
        have hnc41 := NB634_642.out
        have hnb42 := NB642_650.out
        have hnc42 := NB650_642.out
        have hcz43_0 : w20.cell? ⟨gb642, 0, none⟩ = some (.slice Ao14 t635.length co14) := (blk_cell BK642.out 0).trans rfl
        have hcz43_1 : w20.cell? ⟨gb642, 1, none⟩ = some (.slice Ao17 t638.length co17) := (blk_cell BK642.out 1).trans rfl
        have hfz43_0 := blk_frozen BK642.out 0
        have hfz43_1 := blk_frozen BK642.out 1
        have hnb44 := NB650_634.out
        have hnc44 := NB634_650.out
        have hcz45_0 : w20.cell? ⟨gb650, 0, none⟩ = some (.slice none 0 0) := (blk_cell BK650.out 0).trans rfl
        have hcz45_1 : w20.cell? ⟨gb650, 1, none⟩ = some (.slice none 0 0) := (blk_cell BK650.out 1).trans rfl
        have hfz45_0 := blk_frozen BK650.out 0
        have hfz45_1 := blk_frozen BK650.out 1
        go_wp2_with (first | ((with_reducible refine gate_callee (f := 34) rfl ?_); refine goesL_ (some 32) rfl rfl Try.func34 (by kernel_rfl) rfl #[.agg #[.slice Ao14 t635.length co14, .slice Ao17 t638.length co17], .agg #[.slice Ao21 t643.length co21, .slice Ao25 t646.length co25]] rfl (by (try simp only [List.map_toArray, List.map_cons, List.map_nil]); first | done | rfl | (simp only [List.length_drop, List.length_take]; rfl)) ?_; (with_reducible refine (laws_equalFlat.calls k _ _ t635 _ _ t638 _ _ t643 _ _ t646 false _ ?side1 ?side2 ?side3 ?side4 ?side5 ?side6 ?side7 ?side8 A26.out).mono ?_); (case side1 => refine (Kd.R_reads' (e := 3) (base := w.heap.size) (ok := fun k_ => ((True ∧ some k_ ≠ (.slice Ao9 t627.length co9 : Value).ownBlock) ∧ some k_ ≠ (.slice Ao21 t643.length co21 : Value).ownBlock)) (n := t635.length) (c := co14) ?_).2.2; exact (by (with_reducible repeat (first | apply Kd.R_alloc | apply Kd.R_drewN | apply Kd.R_drew)); exact (Kd.R_mono (Kd.R_far (p := ⟨gb650, 1, none⟩) (Kd.R_far (p := ⟨gb650, 0, none⟩) (Kd.R_types HO637.out BK650.out (by decide)) (fun _ hk => hk.2) (.slice Ao21 t643.length co21)) (fun _ hk => hk.2) (.slice Ao25 t646.length co25)) (fun _ h_ => h_.1)))); (case side2 => exact (Kd.R_reads' HO637.out).2.1); (case side3 => refine (Kd.R_reads' (e := 94) (base := w.heap.size) (ok := fun k_ => ((True ∧ some k_ ≠ (.slice Ao11 t630.length co11 : Value).ownBlock) ∧ some k_ ≠ (.slice Ao25 t646.length co25 : Value).ownBlock)) (n := t638.length) (c := co17) ?_).2.2; exact (by (with_reducible repeat (first | apply Kd.R_alloc | apply Kd.R_drewN | apply Kd.R_drew)); exact (Kd.R_mono (Kd.R_far (p := ⟨gb650, 1, none⟩) (Kd.R_far (p := ⟨gb650, 0, none⟩) (Kd.R_types HO640.out BK650.out (by decide)) (fun _ hk => hk.2) (.slice Ao21 t643.length co21)) (fun _ hk => hk.2) (.slice Ao25 t646.length co25)) (fun _ h_ => h_.1)))); (case side4 => exact (Kd.R_reads' HO640.out).2.1); (case side5 => refine (Kd.R_reads' (e := 3) (base := w.heap.size) (ok := fun k_ => ((True ∧ some k_ ≠ (.slice Ao9 t627.length co9 : Value).ownBlock) ∧ some k_ ≠ (.slice Ao14 t635.length co14 : Value).ownBlock)) (n := t643.length) (c := co21) ?_).2.2; exact (by (with_reducible repeat (first | apply Kd.R_alloc | apply Kd.R_drewN | apply Kd.R_drew)); exact (Kd.R_mono (Kd.R_far (p := ⟨gb650, 1, none⟩) (Kd.R_far (p := ⟨gb650, 0, none⟩) (Kd.R_types HO645.out BK650.out (by decide)) (fun _ hk => hk.2) (.slice Ao21 t643.length co21)) (fun _ hk => hk.2) (.slice Ao25 t646.length co25)) (fun _ h_ => h_.1)))); (case side6 => exact (Kd.R_reads' HO645.out).2.1); (case side7 => refine (Kd.R_reads' (e := 94) (base := w.heap.size) (ok := fun k_ => ((True ∧ some k_ ≠ (.slice Ao11 t630.length co11 : Value).ownBlock) ∧ some k_ ≠ (.slice Ao17 t638.length co17 : Value).ownBlock)) (n := t646.length) (c := co25) ?_).2.2; exact (by (with_reducible repeat (first | apply Kd.R_alloc | apply Kd.R_drewN | apply Kd.R_drew)); exact (Kd.R_mono (Kd.R_far (p := ⟨gb650, 1, none⟩) (Kd.R_far (p := ⟨gb650, 0, none⟩) (Kd.R_types HO648.out BK650.out (by decide)) (fun _ hk => hk.2) (.slice Ao21 t643.length co21)) (fun _ hk => hk.2) (.slice Ao25 t646.length co25)) (fun _ h_ => h_.1)))); (case side8 => exact (Kd.R_reads' HO648.out).2.1); rintro e w46 ⟨rfl, hb⟩; refine ⟨_, rfl, ?_⟩; have n0_ := Aside0.mk (Kd.R_below (by (with_reducible repeat (first | apply Kd.R_alloc | apply Kd.R_drewN | apply Kd.R_drew)); exact (Kd.R_mono (Kd.R_far (p := ⟨gb650, 1, none⟩) (Kd.R_far (p := ⟨gb650, 0, none⟩) (Kd.R_types HO629.out BK650.out (by decide)) (fun _ hk => hk.2) (.slice Ao21 t643.length co21)) (fun _ hk => hk.2) (.slice Ao25 t646.length co25)) (fun _ h_ => h_.1))) hb); have n1_ := Aside0.mk (Kd.R_below (by (with_reducible repeat (first | apply Kd.R_alloc | apply Kd.R_drewN | apply Kd.R_drew)); exact (Kd.R_mono (Kd.R_far (p := ⟨gb650, 1, none⟩) (Kd.R_far (p := ⟨gb650, 0, none⟩) (Kd.R_types HO632.out BK650.out (by decide)) (fun _ hk => hk.2) (.slice Ao21 t643.length co21)) (fun _ hk => hk.2) (.slice Ao25 t646.length co25)) (fun _ h_ => h_.1))) hb); have n2_ := Aside0.mk (Kd.R_below (by (with_reducible repeat (first | apply Kd.R_alloc | apply Kd.R_drewN | apply Kd.R_drew)); exact (Kd.R_mono (Kd.R_far (p := ⟨gb650, 1, none⟩) (Kd.R_far (p := ⟨gb650, 0, none⟩) (Kd.R_types HO637.out BK650.out (by decide)) (fun _ hk => hk.2) (.slice Ao21 t643.length co21)) (fun _ hk => hk.2) (.slice Ao25 t646.length co25)) (fun _ h_ => h_.1))) hb); have n3_ := Aside0.mk (Kd.R_below (by (with_reducible repeat (first | apply Kd.R_alloc | apply Kd.R_drewN | apply Kd.R_drew)); exact (Kd.R_mono (Kd.R_far (p := ⟨gb650, 1, none⟩) (Kd.R_far (p := ⟨gb650, 0, none⟩) (Kd.R_types HO640.out BK650.out (by decide)) (fun _ hk => hk.2) (.slice Ao21 t643.length co21)) (fun _ hk => hk.2) (.slice Ao25 t646.length co25)) (fun _ h_ => h_.1))) hb); have n4_ := Aside0.mk (Kd.R_below (by (with_reducible repeat (first | apply Kd.R_alloc | apply Kd.R_drewN | apply Kd.R_drew)); exact (Kd.R_mono (Kd.R_far (p := ⟨gb650, 1, none⟩) (Kd.R_far (p := ⟨gb650, 0, none⟩) (Kd.R_types HO645.out BK650.out (by decide)) (fun _ hk => hk.2) (.slice Ao21 t643.length co21)) (fun _ hk => hk.2) (.slice Ao25 t646.length co25)) (fun _ h_ => h_.1))) hb); have n5_ := Aside0.mk (Kd.R_below (by (with_reducible repeat (first | apply Kd.R_alloc | apply Kd.R_drewN | apply Kd.R_drew)); exact (Kd.R_mono (Kd.R_far (p := ⟨gb650, 1, none⟩) (Kd.R_far (p := ⟨gb650, 0, none⟩) (Kd.R_types HO648.out BK650.out (by decide)) (fun _ hk => hk.2) (.slice Ao21 t643.length co21)) (fun _ hk => hk.2) (.slice Ao25 t646.length co25)) (fun _ h_ => h_.1))) hb); have n6_ := Aside0.mk (blk_below (g := gb634) (o := .cells #[.slice Ao9 t627.length co9, .slice Ao11 t630.length co11] 30 (0, 0)) (by (with_reducible repeat (first | refine blk_drewN ?_ _ | refine blk_drew ?_ | refine blk_alloc ?_ _)); refine blk_far ?_ NB634_650.out _; (with_reducible repeat (first | refine blk_drewN ?_ _ | refine blk_drew ?_ | refine blk_alloc ?_ _)); refine blk_far ?_ NB634_650.out _; (with_reducible repeat (first | refine blk_drewN ?_ _ | refine blk_drew ?_ | refine blk_alloc ?_ _)); exact BK634.out) hb); have n7_ := Aside0.mk (blk_below (g := gb642) (o := .cells #[.slice Ao14 t635.length co14, .slice Ao17 t638.length co17] 30 (0, 0)) (by (with_reducible repeat (first | refine blk_drewN ?_ _ | refine blk_drew ?_ | refine blk_alloc ?_ _)); refine blk_far ?_ NB642_650.out _; (with_reducible repeat (first | refine blk_drewN ?_ _ | refine blk_drew ?_ | refine blk_alloc ?_ _)); refine blk_far ?_ NB642_650.out _; (with_reducible repeat (first | refine blk_drewN ?_ _ | refine blk_drew ?_ | refine blk_alloc ?_ _)); exact BK642.out) hb); have n8_ := Aside0.mk (blk_below (g := gb650) (o := .cells #[.slice Ao21 t643.length co21, .slice Ao25 t646.length co25] 30 (0, 0)) (by (with_reducible repeat (first | refine blk_drewN ?_ _ | refine blk_drew ?_ | refine blk_alloc ?_ _)); refine blk_put (cs := #[.slice Ao21 t643.length co21, .slice none 0 0]) ?_ 1 _ rfl; (with_reducible repeat (first | refine blk_drewN ?_ _ | refine blk_drew ?_ | refine blk_alloc ?_ _)); refine blk_put (cs := #[.slice none 0 0, .slice none 0 0]) ?_ 0 _ rfl; (with_reducible repeat (first | refine blk_drewN ?_ _ | refine blk_drew ?_ | refine blk_alloc ?_ _)); exact BK650.out) hb); have n9_ := Aside0.mk (below_step (by repeat (first | (with_reducible first | exact HB.out | apply below_alloc | apply pw_below_drewN | apply below_drew1 | refine below_set ?_ GE634.out | refine below_set ?_ GE642.out | refine below_set ?_ GE650.out) | exact HB.out)) hb); clear HO629; clear HO632; clear HO637; clear HO640; clear HO645; clear HO648; clear BK634; clear BK642; clear BK650; clear HB; have HO629 := n0_; have HO632 := n1_; have HO637 := n2_; have HO640 := n3_; have HO645 := n4_; have HO648 := n5_; have BK634 := n6_; have BK642 := n7_; have BK650 := n8_; have HB := n9_; clear n0_ n1_ n2_ n3_ n4_ n5_ n6_ n7_ n8_ n9_; (try clear hb); (try clear hb2); (try clear hk); (try clear hi)))
        go_meet
        case rel => exact ⟨_, (true), (by first | rfl | (simp; done) | (simp [*]; done)), H', ⟨by first | omega | exact Nat.le_refl _⟩, ⟨by (with_reducible repeat (first | apply Kd.R_alloc | apply Kd.R_drewN | apply Kd.R_drew)); exact Kd.R_mono HO629.out (fun _ hk => ⟨hk.1.2, hk.2⟩)⟩, ⟨by (with_reducible repeat (first | apply Kd.R_alloc | apply Kd.R_drewN | apply Kd.R_drew)); exact Kd.R_mono HO632.out (fun _ hk => ⟨hk.1.2, hk.2⟩)⟩, ⟨by (with_reducible repeat (first | apply Kd.R_alloc | apply Kd.R_drewN | apply Kd.R_drew)); exact Kd.R_mono HO637.out (fun _ hk => ⟨hk.1.2, hk.2⟩)⟩, ⟨by (with_reducible repeat (first | apply Kd.R_alloc | apply Kd.R_drewN | apply Kd.R_drew)); exact Kd.R_mono HO640.out (fun _ hk => ⟨hk.1.2, hk.2⟩)⟩, ⟨by (with_reducible repeat (first | apply Kd.R_alloc | apply Kd.R_drewN | apply Kd.R_drew)); exact Kd.R_mono HO645.out (fun _ hk => ⟨hk.1.2, hk.2⟩)⟩, ⟨by (with_reducible repeat (first | apply Kd.R_alloc | apply Kd.R_drewN | apply Kd.R_drew)); exact Kd.R_mono HO648.out (fun _ hk => ⟨hk.1.2, hk.2⟩)⟩, ⟨by (with_reducible repeat (first | refine blk_drewN ?_ _ | refine blk_drew ?_ | refine blk_alloc ?_ _)); exact BK634.out⟩, ⟨by (with_reducible repeat (first | refine blk_drewN ?_ _ | refine blk_drew ?_ | refine blk_alloc ?_ _)); exact BK642.out⟩, ⟨by (with_reducible repeat (first | refine blk_drewN ?_ _ | refine blk_drew ?_ | refine blk_alloc ?_ _)); exact BK650.out⟩, ⟨by repeat (first | (with_reducible first | exact HB.out | apply below_alloc | apply pw_below_drewN | apply below_drew1 | refine below_set ?_ GE634.out | refine below_set ?_ GE642.out | refine below_set ?_ GE650.out) | exact HB.out)⟩⟩
    case rest =>
      clear HC6
      try clear c1
      try clear c2
      try clear c2b0
      try clear c2b1
      try clear p2
      try clear c3
      try clear c4
      try clear c7
      try clear c15
      try clear c22
      try clear c23
      try clear c27
      try clear c28
      try clear c28b0
      try clear c28b1
      try clear c28b2
      try clear c29
      try clear c30
      try clear c31
      try clear c32
      try clear c33
      try clear c34
      try clear c35
      try clear c36
      try clear c38
      try clear c41
      try clear c42
      try clear c44
      try clear hcz10_0
      try clear hcz10_1
      try clear hcz16_0
      try clear hcz16_1
      try clear hcz18_0
      try clear hcz18_1
      try clear hcz24_0
      try clear hcz24_1
      try clear hcz31_0
      try clear hcz31_1
      try clear hcz33_0
      try clear hcz33_1
      try clear hcz37_0
      try clear hcz37_1
      try clear hcz39_0
      try clear hcz39_1
      try clear hcz43_0
      try clear hcz43_1
      try clear hcz45_0
      try clear hcz45_1
      try clear hfz10_0
      try clear hfz10_1
      try clear hfz16_0
      try clear hfz16_1
      try clear hfz18_0
      try clear hfz18_1
      try clear hfz24_0
      try clear hfz24_1
      try clear hfz31_0
      try clear hfz31_1
      try clear hfz33_0
      try clear hfz33_1
      try clear hfz37_0
      try clear hfz37_1
      try clear hfz39_0
      try clear hfz39_1
      try clear hfz43_0
      try clear hfz43_1
      try clear hfz45_0
      try clear hfz45_1
      obtain ⟨kq, x42_5, rfl, HA, HJ5, HO_635000, HO_635001, HO_643000, HO_643001, HO_651000, HO_651001, BK634, BK642, BK650, HB⟩ := hcut
      cases kq with
      | zero => exact absurd HA.out (by simp [laws_FnAddPlace.j0])
      | succ kj5 =>
        have H := HA.out
        clear HA
        simp only [laws_FnAddPlace.j0] at H
        by_cases c47 : x42_5 = true
        · subst c47
          have H1 : ((laws_equalFlat.f kj5 t635 t638 t643 t646).bind fun t652 => (if t652 = true then (some (t641 == t649)) else (some false))) = some r := by rw [if_pos rfl] at H; exact H
          clear H
          have H := H1
          clear H1
          replace H := Option.bind_eq_some_iff.mp H
          obtain ⟨t652, A480, H⟩ := H
          replace H : (if t652 = true then (some (t641 == t649)) else (some false)) = some r := H
          have A48 := Aside0.mk A480
          clear A480
          by_cases c49 : t652 = true
          · subst c49
            have H1 : (some (t641 == t649)) = some r := by rw [if_pos rfl] at H; exact H
            clear H
            have H := H1
            clear H1
            obtain rfl := Option.some.inj H
            have hnb50 := NB642_634.out
            have hnc50 := NB634_642.out
            have hnb51 := NB642_650.out
            have hnc51 := NB650_642.out
            have hcz52_0 : wc.cell? ⟨gb642, 0, none⟩ = some (.slice Ao14 t635.length co14) := (blk_cell BK642.out 0).trans rfl
            have hcz52_1 : wc.cell? ⟨gb642, 1, none⟩ = some (.slice Ao17 t638.length co17) := (blk_cell BK642.out 1).trans rfl
            have hfz52_0 := blk_frozen BK642.out 0
            have hfz52_1 := blk_frozen BK642.out 1
            have hnb53 := NB650_634.out
            have hnc53 := NB634_650.out
            have hcz54_0 : wc.cell? ⟨gb650, 0, none⟩ = some (.slice Ao21 t643.length co21) := (blk_cell BK650.out 0).trans rfl
            have hcz54_1 : wc.cell? ⟨gb650, 1, none⟩ = some (.slice Ao25 t646.length co25) := (blk_cell BK650.out 1).trans rfl
            have hfz54_0 := blk_frozen BK650.out 0
            have hfz54_1 := blk_frozen BK650.out 1
            go_wp2_with (first | ((with_reducible refine gate_callee (f := 34) rfl ?_); refine goesL_ (some 45) rfl rfl Try.func34 (by kernel_rfl) rfl #[.agg #[.slice Ao14 t635.length co14, .slice Ao17 t638.length co17], .agg #[.slice Ao21 t643.length co21, .slice Ao25 t646.length co25]] rfl (by (try simp only [List.map_toArray, List.map_cons, List.map_nil]); first | done | rfl | (simp only [List.length_drop, List.length_take]; rfl)) ?_; (with_reducible refine (laws_equalFlat.calls kj5 _ _ t635 _ _ t638 _ _ t643 _ _ t646 true _ ?side1 ?side2 ?side3 ?side4 ?side5 ?side6 ?side7 ?side8 A48.out).mono ?_); (case side1 => repeat (first | exact (Kd.R_reads' HO_643000.out).2.2 | (with_reducible refine Kd.C_alloc ?_ _) | (with_reducible refine Kd.C_drewN ?_ _) | (with_reducible refine Kd.C_drew ?_))); (case side2 => exact (Kd.R_reads' HO_643000.out).2.1); (case side3 => repeat (first | exact (Kd.R_reads' HO_643001.out).2.2 | (with_reducible refine Kd.C_alloc ?_ _) | (with_reducible refine Kd.C_drewN ?_ _) | (with_reducible refine Kd.C_drew ?_))); (case side4 => exact (Kd.R_reads' HO_643001.out).2.1); (case side5 => repeat (first | exact (Kd.R_reads' HO_651000.out).2.2 | (with_reducible refine Kd.C_alloc ?_ _) | (with_reducible refine Kd.C_drewN ?_ _) | (with_reducible refine Kd.C_drew ?_))); (case side6 => exact (Kd.R_reads' HO_651000.out).2.1); (case side7 => repeat (first | exact (Kd.R_reads' HO_651001.out).2.2 | (with_reducible refine Kd.C_alloc ?_ _) | (with_reducible refine Kd.C_drewN ?_ _) | (with_reducible refine Kd.C_drew ?_))); (case side8 => exact (Kd.R_reads' HO_651001.out).2.1); rintro e w55 ⟨rfl, hb⟩; refine ⟨_, rfl, ?_⟩; have n0_ := Aside0.mk (Kd.R_below (by (with_reducible repeat (first | apply Kd.R_alloc | apply Kd.R_drewN | apply Kd.R_drew)); exact HO_635000.out) hb); have n1_ := Aside0.mk (Kd.R_below (by (with_reducible repeat (first | apply Kd.R_alloc | apply Kd.R_drewN | apply Kd.R_drew)); exact HO_635001.out) hb); have n2_ := Aside0.mk (Kd.R_below (by (with_reducible repeat (first | apply Kd.R_alloc | apply Kd.R_drewN | apply Kd.R_drew)); exact HO_643000.out) hb); have n3_ := Aside0.mk (Kd.R_below (by (with_reducible repeat (first | apply Kd.R_alloc | apply Kd.R_drewN | apply Kd.R_drew)); exact HO_643001.out) hb); have n4_ := Aside0.mk (Kd.R_below (by (with_reducible repeat (first | apply Kd.R_alloc | apply Kd.R_drewN | apply Kd.R_drew)); exact HO_651000.out) hb); have n5_ := Aside0.mk (Kd.R_below (by (with_reducible repeat (first | apply Kd.R_alloc | apply Kd.R_drewN | apply Kd.R_drew)); exact HO_651001.out) hb); have n6_ := Aside0.mk (blk_below (g := gb634) (o := .cells #[.slice Ao9 t627.length co9, .slice Ao11 t630.length co11] 30 (0, 0)) (by (with_reducible repeat (first | refine blk_drewN ?_ _ | refine blk_drew ?_ | refine blk_alloc ?_ _)); exact BK634.out) hb); have n7_ := Aside0.mk (blk_below (g := gb642) (o := .cells #[.slice Ao14 t635.length co14, .slice Ao17 t638.length co17] 30 (0, 0)) (by (with_reducible repeat (first | refine blk_drewN ?_ _ | refine blk_drew ?_ | refine blk_alloc ?_ _)); exact BK642.out) hb); have n8_ := Aside0.mk (blk_below (g := gb650) (o := .cells #[.slice Ao21 t643.length co21, .slice Ao25 t646.length co25] 30 (0, 0)) (by (with_reducible repeat (first | refine blk_drewN ?_ _ | refine blk_drew ?_ | refine blk_alloc ?_ _)); exact BK650.out) hb); have n9_ := Aside0.mk (below_step (by repeat (first | (with_reducible first | exact HB.out | apply below_alloc | apply pw_below_drewN | apply below_drew1 | refine below_set ?_ GE634.out | refine below_set ?_ GE642.out | refine below_set ?_ GE650.out) | exact HB.out)) hb); clear HO_635000; clear HO_635001; clear HO_643000; clear HO_643001; clear HO_651000; clear HO_651001; clear BK634; clear BK642; clear BK650; clear HB; have HO_635000 := n0_; have HO_635001 := n1_; have HO_643000 := n2_; have HO_643001 := n3_; have HO_651000 := n4_; have HO_651001 := n5_; have BK634 := n6_; have BK642 := n7_; have BK650 := n8_; have HB := n9_; clear n0_ n1_ n2_ n3_ n4_ n5_ n6_ n7_ n8_ n9_; (try clear hb); (try clear hb2); (try clear hk); (try clear hi)))
            go_ret
            exact ⟨by first | rfl | (simp [errW_none, errW_some] <;> rfl) | (simp [*, errW_none, errW_some] <;> rfl), by repeat (first | (with_reducible first | exact HB.out | apply below_alloc | apply pw_below_drewN | apply below_drew1 | refine below_set ?_ GE634.out | refine below_set ?_ GE642.out | refine below_set ?_ GE650.out) | exact HB.out)⟩
          · replace c49 := Bool.eq_false_iff.mpr c49
            subst c49
            have H1 : (some false) = some r := by rw [if_neg (show ¬ (false = true) by decide)] at H; exact H
            clear H
            have H := H1
            clear H1
            obtain rfl := Option.some.inj H
            exact absurd HR_.out (by decide)
        · replace c47 := Bool.eq_false_iff.mpr c47
          subst c47
          have H1 : (if 0 ≤ (t627.length : Int) then (if (t627.length : Int) ≤ (t635.length : Int) then ((laws_equalInts.f kj5 (t635.take ((t627.length : Int) : Int).toNat) t627).bind fun t657 => (if t657 = true then (if (t627.length : Int) < (t635.length : Int) then (if (rd t635 (t627.length : Int)) = t633 then (if (t635.length : Int) = (wrap64 ((t627.length : Int) + 1)) then ((laws_equalPairs.f kj5 t638 t630).bind fun t659 => (some t659)) else (some false)) else (some false)) else (none)) else (some false))) else (none)) else (none)) = some r := by rw [if_neg (show ¬ (false = true) by decide)] at H; exact H
          clear H
          have H := H1
          clear H1
          by_cases c56 : 0 ≤ (t627.length : Int)
          · rw [if_pos c56] at H
            have c56b0 := eq_true c56
            have c56b1 : decide (0 ≤ (t627.length : Int)) = true := decide_eq_true c56
            clear c56
            by_cases c57 : (t627.length : Int) ≤ (t635.length : Int)
            · rw [if_pos c57] at H
              have c57b0 := eq_true c57
              have c57b1 : decide ((t627.length : Int) ≤ (t635.length : Int)) = true := decide_eq_true c57
              clear c57
              obtain ⟨y653, hy653⟩ : ∃ y_ : List Int, y_ = (t635.take ((t627.length : Int) : Int).toNat) := ⟨_, rfl⟩
              replace H : ((laws_equalInts.f kj5 y653 t627).bind fun t657 => (if t657 = true then (if (t627.length : Int) < (t635.length : Int) then (if (rd t635 (t627.length : Int)) = t633 then (if (t635.length : Int) = (wrap64 ((t627.length : Int) + 1)) then ((laws_equalPairs.f kj5 t638 t630).bind fun t659 => (some t659)) else (some false)) else (some false)) else (none)) else (some false))) = some r := by first | (rw [hy653]; with_reducible exact H) | (have H2_ := (Option.bind_some _ _).symm.trans H; rw [hy653]; with_reducible exact H2_) | (have H2_ := (Option.bind_some _ _).symm.trans H; with_reducible exact H2_) | with_reducible exact H | (rw [hy653]; exact H) | exact H
              have Ny653 := Aside0.mk hy653
              clear hy653
              replace H := Option.bind_eq_some_iff.mp H
              obtain ⟨t657, A580, H⟩ := H
              replace H : (if t657 = true then (if (t627.length : Int) < (t635.length : Int) then (if (rd t635 (t627.length : Int)) = t633 then (if (t635.length : Int) = (wrap64 ((t627.length : Int) + 1)) then ((laws_equalPairs.f kj5 t638 t630).bind fun t659 => (some t659)) else (some false)) else (some false)) else (none)) else (some false)) = some r := H
              have A58 := Aside0.mk A580
              clear A580
              by_cases c59 : t657 = true
              · subst c59
                have H1 : (if (t627.length : Int) < (t635.length : Int) then (if (rd t635 (t627.length : Int)) = t633 then (if (t635.length : Int) = (wrap64 ((t627.length : Int) + 1)) then ((laws_equalPairs.f kj5 t638 t630).bind fun t659 => (some t659)) else (some false)) else (some false)) else (none)) = some r := by rw [if_pos rfl] at H; exact H
                clear H
                have H := H1
                clear H1
                by_cases c60 : (t627.length : Int) < (t635.length : Int)
                · rw [if_pos c60] at H
                  have c60b0 : decide ((t627.length : Int) < (t635.length : Int)) = true := decide_eq_true c60
                  have c60b1 : decide (t627.length < t635.length) = true := decide_eq_true (Int.ofNat_lt.mp c60)
                  clear c60
                  by_cases c61 : (rd t635 (t627.length : Int)) = t633
                  · rw [if_pos c61] at H
                    have c61b0 : ((rd t635 (t627.length : Int)) == t633) = true := beq_iff_eq.mpr c61
                    have c61b1 : ((rd t635 (t627.length : Int)) != t633) = false := bne_eq_false_iff_eq.mpr c61
                    clear c61
                    by_cases c62 : (t635.length : Int) = (wrap64 ((t627.length : Int) + 1))
                    · rw [if_pos c62] at H
                      have c62b0 : ((t635.length : Int) == (wrap64 ((t627.length : Int) + 1))) = true := beq_iff_eq.mpr c62
                      have c62b1 : ((t635.length : Int) != (wrap64 ((t627.length : Int) + 1))) = false := bne_eq_false_iff_eq.mpr c62
                      clear c62
                      replace H := Option.bind_eq_some_iff.mp H
                      obtain ⟨t659, A630, H⟩ := H
                      replace H : (some t659) = some r := H
                      have A63 := Aside0.mk A630
                      clear A630
                      obtain rfl := Option.some.inj H
                      have hnb64 := NB634_642.out
                      have hnc64 := NB642_634.out
                      have hnb65 := NB634_650.out
                      have hnc65 := NB650_634.out
                      have hcz66_0 : wc.cell? ⟨gb634, 0, none⟩ = some (.slice Ao9 t627.length co9) := (blk_cell BK634.out 0).trans rfl
                      have hcz66_1 : wc.cell? ⟨gb634, 1, none⟩ = some (.slice Ao11 t630.length co11) := (blk_cell BK634.out 1).trans rfl
                      have hfz66_0 := blk_frozen BK634.out 0
                      have hfz66_1 := blk_frozen BK634.out 1
                      try go_wp2
                      have n0_ := Aside0.mk (Kd.R_drew HO_635000.out)
                      have n1_ := Aside0.mk (Kd.R_drew HO_635001.out)
                      have n2_ := Aside0.mk (Kd.R_drew HO_643000.out)
                      have n3_ := Aside0.mk (Kd.R_drew HO_643001.out)
                      have n4_ := Aside0.mk (Kd.R_drew HO_651000.out)
                      have n5_ := Aside0.mk (Kd.R_drew HO_651001.out)
                      have n6_ := Aside0.mk (blk_drew BK634.out)
                      have n7_ := Aside0.mk (blk_drew BK642.out)
                      have n8_ := Aside0.mk (blk_drew BK650.out)
                      have n9_ := Aside0.mk (below_drew1 HB.out)
                      clear HO_635000
                      clear HO_635001
                      clear HO_643000
                      clear HO_643001
                      clear HO_651000
                      clear HO_651001
                      clear BK634
                      clear BK642
                      clear BK650
                      clear HB
                      have HO_635000 := n0_
                      have HO_635001 := n1_
                      have HO_643000 := n2_
                      have HO_643001 := n3_
                      have HO_651000 := n4_
                      have HO_651001 := n5_
                      have BK634 := n6_
                      have BK642 := n7_
                      have BK650 := n8_
                      have HB := n9_
                      clear n0_ n1_ n2_ n3_ n4_ n5_ n6_ n7_ n8_ n9_
                      have q68 : ((t627.length : Int) : Int) ≤ ((t635.length : Int) : Int) := of_decide_eq_true (by first | (with_reducible assumption) | assumption)
                      obtain ⟨i068, hi068, _, hsz68, _⟩ := info_parts info3
                      have hroom68 : t635.length ≤ co14 := (Kd.R_reads' HO_643000.out).2.1
                      have hC68 : Kd.C (Kd.int .i64) _ Ao14 t635.length t635 := (Kd.R_reads' HO_643000.out).2.2
                      have hcut68 := cut_to (P := Try.prog) 22 3 .i64 Try.underlying22 hi068 Ao14 t635.length co14 (t627.length : Int) (of_decide_eq_true (by first | (with_reducible assumption) | assumption)) q68 hroom68
                      have hr68 := Kd.C_take (m := ((t627.length : Int) : Int).toNat) hC68 (by omega)
                      have hy68 : y653.length = ((t627.length : Int) : Int).toNat := (by rw [Ny653.out, List.length_take]; omega)
                      rw [← Ny653.out] at hr68
                      rw [← hy68] at hcut68
                      have HR656 := Aside0.mk hr68
                      have HC656 := Aside0.mk (show y653.length ≤ co14 from by omega)
                      clear hr68 hC68 hroom68 hi068 hsz68
                      have KY68 := Aside0.mk hy68
                      clear hy68
                      have KL68 := Aside0.mk (show ((t627.length : Int) : Int).toNat ≤ t635.length from by omega)
                      replace q68 := eq_true q68
                      have p658 : 0 ≤ ((t627.length : Int) : Int) := of_decide_eq_true (by first | (with_reducible assumption) | assumption)
                      have q658 : (t627.length : Int) < (t635.length : Int) := of_decide_eq_true (by first | (with_reducible assumption) | assumption)
                      obtain ⟨ad658, e658, hx658_0⟩ := Kd.at_int (Kd.R_reads' HO_643000.out).2.2 (t627.length : Int) p658 q658
                      cases e658
                      (try simp only [Go.IntWalk.toNatUp] at hx658_0)
                      replace p658 := eq_true p658
                      replace q658 := eq_true q658
                      refine start_ (n := 32) (S := fun w' => w'.cell? ⟨gb642, 0, none⟩ = some (.slice (some ad658) t635.length co14) ∧ w'.cell? ⟨gb642, 1, none⟩ = some (.slice Ao17 t638.length co17) ∧ w'.cell? ⟨gb634, 0, none⟩ = some (.slice Ao9 t627.length co9) ∧ w'.cell? ⟨gb634, 1, none⟩ = some (.slice Ao11 t630.length co11) ∧ w'.cell? (ad658.add t627.length) = some (.int .i64 (rd t635 (t627.length : Int)))) (ds := []) #[false, false, false, false, false, false, false, false, false, false, false, false, false, false, false, false, false, false, false, false, false, false, false, false, false, false, false, false, false, false, false, false] (by kernel_rfl) rfl rfl ⟨(blk_cell BK642.out 0).trans rfl, (blk_cell BK642.out 1).trans rfl, (blk_cell BK634.out 0).trans rfl, (blk_cell BK634.out 1).trans rfl, hx658_0⟩ (fun hHeld => ?_); refine with_tabW laws_FnAddPlace.tab9 laws_FnAddPlace.bits9 (fun HT_ HW_ => ?_)
                      generalize wc.drew = w67 at HO_635000 HO_635001 HO_643000 HO_643001 HO_651000 HO_651001 BK634 BK642 BK650 HB HR656 hx658_0 hHeld ⊢
                      refine pure_ (i := 0) (N := some 54) (v := ?_) (a' := ?_) #[true, false, false, false, false, false, false, false, false, false, false, false, false, false, false, false, false, false, false, false, false, false, false, false, false, false, false, false, false, false, false, false] rfl rfl (any_of HT_.out (by kernel_rfl)) (fun _ _ _ h => h) (Or.inl ⟨by rfl, ?_⟩) ?_ ?_
                      rotate_left
                      · intro w'
                        go_simp
                        with_reducible rfl
                      rotate_left
                      · simp only [Act.put, List.setIfInBounds_toArray, List.set_cons_zero, List.set_cons_succ, i64_w, i32_w]
                        rfl
                      refine pure_ (i := 2) (N := some 56) (v := ?_) (a' := ?_) #[true, false, true, false, false, false, false, false, false, false, false, false, false, false, false, false, false, false, false, false, false, false, false, false, false, false, false, false, false, false, false, false] rfl rfl (any_of HT_.out (by kernel_rfl)) (fun _ _ _ h => h) (Or.inl ⟨by rfl, ?_⟩) ?_ ?_
                      rotate_left
                      · intro w'
                        go_simp
                        with_reducible rfl
                      rotate_left
                      · simp only [Act.put, List.setIfInBounds_toArray, List.set_cons_zero, List.set_cons_succ, i64_w, i32_w]
                        rfl
                      refine pure_ (i := 4) (N := some 58) (v := ?_) (a' := ?_) #[true, false, true, false, true, false, false, false, false, false, false, false, false, false, false, false, false, false, false, false, false, false, false, false, false, false, false, false, false, false, false, false] rfl rfl (any_of HT_.out (by kernel_rfl)) (fun _ _ _ h => h) (Or.inl ⟨by rfl, ?_⟩) ?_ ?_
                      rotate_left
                      · intro w'
                        go_simp
                        with_reducible rfl
                      rotate_left
                      · simp only [Act.put, List.setIfInBounds_toArray, List.set_cons_zero, List.set_cons_succ, i64_w, i32_w]
                        rfl
                      refine take_ (i := 1) (N := some 55) (v := ?_) (a' := ?_) #[true, true, true, false, true, false, false, false, false, false, false, false, false, false, false, false, false, false, false, false, false, false, false, false, false, false, false, false, false, false, false, false] rfl rfl (take_ofW HT_.out HW_.out (by kernel_rfl)) (fun _ _ _ h => h) (Or.inl ⟨by rfl, ?_⟩) hHeld ?_ ?_
                      rotate_left
                      · rintro w' ⟨s0, s1, s2, s3, s4⟩
                        go_simp
                        with_reducible rfl
                      rotate_left
                      · simp only [Act.put, List.setIfInBounds_toArray, List.set_cons_zero, List.set_cons_succ, i64_w, i32_w]
                        rfl
                      refine pure_ (i := 3) (N := some 57) (v := ?_) (a' := ?_) #[true, true, true, true, true, false, false, false, false, false, false, false, false, false, false, false, false, false, false, false, false, false, false, false, false, false, false, false, false, false, false, false] rfl rfl (any_of HT_.out (by kernel_rfl)) (fun _ _ _ h => h) (Or.inl ⟨by rfl, ?_⟩) ?_ ?_
                      rotate_left
                      · intro w'
                        go_simp
                        with_reducible rfl
                      rotate_left
                      · simp only [Act.put, List.setIfInBounds_toArray, List.set_cons_zero, List.set_cons_succ, i64_w, i32_w]
                        rfl
                      refine take_ (i := 5) (N := some 59) (v := ?_) (a' := ?_) #[true, true, true, true, true, true, false, false, false, false, false, false, false, false, false, false, false, false, false, false, false, false, false, false, false, false, false, false, false, false, false, false] rfl rfl (take_ofW HT_.out HW_.out (by kernel_rfl)) (fun _ _ _ h => h) (Or.inl ⟨by rfl, ?_⟩) hHeld ?_ ?_
                      rotate_left
                      · rintro w' ⟨s0, s1, s2, s3, s4⟩
                        go_simp
                        with_reducible rfl
                      rotate_left
                      · simp only [Act.put, List.setIfInBounds_toArray, List.set_cons_zero, List.set_cons_succ, i64_w, i32_w]
                        rfl
                      refine one_ (i := 6) (N := some 60) #[true, true, true, true, true, true, true, false, false, false, false, false, false, false, false, false, false, false, false, false, false, false, false, false, false, false, false, false, false, false, false, false] rfl rfl (one_of HT_.out (by kernel_rfl)) (by decide) (fun K hK => ?_)
                      refine goes_ Try.func35 (by kernel_rfl) rfl #[.slice (some ad658) y653.length co14, .slice Ao9 t627.length co9] (by rfl) rfl rfl (by (try simp only [List.map_toArray, List.map_cons, List.map_nil]); first | done | rfl | (simp only [List.length_drop, List.length_take]; rfl)) ?_
                      with_reducible refine (laws_equalInts.calls kj5 _ _ y653 _ _ t627 true _ ?side1 ?side2 ?side3 ?side4 A58.out).mono ?_
                      (case side1 => repeat (first | exact (by repeat (first | (with_reducible exact HR656.out) | (with_reducible refine Kd.C_alloc ?_ _) | (with_reducible refine Kd.C_drewN ?_ _) | (with_reducible refine Kd.C_drew ?_) | exact HR656.out)) | (with_reducible refine Kd.C_alloc ?_ _) | (with_reducible refine Kd.C_drewN ?_ _) | (with_reducible refine Kd.C_drew ?_)))
                      (case side2 => exact HC656.out)
                      (case side3 => repeat (first | exact (Kd.R_reads' HO_635000.out).2.2 | (with_reducible refine Kd.C_alloc ?_ _) | (with_reducible refine Kd.C_drewN ?_ _) | (with_reducible refine Kd.C_drew ?_)))
                      (case side4 => exact (Kd.R_reads' HO_635000.out).2.1)
                      rintro e w' ⟨rfl, ⟨nd, rfl⟩⟩
                      refine ⟨_, rfl, ?_⟩
                      refine hK.out _ _ ⟨(blk_cell BK642.out 0).trans rfl, (blk_cell BK642.out 1).trans rfl, (blk_cell BK634.out 0).trans rfl, (blk_cell BK634.out 1).trans rfl, hHeld.2.2.2.2⟩ (fun hHeld => ?_)
                      clear hK K
                      refine norm_ (a' := ?_) ?_ ?_
                      rotate_left
                      · show Act.put _ (some 60) _ = _
                        simp only [Act.put, List.setIfInBounds_toArray, List.set_cons_zero, List.set_cons_succ, i64_w, i32_w]
                        rfl
                      refine pure_ (i := 7) (N := some 61) (v := ?_) (a' := ?_) #[true, true, true, true, true, true, true, true, false, false, false, false, false, false, false, false, false, false, false, false, false, false, false, false, false, false, false, false, false, false, false, false] rfl rfl (any_of HT_.out (by kernel_rfl)) (fun _ _ _ h => h) (Or.inl ⟨by rfl, ?_⟩) ?_ ?_
                      rotate_left
                      · intro w'
                        go_simp
                        with_reducible rfl
                      rotate_left
                      · simp only [Act.put, List.setIfInBounds_toArray, List.set_cons_zero, List.set_cons_succ, i64_w, i32_w]
                        rfl
                      refine pure_ (i := 8) (N := some 62) (v := ?_) (a' := ?_) #[true, true, true, true, true, true, true, true, true, false, false, false, false, false, false, false, false, false, false, false, false, false, false, false, false, false, false, false, false, false, false, false] rfl rfl (any_of HT_.out (by kernel_rfl)) (fun _ _ _ h => h) (Or.inl ⟨by rfl, ?_⟩) ?_ ?_
                      rotate_left
                      · intro w'
                        go_simp
                        with_reducible rfl
                      rotate_left
                      · simp only [Act.put, List.setIfInBounds_toArray, List.set_cons_zero, List.set_cons_succ, i64_w, i32_w]
                        rfl
                      refine pure_ (i := 10) (N := some 64) (v := ?_) (a' := ?_) #[true, true, true, true, true, true, true, true, true, false, true, false, false, false, false, false, false, false, false, false, false, false, false, false, false, false, false, false, false, false, false, false] rfl rfl (any_of HT_.out (by kernel_rfl)) (fun _ _ _ h => h) (Or.inl ⟨by rfl, ?_⟩) ?_ ?_
                      rotate_left
                      · intro w'
                        go_simp
                        with_reducible rfl
                      rotate_left
                      · simp only [Act.put, List.setIfInBounds_toArray, List.set_cons_zero, List.set_cons_succ, i64_w, i32_w]
                        rfl
                      refine pure_ (i := 13) (N := some 67) (v := ?_) (a' := ?_) #[true, true, true, true, true, true, true, true, true, false, true, false, false, true, false, false, false, false, false, false, false, false, false, false, false, false, false, false, false, false, false, false] rfl rfl (any_of HT_.out (by kernel_rfl)) (fun _ _ _ h => h) (Or.inl ⟨by rfl, ?_⟩) ?_ ?_
                      rotate_left
                      · intro w'
                        go_simp
                        with_reducible rfl
                      rotate_left
                      · simp only [Act.put, List.setIfInBounds_toArray, List.set_cons_zero, List.set_cons_succ, i64_w, i32_w]
                        rfl
                      refine take_ (i := 9) (N := some 63) (v := ?_) (a' := ?_) #[true, true, true, true, true, true, true, true, true, true, true, false, false, true, false, false, false, false, false, false, false, false, false, false, false, false, false, false, false, false, false, false] rfl rfl (take_ofW HT_.out HW_.out (by kernel_rfl)) (fun _ _ _ h => h) (Or.inl ⟨by rfl, ?_⟩) hHeld ?_ ?_
                      rotate_left
                      · rintro w' ⟨s0, s1, s2, s3, s4⟩
                        go_simp
                        with_reducible rfl
                      rotate_left
                      · simp only [Act.put, List.setIfInBounds_toArray, List.set_cons_zero, List.set_cons_succ, i64_w, i32_w]
                        rfl
                      refine pure_ (i := 11) (N := some 65) (v := ?_) (a' := ?_) #[true, true, true, true, true, true, true, true, true, true, true, true, false, true, false, false, false, false, false, false, false, false, false, false, false, false, false, false, false, false, false, false] rfl rfl (any_of HT_.out (by kernel_rfl)) (fun _ _ _ h => h) (Or.inl ⟨by rfl, ?_⟩) ?_ ?_
                      rotate_left
                      · intro w'
                        go_simp
                        with_reducible rfl
                      rotate_left
                      · simp only [Act.put, List.setIfInBounds_toArray, List.set_cons_zero, List.set_cons_succ, i64_w, i32_w]
                        rfl
                      refine take_ (i := 12) (N := some 66) (v := ?_) (a' := ?_) #[true, true, true, true, true, true, true, true, true, true, true, true, true, true, false, false, false, false, false, false, false, false, false, false, false, false, false, false, false, false, false, false] rfl rfl (take_ofW HT_.out HW_.out (by kernel_rfl)) (fun _ _ _ h => h) (Or.inl ⟨by rfl, ?_⟩) hHeld ?_ ?_
                      rotate_left
                      · rintro w' ⟨s0, s1, s2, s3, s4⟩
                        go_simp
                        with_reducible rfl
                      rotate_left
                      · simp only [Act.put, List.setIfInBounds_toArray, List.set_cons_zero, List.set_cons_succ, i64_w, i32_w]
                        rfl
                      refine pure_ (i := 14) (N := some 68) (v := ?_) (a' := ?_) #[true, true, true, true, true, true, true, true, true, true, true, true, true, true, true, false, false, false, false, false, false, false, false, false, false, false, false, false, false, false, false, false] rfl rfl (any_of HT_.out (by kernel_rfl)) (fun _ _ _ h => h) (Or.inl ⟨by rfl, ?_⟩) ?_ ?_
                      rotate_left
                      · intro w'
                        go_simp
                        with_reducible rfl
                      rotate_left
                      · simp only [Act.put, List.setIfInBounds_toArray, List.set_cons_zero, List.set_cons_succ, i64_w, i32_w]
                        rfl
                      refine pure_ (i := 15) (N := some 69) (v := ?_) (a' := ?_) #[true, true, true, true, true, true, true, true, true, true, true, true, true, true, true, true, false, false, false, false, false, false, false, false, false, false, false, false, false, false, false, false] rfl rfl (any_of HT_.out (by kernel_rfl)) (fun _ _ _ h => h) (Or.inl ⟨by rfl, ?_⟩) ?_ ?_
                      rotate_left
                      · intro w'
                        go_simp
                        with_reducible rfl
                      rotate_left
                      · simp only [Act.put, List.setIfInBounds_toArray, List.set_cons_zero, List.set_cons_succ, i64_w, i32_w]
                        rfl
                      refine pure_ (i := 16) (N := some 70) (v := ?_) (a' := ?_) #[true, true, true, true, true, true, true, true, true, true, true, true, true, true, true, true, true, false, false, false, false, false, false, false, false, false, false, false, false, false, false, false] rfl rfl (any_of HT_.out (by kernel_rfl)) (fun _ _ _ h => h) (Or.inl ⟨by rfl, ?_⟩) ?_ ?_
                      rotate_left
                      · intro w'
                        go_simp
                        with_reducible rfl
                      rotate_left
                      · simp only [Act.put, List.setIfInBounds_toArray, List.set_cons_zero, List.set_cons_succ, i64_w, i32_w]
                        rfl
                      refine pure_ (i := 17) (N := some 71) (v := ?_) (a' := ?_) #[true, true, true, true, true, true, true, true, true, true, true, true, true, true, true, true, true, true, false, false, false, false, false, false, false, false, false, false, false, false, false, false] rfl rfl (any_of HT_.out (by kernel_rfl)) (fun _ _ _ h => h) (Or.inl ⟨by rfl, ?_⟩) ?_ ?_
                      rotate_left
                      · intro w'
                        go_simp
                        with_reducible rfl
                      rotate_left
                      · simp only [Act.put, List.setIfInBounds_toArray, List.set_cons_zero, List.set_cons_succ, i64_w, i32_w]
                        rfl
                      refine pure_ (i := 20) (N := some 74) (v := ?_) (a' := ?_) #[true, true, true, true, true, true, true, true, true, true, true, true, true, true, true, true, true, true, false, false, true, false, false, false, false, false, false, false, false, false, false, false] rfl rfl (any_of HT_.out (by kernel_rfl)) (fun _ _ _ h => h) (Or.inl ⟨by rfl, ?_⟩) ?_ ?_
                      rotate_left
                      · intro w'
                        go_simp
                        with_reducible rfl
                      rotate_left
                      · simp only [Act.put, List.setIfInBounds_toArray, List.set_cons_zero, List.set_cons_succ, i64_w, i32_w]
                        rfl
                      refine pure_ (i := 21) (N := some 75) (v := ?_) (a' := ?_) #[true, true, true, true, true, true, true, true, true, true, true, true, true, true, true, true, true, true, false, false, true, true, false, false, false, false, false, false, false, false, false, false] rfl rfl (any_of HT_.out (by kernel_rfl)) (fun _ _ _ h => h) (Or.inl ⟨by rfl, ?_⟩) ?_ ?_
                      rotate_left
                      · intro w'
                        go_simp
                        with_reducible rfl
                      rotate_left
                      · simp only [Act.put, List.setIfInBounds_toArray, List.set_cons_zero, List.set_cons_succ, i64_w, i32_w]
                        rfl
                      refine take_ (i := 18) (N := some 72) (v := ?_) (a' := ?_) #[true, true, true, true, true, true, true, true, true, true, true, true, true, true, true, true, true, true, true, false, true, true, false, false, false, false, false, false, false, false, false, false] rfl rfl (take_ofW HT_.out HW_.out (by kernel_rfl)) (fun _ _ _ h => h) (Or.inl ⟨by rfl, ?_⟩) hHeld ?_ ?_
                      rotate_left
                      · rintro w' ⟨s0, s1, s2, s3, s4⟩
                        go_simp
                        with_reducible rfl
                      rotate_left
                      · simp only [Act.put, List.setIfInBounds_toArray, List.set_cons_zero, List.set_cons_succ, i64_w, i32_w]
                        rfl
                      refine pure_ (i := 19) (N := some 73) (v := ?_) (a' := ?_) #[true, true, true, true, true, true, true, true, true, true, true, true, true, true, true, true, true, true, true, true, true, true, false, false, false, false, false, false, false, false, false, false] rfl rfl (any_of HT_.out (by kernel_rfl)) (fun _ _ _ h => h) (Or.inl ⟨by rfl, ?_⟩) ?_ ?_
                      rotate_left
                      · intro w'
                        go_simp
                        with_reducible rfl
                      rotate_left
                      · simp only [Act.put, List.setIfInBounds_toArray, List.set_cons_zero, List.set_cons_succ, i64_w, i32_w]
                        rfl
                      refine pure_ (i := 22) (N := some 76) (v := ?_) (a' := ?_) #[true, true, true, true, true, true, true, true, true, true, true, true, true, true, true, true, true, true, true, true, true, true, true, false, false, false, false, false, false, false, false, false] rfl rfl (any_of HT_.out (by kernel_rfl)) (fun _ _ _ h => h) (Or.inl ⟨by rfl, ?_⟩) ?_ ?_
                      rotate_left
                      · intro w'
                        go_simp
                        with_reducible rfl
                      rotate_left
                      · simp only [Act.put, List.setIfInBounds_toArray, List.set_cons_zero, List.set_cons_succ, i64_w, i32_w]
                        rfl
                      refine pure_ (i := 23) (N := some 77) (v := ?_) (a' := ?_) #[true, true, true, true, true, true, true, true, true, true, true, true, true, true, true, true, true, true, true, true, true, true, true, true, false, false, false, false, false, false, false, false] rfl rfl (any_of HT_.out (by kernel_rfl)) (fun _ _ _ h => h) (Or.inl ⟨by rfl, ?_⟩) ?_ ?_
                      rotate_left
                      · intro w'
                        go_simp
                        with_reducible rfl
                      rotate_left
                      · simp only [Act.put, List.setIfInBounds_toArray, List.set_cons_zero, List.set_cons_succ, i64_w, i32_w]
                        rfl
                      refine pure_ (i := 24) (N := some 78) (v := ?_) (a' := ?_) #[true, true, true, true, true, true, true, true, true, true, true, true, true, true, true, true, true, true, true, true, true, true, true, true, true, false, false, false, false, false, false, false] rfl rfl (any_of HT_.out (by kernel_rfl)) (fun _ _ _ h => h) (Or.inl ⟨by rfl, ?_⟩) ?_ ?_
                      rotate_left
                      · intro w'
                        go_simp
                        with_reducible rfl
                      rotate_left
                      · simp only [Act.put, List.setIfInBounds_toArray, List.set_cons_zero, List.set_cons_succ, i64_w, i32_w]
                        rfl
                      refine pure_ (i := 25) (N := some 79) (v := ?_) (a' := ?_) #[true, true, true, true, true, true, true, true, true, true, true, true, true, true, true, true, true, true, true, true, true, true, true, true, true, true, false, false, false, false, false, false] rfl rfl (any_of HT_.out (by kernel_rfl)) (fun _ _ _ h => h) (Or.inl ⟨by rfl, ?_⟩) ?_ ?_
                      rotate_left
                      · intro w'
                        go_simp
                        with_reducible rfl
                      rotate_left
                      · simp only [Act.put, List.setIfInBounds_toArray, List.set_cons_zero, List.set_cons_succ, i64_w, i32_w]
                        rfl
                      refine pure_ (i := 27) (N := some 81) (v := ?_) (a' := ?_) #[true, true, true, true, true, true, true, true, true, true, true, true, true, true, true, true, true, true, true, true, true, true, true, true, true, true, false, true, false, false, false, false] rfl rfl (any_of HT_.out (by kernel_rfl)) (fun _ _ _ h => h) (Or.inl ⟨by rfl, ?_⟩) ?_ ?_
                      rotate_left
                      · intro w'
                        go_simp
                        with_reducible rfl
                      rotate_left
                      · simp only [Act.put, List.setIfInBounds_toArray, List.set_cons_zero, List.set_cons_succ, i64_w, i32_w]
                        rfl
                      refine take_ (i := 26) (N := some 80) (v := ?_) (a' := ?_) #[true, true, true, true, true, true, true, true, true, true, true, true, true, true, true, true, true, true, true, true, true, true, true, true, true, true, true, true, false, false, false, false] rfl rfl (take_ofW HT_.out HW_.out (by kernel_rfl)) (fun _ _ _ h => h) (Or.inl ⟨by rfl, ?_⟩) hHeld ?_ ?_
                      rotate_left
                      · rintro w' ⟨s0, s1, s2, s3, s4⟩
                        go_simp
                        with_reducible rfl
                      rotate_left
                      · simp only [Act.put, List.setIfInBounds_toArray, List.set_cons_zero, List.set_cons_succ, i64_w, i32_w]
                        rfl
                      refine take_ (i := 28) (N := some 82) (v := ?_) (a' := ?_) #[true, true, true, true, true, true, true, true, true, true, true, true, true, true, true, true, true, true, true, true, true, true, true, true, true, true, true, true, true, false, false, false] rfl rfl (take_ofW HT_.out HW_.out (by kernel_rfl)) (fun _ _ _ h => h) (Or.inl ⟨by rfl, ?_⟩) hHeld ?_ ?_
                      rotate_left
                      · rintro w' ⟨s0, s1, s2, s3, s4⟩
                        go_simp
                        with_reducible rfl
                      rotate_left
                      · simp only [Act.put, List.setIfInBounds_toArray, List.set_cons_zero, List.set_cons_succ, i64_w, i32_w]
                        rfl
                      refine one_ (i := 29) (N := some 83) #[true, true, true, true, true, true, true, true, true, true, true, true, true, true, true, true, true, true, true, true, true, true, true, true, true, true, true, true, true, true, false, false] rfl rfl (one_of HT_.out (by kernel_rfl)) (by decide) (fun K hK => ?_)
                      refine goes_ Try.func36 (by kernel_rfl) rfl #[.slice Ao17 t638.length co17, .slice Ao11 t630.length co11] (by rfl) rfl rfl (by (try simp only [List.map_toArray, List.map_cons, List.map_nil]); first | done | rfl | (simp only [List.length_drop, List.length_take]; rfl)) ?_
                      with_reducible refine (laws_equalPairs.calls kj5 _ _ t638 _ _ t630 t659 _ ?side1 ?side2 ?side3 ?side4 A63.out).mono ?_
                      (case side1 => repeat (first | exact (Kd.R_reads' HO_643001.out).2.2 | (with_reducible refine Kd.C_alloc ?_ _) | (with_reducible refine Kd.C_drewN ?_ _) | (with_reducible refine Kd.C_drew ?_)))
                      (case side2 => exact (Kd.R_reads' HO_643001.out).2.1)
                      (case side3 => repeat (first | exact (Kd.R_reads' HO_635001.out).2.2 | (with_reducible refine Kd.C_alloc ?_ _) | (with_reducible refine Kd.C_drewN ?_ _) | (with_reducible refine Kd.C_drew ?_)))
                      (case side4 => exact (Kd.R_reads' HO_635001.out).2.1)
                      rintro e w' ⟨rfl, ⟨nd, rfl⟩⟩
                      refine ⟨_, rfl, ?_⟩
                      refine hK.out _ _ ⟨(blk_cell BK642.out 0).trans rfl, (blk_cell BK642.out 1).trans rfl, (blk_cell BK634.out 0).trans rfl, (blk_cell BK634.out 1).trans rfl, hHeld.2.2.2.2⟩ (fun hHeld => ?_)
                      clear hK K
                      refine norm_ (a' := ?_) ?_ ?_
                      rotate_left
                      · show Act.put _ (some 83) _ = _
                        simp only [Act.put, List.setIfInBounds_toArray, List.set_cons_zero, List.set_cons_succ, i64_w, i32_w]
                        rfl
                      refine pure_ (i := 30) (N := some 84) (v := ?_) (a' := ?_) #[true, true, true, true, true, true, true, true, true, true, true, true, true, true, true, true, true, true, true, true, true, true, true, true, true, true, true, true, true, true, true, false] rfl rfl (any_of HT_.out (by kernel_rfl)) (fun _ _ _ h => h) (Or.inl ⟨by rfl, ?_⟩) ?_ ?_
                      rotate_left
                      · intro w'
                        go_simp
                        with_reducible rfl
                      rotate_left
                      · simp only [Act.put, List.setIfInBounds_toArray, List.set_cons_zero, List.set_cons_succ, i64_w, i32_w]
                        rfl
                      refine pure_ (i := 31) (N := some 2) (v := ?_) (a' := ?_) #[true, true, true, true, true, true, true, true, true, true, true, true, true, true, true, true, true, true, true, true, true, true, true, true, true, true, true, true, true, true, true, true] rfl rfl (any_of HT_.out (by kernel_rfl)) (fun _ _ _ h => h) (Or.inl ⟨by rfl, ?_⟩) ?_ ?_
                      rotate_left
                      · intro w'
                        go_simp
                        with_reducible rfl
                      rotate_left
                      · simp only [Act.put, List.setIfInBounds_toArray, List.set_cons_zero, List.set_cons_succ, i64_w, i32_w]
                        rfl
                      refine done_ (done_of HT_.out (by kernel_rfl)) ?_
                      try go_wp2
                      go_ret
                      exact ⟨by first | rfl | (simp [errW_none, errW_some] <;> rfl) | (simp [*, errW_none, errW_some] <;> rfl), by repeat (first | (with_reducible first | exact HB.out | apply below_alloc | apply pw_below_drewN | apply below_drew1 | refine below_set ?_ GE634.out | refine below_set ?_ GE642.out | refine below_set ?_ GE650.out) | exact HB.out)⟩
                    · rw [if_neg c62] at H
                      have c62b0 : ((t635.length : Int) == (wrap64 ((t627.length : Int) + 1))) = false := beq_eq_false_iff_ne.mpr c62
                      have c62b1 : ((t635.length : Int) != (wrap64 ((t627.length : Int) + 1))) = true := bne_iff_ne.mpr c62
                      obtain rfl := Option.some.inj H
                      exact absurd HR_.out (by decide)
                  · rw [if_neg c61] at H
                    have c61b0 : ((rd t635 (t627.length : Int)) == t633) = false := beq_eq_false_iff_ne.mpr c61
                    have c61b1 : ((rd t635 (t627.length : Int)) != t633) = true := bne_iff_ne.mpr c61
                    obtain rfl := Option.some.inj H
                    exact absurd HR_.out (by decide)
                · rw [if_neg c60] at H
                  exact absurd H (by simp)
              · replace c59 := Bool.eq_false_iff.mpr c59
                subst c59
                have H1 : (some false) = some r := by rw [if_neg (show ¬ (false = true) by decide)] at H; exact H
                clear H
                have H := H1
                clear H1
                obtain rfl := Option.some.inj H
                exact absurd HR_.out (by decide)
            · rw [if_neg c57] at H
              exact absurd H (by simp)
          · rw [if_neg c56] at H
            exact absurd H (by simp)

/-- THE ONE PURE STATEMENT of laws_FnAddPlace: yours. -/
def laws_FnAddPlace.Pure : Prop := ∀ (l0 : List Int), l0.length ≤ maxLen → l0.length * 1 ≤ 140737488351232 → (∀ x ∈ l0, (Lit.int .u8 x).wf = true) → ∃ k, laws_FnAddPlace.f k l0 = some true
theorem laws_FnAddPlace.walk (P : laws_FnAddPlace.Pure) (a0 : Option Addr) (len0 cap0 : Nat) (z0 : List Int) (w : World) (w0 : (a0 = none ∧ len0 = 0 ∧ cap0 = 0 ∧ z0 = []) ∨ ∃ x, a0 = some x ∧ len0 ≤ cap0 ∧ cap0 ≤ maxLen ∧ z0.length = cap0 ∧ (∀ i, i < z0.length → w.cell? (x.add i) = some (.int .u8 (z0.getD i 0))) ∧ ∀ n ∈ z0, (Lit.int .u8 n).wf = true) (y0 : len0 * 1 ≤ 140737488351232) :
    Calls Try.prog 7 #[.slice a0 len0 cap0] w fun e w' => e = .returned (.bool true) ∧ Below w.heap.size w w' := by
  obtain ⟨l0, rfl, hr0, hm0, hw0, hc0⟩ := ReadsInt.ofRowC w0
  obtain ⟨k, h⟩ := P l0 hm0 y0 hw0
  refine (laws_FnAddPlace.calls k _ _ l0 true w (Kd.C_of_reads (d := (0 : Int)) (h1 := fun _ => rfl) hr0) hc0 h rfl).mono ?_
  rintro e w' ⟨rfl, hd⟩
  exact ⟨rfl, hd⟩

end Go.Proofs.Ytkandhljbbolnaa.Q
