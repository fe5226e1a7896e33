-- written by px.py and merge.py (programs of this claim's), over the kit's print. Not trusted: Lean checks it.
import Derived.Test.YtfcpbgedgedalaaQ0
import Derived.Test.YtfcpbgedgedalaaM2FnCountHoles
import Derived.Test.YtfcpbgedgedalaaM3FnCountHoles
import Derived.Test.YtfcpbgedgedalaaM4FnCountHoles
import Derived.Test.YtfcpbgedgedalaaM6FnCountHoles
namespace Go.Proofs.Ytfcpbgedgedalaa.Q
open Go.RowKit Go.Proofs.YtfcpbgedgedalaaL.PrintWords Go.Proofs.YtfcpbgedgedalaaL.PrintLast Go.Proofs.YtfcpbgedgedalaaL.PrintMore
attribute [local go_sem] max2_int min2_int max_two min_two max_three min_three max_four min_four   -- for this text's walks alone
set_option linter.unusedVariables false
set_option linter.unusedSimpArgs false

/-! ### laws_FnCountHoles: function 7 -/
def laws_FnCountHoles.j0 : Nat → Int → Bool → List (S100) → List (S33) → Option (Bool)
 | 0, _, _, _, _ => none
 | k + 1, x4, x22, x916000, x916001 => if x22 = true then ((spec_CountHoles.f k x916000 x916001).bind fun t918 => (some (x4 == t918))) else (if 0 ≤ x4 then (if (x4 : Int).toNat ≤ 35184372088832 then ((impl_FillHoles.f k x916000 x916001 (List.replicate (x4 : Int).toNat 0) ([] : List (S33))).bind fun bt922 => (if x4 > 0 then (if 0 ≤ (wrap64 (x4 - 1)) then (if (wrap64 (x4 - 1) : Int).toNat ≤ 35184372088832 then ((impl_FillHoles.f k x916000 x916001 (List.replicate (wrap64 (x4 - 1) : Int).toNat 0) ([] : List (S33))).bind fun bt933 => (if x4 ≤ (x916000.length : Int) then (if bt922.2.2 = true then (some (!bt933.2.2)) else (some false)) else (some false))) else (none)) else (none)) else (if x4 ≤ (x916000.length : Int) then (if bt922.2.2 = true then (some (!false)) else (some false)) else (some false)))) else (none)) else (none))
def laws_FnCountHoles.f (k : Nat) (l0 : List Int) : Option (Bool) := if (l0.length : Int) > 1048576 then (some true) else ((spec_DrawCountHoles.f k l0).bind fun bt909 => ((impl_CountHoles.f k bt909.1 bt909.2).bind fun t916 => ((spec_CountHoles.f k bt909.1 bt909.2).bind fun t917 => (if t916 = t917 then (laws_FnCountHoles.j0 k t916 (decide (t916 < 0)) bt909.1 bt909.2) else (laws_FnCountHoles.j0 k t916 true bt909.1 bt909.2)))))
theorem laws_FnCountHoles.mono_l : ∀ k, (∀ y0 y1 y2 y3, LeO (laws_FnCountHoles.j0 k y0 y1 y2 y3) (laws_FnCountHoles.j0 (k + 1) y0 y1 y2 y3))
 | 0 => fun _ _ _ _ r h => by simp [laws_FnCountHoles.j0] at h
 | k + 1 => by
  have ih0 := laws_FnCountHoles.mono_l k
  ·intro y0 y1 y2 y3; unfold laws_FnCountHoles.j0
   repeat' first
   | (with_reducible exact ih0 _ _ _ _)
   | (with_reducible exact impl_CountHoles.mono _ _ _)
   | (with_reducible exact impl_FillHoles.mono _ _ _ _ _)
   | (with_reducible exact spec_CountHoles.mono _ _ _)
   | (with_reducible exact spec_DrawCountHoles.mono _ _)
   | (with_reducible exact LeO.refl _)
   | (with_reducible exact LeO.none _)
   | (with_reducible refine LeO.ite ?_ ?_)
   | (with_reducible refine LeO.bind ?_ (fun _ => ?_))
   | exact ih0 _ _ _ _
   | exact impl_CountHoles.mono _ _ _
   | exact impl_FillHoles.mono _ _ _ _ _
   | exact spec_CountHoles.mono _ _ _
   | exact spec_DrawCountHoles.mono _ _
   | exact LeO.none _
   | refine LeO.ite ?_ ?_
   | refine LeO.bind ?_ (fun _ => ?_)
theorem laws_FnCountHoles.mono : ∀ a0 k, LeO (laws_FnCountHoles.f k a0) (laws_FnCountHoles.f (k + 1) a0) := by
 intro a0 k; have ih0 := laws_FnCountHoles.mono_l k; unfold laws_FnCountHoles.f
 repeat' first
   | (with_reducible exact ih0 _ _ _ _)
   | (with_reducible exact impl_CountHoles.mono _ _ _)
   | (with_reducible exact impl_FillHoles.mono _ _ _ _ _)
   | (with_reducible exact spec_CountHoles.mono _ _ _)
   | (with_reducible exact spec_DrawCountHoles.mono _ _)
   | (with_reducible exact LeO.refl _)
   | (with_reducible exact LeO.none _)
   | (with_reducible refine LeO.ite ?_ ?_)
   | (with_reducible refine LeO.bind ?_ (fun _ => ?_))
   | exact ih0 _ _ _ _
   | exact impl_CountHoles.mono _ _ _
   | exact impl_FillHoles.mono _ _ _ _ _
   | exact spec_CountHoles.mono _ _ _
   | exact spec_DrawCountHoles.mono _ _
   | exact LeO.none _
   | refine LeO.ite ?_ ?_
   | refine LeO.bind ?_ (fun _ => ?_)
def laws_FnCountHoles.T7 : Bool × List (List Nat × List Nat) := (true, [([], []), ([], []), ([1, 1], [1]), ([2], [2]), ([0, 3], [0, 3]), ([4], [4]), ([5], [5]), ([5], [5]), ([], []), ([8, 6, 4, 0, 1, 2, 3, 4, 5, 6, 8], [6, 8]), ([7, 9, 0, 1, 2, 3, 4, 5, 6, 7, 8, 9], [7])])
def laws_FnCountHoles.B7 : List Nat := [0, 0, 2, 6, 15, 31, 63, 63, 0, 383, 1023]
theorem laws_FnCountHoles.tab7 : rtab .any (opsOf Try.f7 7) = laws_FnCountHoles.T7 := by kernel_rfl
theorem laws_FnCountHoles.bits7 : waitsOk laws_FnCountHoles.T7.2 laws_FnCountHoles.B7 = true := by kernel_rfl
def laws_FnCountHoles.T10 : Bool × List (List Nat × List Nat) := (true, [([], []), ([], []), ([1], [1]), ([2, 2], [2]), ([3], [3]), ([0, 4], [0, 4]), ([5], [5]), ([6], [6]), ([6], [6]), ([8, 5, 0, 1, 2, 3, 4, 5, 6, 7, 8], [8])])
def laws_FnCountHoles.B10 : List Nat := [0, 0, 2, 6, 14, 31, 63, 127, 127, 511]
theorem laws_FnCountHoles.tab10 : rtab .any (opsOf Try.f7 10) = laws_FnCountHoles.T10 := by kernel_rfl
theorem laws_FnCountHoles.bits10 : waitsOk laws_FnCountHoles.T10.2 laws_FnCountHoles.B10 = true := by kernel_rfl
set_option maxHeartbeats 8000000 in
set_option maxRecDepth 100000 in
theorem laws_FnCountHoles.calls (k : Nat) (A0 : Option Addr) (c0 : Nat) (l0 : List Int) (r : Bool) (w : World) (hr0 : Kd.C (Kd.int .u8) w A0 l0.length l0) (hc0 : l0.length ≤ c0) (h : laws_FnCountHoles.f k l0 = some r) (hr_ : r = true) :
  Calls Try.prog 7 #[.slice A0 l0.length c0] w fun e w' => e = .returned (.bool r) ∧ Below w.heap.size w w' := by
 have hu49 := Try.underlying49; have hu26 := Try.underlying26; have HR_ := Aside0.mk hr_; clear hr_; have HR0 := Aside0.mk hr0; have HC0 := Aside0.mk hc0; clear hr0 hc0; have HB := Aside0.mk (Below.refl w.heap.size w); have H : (if (l0.length : Int) > 1048576 then (some true) else ((spec_DrawCountHoles.f k l0).bind fun bt909 => ((impl_CountHoles.f k bt909.1 bt909.2).bind fun t916 => ((spec_CountHoles.f k bt909.1 bt909.2).bind fun t917 => (if t916 = t917 then (laws_FnCountHoles.j0 k t916 (decide (t916 < 0)) bt909.1 bt909.2) else (laws_FnCountHoles.j0 k t916 true bt909.1 bt909.2)))))) = some r := h; clear h
 by_cases c2 : (l0.length : Int) > 1048576
 ·rw [if_pos c2] at H; have c2b0 : decide (1048576 < (l0.length : Int)) = true := decide_eq_true c2; have c2b1 : decide (1048576 < l0.length) = true := decide_eq_true (by omega); clear c2; obtain rfl := Option.some.inj H; go_enter Try.func7, Try.ntmps7; go_wp2; go_ret; exact ⟨by first | rfl | (simp [errW_none, errW_some] <;> rfl) | (simp [*, errW_none, errW_some] <;> rfl), zB HB⟩
 ·rw [if_neg c2] at H; have c2b0 : decide (1048576 < (l0.length : Int)) = false := decide_eq_false c2; have c2b1 : decide (1048576 < l0.length) = false := decide_eq_false (by omega); clear c2; replace H := Option.bind_eq_some_iff.mp H; obtain ⟨⟨t909, t912⟩, A30, H⟩ := H
  (try dsimp only at H)
  have A3 := Aside0.mk A30; clear A30; replace H := Option.bind_eq_some_iff.mp H; obtain ⟨t916, A40, H⟩ := H
  (try dsimp only at H)
  have A4 := Aside0.mk A40; clear A40; have HC5 := Aside0.mk H; clear H; go_enter Try.func7, Try.ntmps7; go_upto_region 5 with (first | ((with_reducible refine gate_callee (f := 29) rfl ?_); refine goesL_ (some 12) rfl rfl Try.func29 (by kernel_rfl) rfl #[.slice A0 l0.length c0] rfl zl ?_; (with_reducible refine (spec_DrawCountHoles.calls k _ _ l0 t909 t912 _ ?side1 ?side2 A3.out).mono ?_); (case side1 => repeat (first | exact HR0.out | (with_reducible refine Kd.C_alloc ?_ _) | (with_reducible refine Kd.C_drewN ?_ _) | (with_reducible refine Kd.C_drew ?_))); (case side2 => exact HC0.out); rintro e w6 ⟨v910, v913, rfl, ho0, ho1, hb⟩; refine ⟨_, rfl, ?_⟩; have HO911 := Aside0.mk (Kd.R_lower ho0 (below_size (zB HB))); have HO914 := Aside0.mk (Kd.R_lower ho1 (below_size (zB HB))); replace HB := Aside0.mk (below_step (zB HB) hb); (try clear hb); (try clear hb2); (try clear hk); (try clear hi); (try clear ho0); (try clear ho1)) | ((with_reducible refine gate_dst (N := 3) rfl ?_); refine zx (N := 3) (cs := #[.slice none 0 0, .slice none 0 0]) (t := 49) ?_; intro gb915 hg w7 hbox hb; replace HO911 := Aside0.mk (Kd.R_below (zo HO911) hb); replace HO914 := Aside0.mk (Kd.R_below (zo HO914) hb); have BK915 := Aside0.mk (hbox); have GW915 := Aside0.mk ((by rw [hg]; exact (below_size (zB HB)) : w.heap.size ≤ gb915)); have GE915 := GW915; replace HB := Aside0.mk (below_step (zB HB) hb); clear hb hbox hg; obtain ⟨Ao8, co8, eo8⟩ := Kd.R_slice HO911.out; subst eo8; have hcz9_0 : w7.cell? ⟨gb915, 0, none⟩ = some (.slice none 0 0) := (blk_cell BK915.out 0).trans rfl; have hcz9_1 : w7.cell? ⟨gb915, 1, none⟩ = some (.slice none 0 0) := (blk_cell BK915.out 1).trans rfl; have hfz9_0 := blk_frozen BK915.out 0; have hfz9_1 := blk_frozen BK915.out 1; obtain ⟨Ao10, co10, eo10⟩ := Kd.R_slice HO914.out; subst eo10) | ((with_reducible refine gate_callee (f := 30) rfl ?_); refine goesL_ (some 14) rfl rfl Try.func30 (by kernel_rfl) rfl #[.agg #[.slice Ao8 t909.length co8, .slice Ao10 t912.length co10]] rfl zl ?_; (with_reducible refine (impl_CountHoles.calls k _ _ t909 _ _ t912 t916 _ ?side1 ?side2 ?side3 ?side4 A4.out).mono ?_); (case side1 => refine (Kd.R_reads' (e := 100) (base := w.heap.size) (ok := fun k_ => True) (n := t909.length) (c := co8) ?_).2.2; exact (by (with_reducible repeat (first | apply Kd.R_alloc | apply Kd.R_drewN | apply Kd.R_drew)); exact (Kd.R_mono (Kd.R_far (p := ⟨gb915, 1, none⟩) (Kd.R_far (p := ⟨gb915, 0, none⟩) (Kd.R_types HO911.out BK915.out (by decide)) (fun _ hk => hk.2) (.slice Ao8 t909.length co8)) (fun _ hk => hk.2) (.slice Ao10 t912.length co10)) (fun _ h_ => h_.1)))); (case side2 => exact (Kd.R_reads' HO911.out).2.1); (case side3 => refine (Kd.R_reads' (e := 33) (base := w.heap.size) (ok := fun k_ => True) (n := t912.length) (c := co10) ?_).2.2; exact (by (with_reducible repeat (first | apply Kd.R_alloc | apply Kd.R_drewN | apply Kd.R_drew)); exact (Kd.R_mono (Kd.R_far (p := ⟨gb915, 1, none⟩) (Kd.R_far (p := ⟨gb915, 0, none⟩) (Kd.R_types HO914.out BK915.out (by decide)) (fun _ hk => hk.2) (.slice Ao8 t909.length co8)) (fun _ hk => hk.2) (.slice Ao10 t912.length co10)) (fun _ h_ => h_.1)))); (case side4 => exact (Kd.R_reads' HO914.out).2.1); rintro e w11 ⟨rfl, hb⟩; refine ⟨_, rfl, ?_⟩; replace HO911 := Aside0.mk (Kd.R_below (by (with_reducible repeat (first | apply Kd.R_alloc | apply Kd.R_drewN | apply Kd.R_drew)); exact (Kd.R_mono (Kd.R_far (p := ⟨gb915, 1, none⟩) (Kd.R_far (p := ⟨gb915, 0, none⟩) (Kd.R_types HO911.out BK915.out (by decide)) (fun _ hk => hk.2) (.slice Ao8 t909.length co8)) (fun _ hk => hk.2) (.slice Ao10 t912.length co10)) (fun _ h_ => h_.1))) hb); replace HO914 := Aside0.mk (Kd.R_below (by (with_reducible repeat (first | apply Kd.R_alloc | apply Kd.R_drewN | apply Kd.R_drew)); exact (Kd.R_mono (Kd.R_far (p := ⟨gb915, 1, none⟩) (Kd.R_far (p := ⟨gb915, 0, none⟩) (Kd.R_types HO914.out BK915.out (by decide)) (fun _ hk => hk.2) (.slice Ao8 t909.length co8)) (fun _ hk => hk.2) (.slice Ao10 t912.length co10)) (fun _ h_ => h_.1))) hb); replace BK915 := Aside0.mk (blk_below (g := gb915) (o := .cells #[.slice Ao8 t909.length co8, .slice Ao10 t912.length co10] 49 (0, 0)) (by (with_reducible repeat (first | refine blk_drewN ?_ _ | refine blk_drew ?_ | refine blk_alloc ?_ _)); refine blk_put (cs := #[.slice Ao8 t909.length co8, .slice none 0 0]) ?_ 1 _ rfl; (with_reducible repeat (first | refine blk_drewN ?_ _ | refine blk_drew ?_ | refine blk_alloc ?_ _)); refine blk_put (cs := #[.slice none 0 0, .slice none 0 0]) ?_ 0 _ rfl; (with_reducible repeat (first | refine blk_drewN ?_ _ | refine blk_drew ?_ | refine blk_alloc ?_ _)); exact BK915.out) hb); replace HB := Aside0.mk (below_step (zB HB) hb); (try clear hb); (try clear hb2); (try clear hk); (try clear hi)))
  (try simp only [Act.put, List.setIfInBounds_toArray, List.set_cons_zero, List.set_cons_succ])
  go_cut [22] (fun v22 wc => ∃ (kq : Nat) (x22_4 : Bool), v22 = .bool x22_4 ∧ Aside0 (laws_FnCountHoles.j0 kq t916 x22_4 t909 t912 = some r) ∧ Aside0 (kq ≤ k) ∧ Aside0 (Kd.R k100 100 wc w.heap.size (fun _ => True) (.slice Ao8 t909.length co8) t909) ∧ Aside0 (Kd.R k33 33 wc w.heap.size (fun _ => True) (.slice Ao10 t912.length co10) t912) ∧ Aside0 (wc.heap[gb915]? = some (.cells #[(.slice Ao8 t909.length co8), (.slice Ao10 t912.length co10)] 49 (0, 0))) ∧ Aside0 (Below w.heap.size w wc))
  case first =>
   have H := HC5.out; clear HC5; replace H := Option.bind_eq_some_iff.mp H; obtain ⟨t917, A120, H⟩ := H
   (try dsimp only at H)
   have A12 := Aside0.mk A120; clear A120
   by_cases c13 : t916 = t917
   ·rw [if_pos c13] at H; have c13b0 : (t916 == t917) = true := beq_iff_eq.mpr c13; have c13b1 : (t916 != t917) = false := bne_eq_false_iff_eq.mpr c13; clear c13
    (first | rw [c13b0] | (simp only [i64_w, i32_w]; rw [c13b0]) | skip)
    have H' := Aside0.mk H; clear H; have hcz14_0 : w11.cell? ⟨gb915, 0, none⟩ = some (.slice Ao8 t909.length co8) := (blk_cell BK915.out 0).trans rfl; have hcz14_1 : w11.cell? ⟨gb915, 1, none⟩ = some (.slice Ao10 t912.length co10) := (blk_cell BK915.out 1).trans rfl; have hfz14_0 := blk_frozen BK915.out 0; have hfz14_1 := blk_frozen BK915.out 1; go_wp2_with (first | ((with_reducible refine gate_callee (f := 31) rfl ?_); refine goesL_ (some 17) rfl rfl Try.func31 (by kernel_rfl) rfl #[.agg #[.slice Ao8 t909.length co8, .slice Ao10 t912.length co10]] rfl zl ?_; (with_reducible refine (spec_CountHoles.calls k _ _ t909 _ _ t912 t917 _ ?side1 ?side2 ?side3 ?side4 A12.out).mono ?_); (case side1 => repeat (first | exact (Kd.R_reads' HO911.out).2.2 | (with_reducible refine Kd.C_alloc ?_ _) | (with_reducible refine Kd.C_drewN ?_ _) | (with_reducible refine Kd.C_drew ?_))); (case side2 => exact (Kd.R_reads' HO911.out).2.1); (case side3 => repeat (first | exact (Kd.R_reads' HO914.out).2.2 | (with_reducible refine Kd.C_alloc ?_ _) | (with_reducible refine Kd.C_drewN ?_ _) | (with_reducible refine Kd.C_drew ?_))); (case side4 => exact (Kd.R_reads' HO914.out).2.1); rintro e w15 ⟨rfl, hb⟩; refine ⟨_, rfl, ?_⟩; replace HO911 := Aside0.mk (Kd.R_below (zo HO911) hb); replace HO914 := Aside0.mk (Kd.R_below (zo HO914) hb); replace BK915 := Aside0.mk (blk_below (g := gb915) (o := .cells #[.slice Ao8 t909.length co8, .slice Ao10 t912.length co10] 49 (0, 0)) (zb BK915) hb); replace HB := Aside0.mk (below_step (zB HB) hb); (try clear hb); (try clear hb2); (try clear hk); (try clear hi))); go_meet
    case rel => exact ⟨_, (decide (t916 < 0)), zr, H', ⟨by first | omega | exact Nat.le_refl _⟩, ⟨zo HO911⟩, ⟨zo HO914⟩, ⟨zb BK915⟩, ⟨zB HB⟩⟩
   ·rw [if_neg c13] at H; have c13b0 : (t916 == t917) = false := beq_eq_false_iff_ne.mpr c13; have c13b1 : (t916 != t917) = true := bne_iff_ne.mpr c13
    (first | rw [c13b0] | (simp only [i64_w, i32_w]; rw [c13b0]) | skip)
    have H' := Aside0.mk H; clear H; have hcz16_0 : w11.cell? ⟨gb915, 0, none⟩ = some (.slice Ao8 t909.length co8) := (blk_cell BK915.out 0).trans rfl; have hcz16_1 : w11.cell? ⟨gb915, 1, none⟩ = some (.slice Ao10 t912.length co10) := (blk_cell BK915.out 1).trans rfl; have hfz16_0 := blk_frozen BK915.out 0; have hfz16_1 := blk_frozen BK915.out 1; go_wp2_with (first | ((with_reducible refine gate_callee (f := 31) rfl ?_); refine goesL_ (some 17) rfl rfl Try.func31 (by kernel_rfl) rfl #[.agg #[.slice Ao8 t909.length co8, .slice Ao10 t912.length co10]] rfl zl ?_; (with_reducible refine (spec_CountHoles.calls k _ _ t909 _ _ t912 t917 _ ?side1 ?side2 ?side3 ?side4 A12.out).mono ?_); (case side1 => repeat (first | exact (Kd.R_reads' HO911.out).2.2 | (with_reducible refine Kd.C_alloc ?_ _) | (with_reducible refine Kd.C_drewN ?_ _) | (with_reducible refine Kd.C_drew ?_))); (case side2 => exact (Kd.R_reads' HO911.out).2.1); (case side3 => repeat (first | exact (Kd.R_reads' HO914.out).2.2 | (with_reducible refine Kd.C_alloc ?_ _) | (with_reducible refine Kd.C_drewN ?_ _) | (with_reducible refine Kd.C_drew ?_))); (case side4 => exact (Kd.R_reads' HO914.out).2.1); rintro e w17 ⟨rfl, hb⟩; refine ⟨_, rfl, ?_⟩; replace HO911 := Aside0.mk (Kd.R_below (zo HO911) hb); replace HO914 := Aside0.mk (Kd.R_below (zo HO914) hb); replace BK915 := Aside0.mk (blk_below (g := gb915) (o := .cells #[.slice Ao8 t909.length co8, .slice Ao10 t912.length co10] 49 (0, 0)) (zb BK915) hb); replace HB := Aside0.mk (below_step (zB HB) hb); (try clear hb); (try clear hb2); (try clear hk); (try clear hi))); go_meet
    case rel => exact ⟨_, (true), zr, H', ⟨by first | omega | exact Nat.le_refl _⟩, ⟨zo HO911⟩, ⟨zo HO914⟩, ⟨zb BK915⟩, ⟨zB HB⟩⟩
  case rest =>
   clear HC5; (try clear c1); (try clear c2); (try clear c2b0); (try clear c2b1); (try clear p2); (try clear c3); (try clear c7); (try clear c13); (try clear c13b0); (try clear c13b1); (try clear hcz14_0); (try clear hcz14_1); (try clear hcz16_0); (try clear hcz16_1); (try clear hcz9_0); (try clear hcz9_1); (try clear hfz14_0); (try clear hfz14_1); (try clear hfz16_0); (try clear hfz16_1); (try clear hfz9_0); (try clear hfz9_1); obtain ⟨kq, x22_4, rfl, HA, HJ4, HO_916000, HO_916001, BK915, HB⟩ := hcut
   cases kq with
   | zero => exact absurd HA.out (by simp [laws_FnCountHoles.j0])
   | succ kj4 =>
    have H := HA.out; clear HA; simp only [laws_FnCountHoles.j0] at H
    by_cases c18 : x22_4 = true
    ·subst c18; rw [if_pos rfl] at H; replace H := Option.bind_eq_some_iff.mp H; obtain ⟨t918, A190, H⟩ := H
     (try dsimp only at H)
     have A19 := Aside0.mk A190; clear A190; obtain rfl := Option.some.inj H; have hcz20_0 : wc.cell? ⟨gb915, 0, none⟩ = some (.slice Ao8 t909.length co8) := (blk_cell BK915.out 0).trans rfl; have hcz20_1 : wc.cell? ⟨gb915, 1, none⟩ = some (.slice Ao10 t912.length co10) := (blk_cell BK915.out 1).trans rfl; have hfz20_0 := blk_frozen BK915.out 0; have hfz20_1 := blk_frozen BK915.out 1; go_wp2_with (first | ((with_reducible refine gate_callee (f := 31) rfl ?_); refine goesL_ (some 25) rfl rfl Try.func31 (by kernel_rfl) rfl #[.agg #[.slice Ao8 t909.length co8, .slice Ao10 t912.length co10]] rfl zl ?_; (with_reducible refine (spec_CountHoles.calls kj4 _ _ t909 _ _ t912 t918 _ ?side1 ?side2 ?side3 ?side4 A19.out).mono ?_); (case side1 => repeat (first | exact (Kd.R_reads' HO_916000.out).2.2 | (with_reducible refine Kd.C_alloc ?_ _) | (with_reducible refine Kd.C_drewN ?_ _) | (with_reducible refine Kd.C_drew ?_))); (case side2 => exact (Kd.R_reads' HO_916000.out).2.1); (case side3 => repeat (first | exact (Kd.R_reads' HO_916001.out).2.2 | (with_reducible refine Kd.C_alloc ?_ _) | (with_reducible refine Kd.C_drewN ?_ _) | (with_reducible refine Kd.C_drew ?_))); (case side4 => exact (Kd.R_reads' HO_916001.out).2.1); rintro e w21 ⟨rfl, hb⟩; refine ⟨_, rfl, ?_⟩; replace HO_916000 := Aside0.mk (Kd.R_below (zo HO_916000) hb); replace HO_916001 := Aside0.mk (Kd.R_below (zo HO_916001) hb); replace BK915 := Aside0.mk (blk_below (g := gb915) (o := .cells #[.slice Ao8 t909.length co8, .slice Ao10 t912.length co10] 49 (0, 0)) (zb BK915) hb); replace HB := Aside0.mk (below_step (zB HB) hb); (try clear hb); (try clear hb2); (try clear hk); (try clear hi))); go_ret; exact ⟨by first | rfl | (simp [errW_none, errW_some] <;> rfl) | (simp [*, errW_none, errW_some] <;> rfl), zB HB⟩
    ·replace c18 := Bool.eq_false_iff.mpr c18; subst c18; rw [if_neg (show ¬ (false = true) by decide)] at H
     by_cases c22 : 0 ≤ t916
     ·rw [if_pos c22] at H; have c22b0 := eq_true c22; have c22b1 : decide (0 ≤ t916) = true := decide_eq_true c22; clear c22
      by_cases c23 : (t916 : Int).toNat ≤ 35184372088832
      ·rw [if_pos c23] at H; have c23b0 := eq_true c23; have c23b1 : decide ((t916 : Int).toNat ≤ 35184372088832) = true := decide_eq_true c23; clear c23; obtain ⟨y919, hy919⟩ : ∃ y_ : List Int, y_ = (List.replicate (t916 : Int).toNat 0) := ⟨_, rfl⟩
       replace H : ((impl_FillHoles.f kj4 t909 t912 y919 ([] : List (S33))).bind fun bt922 => (if t916 > 0 then (if 0 ≤ (wrap64 (t916 - 1)) then (if (wrap64 (t916 - 1) : Int).toNat ≤ 35184372088832 then ((impl_FillHoles.f kj4 t909 t912 (List.replicate (wrap64 (t916 - 1) : Int).toNat 0) ([] : List (S33))).bind fun bt933 => (if t916 ≤ (t909.length : Int) then (if bt922.2.2 = true then (some (!bt933.2.2)) else (some false)) else (some false))) else (none)) else (none)) else (if t916 ≤ (t909.length : Int) then (if bt922.2.2 = true then (some (!false)) else (some false)) else (some false)))) = some r := by first | (rw [hy919]; with_reducible exact H) | (have H2_ := (Option.bind_some _ _).symm.trans H; rw [hy919]; with_reducible exact H2_) | (have H2_ := (Option.bind_some _ _).symm.trans H; with_reducible exact H2_) | with_reducible exact H | (rw [hy919]; exact H) | exact H
       have Ny919 := Aside0.mk hy919; clear hy919; replace H := Option.bind_eq_some_iff.mp H; obtain ⟨⟨t922, t925, t928⟩, A240, H⟩ := H
       (try dsimp only at H)
       have A24 := Aside0.mk A240; clear A240
       by_cases c25 : t916 > 0
       ·rw [if_pos c25] at H; have c25b0 : decide (0 < t916) = true := decide_eq_true c25; clear c25; obtain ⟨ji26, hji26⟩ : ∃ j_ : Int, (wrap64 (t916 - 1)) = j_ := ⟨_, rfl⟩
        replace H : (if 0 ≤ (ji26) then (if (ji26 : Int).toNat ≤ 35184372088832 then ((impl_FillHoles.f kj4 t909 t912 (List.replicate (ji26 : Int).toNat 0) ([] : List (S33))).bind fun bt933 => (if t916 ≤ (t909.length : Int) then (if t928 = true then (some (!bt933.2.2)) else (some false)) else (some false))) else (none)) else (none)) = some r := by first | (rw [hji26] at H; exact H) | (simp only [hji26] at H ⊢; exact H)
        (try rw [hji26] at A24)
        have hji26w : (IntKind.i64.wrap (t916 - 1)) = ji26 := (i64_w _).trans hji26
        by_cases c27 : 0 ≤ (ji26)
        ·rw [if_pos c27] at H; have c27b0 := eq_true c27; have c27b1 : decide (0 ≤ (ji26)) = true := decide_eq_true c27; clear c27
         by_cases c28 : (ji26 : Int).toNat ≤ 35184372088832
         ·rw [if_pos c28] at H; have c28b0 := eq_true c28; have c28b1 : decide ((ji26 : Int).toNat ≤ 35184372088832) = true := decide_eq_true c28; clear c28; obtain ⟨y930, hy930⟩ : ∃ y_ : List Int, y_ = (List.replicate (ji26 : Int).toNat 0) := ⟨_, rfl⟩
          replace H : ((impl_FillHoles.f kj4 t909 t912 y930 ([] : List (S33))).bind fun bt933 => (if t916 ≤ (t909.length : Int) then (if t928 = true then (some (!bt933.2.2)) else (some false)) else (some false))) = some r := by first | (rw [hy930]; with_reducible exact H) | (have H2_ := (Option.bind_some _ _).symm.trans H; rw [hy930]; with_reducible exact H2_) | (have H2_ := (Option.bind_some _ _).symm.trans H; with_reducible exact H2_) | with_reducible exact H | (rw [hy930]; exact H) | exact H
          have Ny930 := Aside0.mk hy930; clear hy930; replace H := Option.bind_eq_some_iff.mp H; obtain ⟨⟨t933, t936, t939⟩, A290, H⟩ := H
          (try dsimp only at H)
          have A29 := Aside0.mk A290; clear A290
          by_cases c30 : t916 ≤ (t909.length : Int)
          ·rw [if_pos c30] at H; have c30b0 : decide (t916 ≤ (t909.length : Int)) = true := decide_eq_true c30; clear c30
           by_cases c31 : t928 = true
           ·subst c31; rw [if_pos rfl] at H; obtain rfl := Option.some.inj H
            try go_wp2
            replace HO_916000 := Aside0.mk (Kd.R_drew HO_916000.out); replace HO_916001 := Aside0.mk (Kd.R_drew HO_916001.out); replace BK915 := Aside0.mk (blk_drew BK915.out); replace HB := Aside0.mk (below_drew1 HB.out); refine start_ (n := 11) (S := fun w' => w'.cell? ⟨gb915, 0, none⟩ = some (.slice Ao8 t909.length co8) ∧ w'.cell? ⟨gb915, 1, none⟩ = some (.slice Ao10 t912.length co10)) (ds := []) #[false, false, false, false, false, false, false, false, false, false, false] (by kernel_rfl) rfl rfl ⟨(blk_cell BK915.out 0).trans rfl, (blk_cell BK915.out 1).trans rfl⟩ (fun hHeld => ?_); refine with_tabW laws_FnCountHoles.tab7 laws_FnCountHoles.bits7 (fun HT_ HW_ => ?_); generalize wc.drew = w32 at HO_916000 HO_916001 BK915 HB hHeld ⊢; refine pure_ (i := 1) (N := some 29) (v := ?_) (a' := ?_) #[false, true, false, false, false, false, false, false, false, false, false] rfl rfl (any_of HT_.out (by kernel_rfl)) (fun _ _ _ h => h) (Or.inl ⟨by rfl, ?_⟩) ?_ ?_; rotate_left
            ·intro w'; go_simp; with_reducible rfl
            rotate_left
            ·simp only [Act.put, List.setIfInBounds_toArray, List.set_cons_zero, List.set_cons_succ, i64_w, i32_w]; rfl
            refine take_ (i := 0) (N := some 28) (v := ?_) (a' := ?_) #[true, true, false, false, false, false, false, false, false, false, false] rfl rfl (take_ofW HT_.out HW_.out (by kernel_rfl)) (fun _ _ _ h => h) (Or.inl ⟨by rfl, ?_⟩) hHeld ?_ ?_; rotate_left
            ·rintro w' ⟨s0, s1⟩; go_simp; with_reducible rfl
            rotate_left
            ·simp only [Act.put, List.setIfInBounds_toArray, List.set_cons_zero, List.set_cons_succ, i64_w, i32_w]; rfl
            refine join_ (σ := Value × Value × Value × Nat) 2 #[true, true, true, true, true, true, true, true, true, false, false] (fun s_ => [(30, s_.1), (32, .tuple #[.agg #[s_.2.1, s_.2.2.1], .bool true]), (5, .pointer (some ⟨s_.2.2.2, 0, none⟩)), (31, .agg #[s_.1, .slice none 0 0]), (27, .tuple #[.agg #[s_.2.1, s_.2.2.1], .bool true]), (33, .agg #[s_.2.1, s_.2.2.1]), (34, .bool true)]) (fun s_ w' => (w'.cell? ⟨gb915, 0, none⟩ = some (.slice Ao8 t909.length co8) ∧ w'.cell? ⟨gb915, 1, none⟩ = some (.slice Ao10 t912.length co10)) ∧ (Kd.R (Kd.int .i64) 3 w' w.heap.size (fun k_ => some k_ ≠ (s_.2.1 : Value).ownBlock) s_.1 y919) ∧ (Kd.R (Kd.int .i64) 3 w' w.heap.size (fun k_ => some k_ ≠ (s_.1 : Value).ownBlock) s_.2.1 t922) ∧ (Kd.R k33 33 w' w.heap.size (fun k_ => some k_ ≠ (.slice Ao10 t912.length co10 : Value).ownBlock) s_.2.2.1 t925) ∧ (Kd.R k100 100 w' w.heap.size (fun _ => True) (.slice Ao8 t909.length co8) t909) ∧ (Kd.R k33 33 w' w.heap.size (fun k_ => some k_ ≠ (s_.2.2.1 : Value).ownBlock) (.slice Ao10 t912.length co10) t912) ∧ (w'.heap[gb915]? = some (.cells #[.slice Ao8 t909.length co8, .slice Ao10 t912.length co10] 49 (0, 0))) ∧ (w'.heap[s_.2.2.2]? = some (.cells #[.slice none 0 0, .slice none 0 0] 26 (0, 0))) ∧ (w.heap.size ≤ s_.2.2.2) ∧ (w.heap.size ≤ s_.2.2.2) ∧ (gb915 ≠ s_.2.2.2) ∧ (s_.2.2.2 ≠ gb915) ∧ (Below w.heap.size w w')) ?_ ?_; rotate_left
            ·intro hCont; refine two_ (i := 2) (j := 8) (Ni := some 30) (Nj := some 5) #[true, true, true, false, false, false, false, false, false, false, false] #[true, true, false, false, false, false, false, false, true, false, false] rfl rfl rfl rfl (two_of HT_.out (by kernel_rfl)) (by decide) (by decide) (fun K hK => ?_) (fun K hK => ?_)
             ·skip
              refine Kd.R_make_step (Kd.int .i64) _ 3 (by rfl) (N := 30) rfl 23 _ _ rfl t916 rfl rfl Try.underlying23 (.int .i64 0) 8 info3 rfl (by decide) (by omega) 0 (ok := fun _ => True) (okp := fun _ => True) rfl (fun _ hk => hk) trivial (of_decide_eq_true za) (Nat.le_trans (Nat.mul_le_mul_right _ (of_decide_eq_true za : t916.toNat ≤ 35184372088832)) (by omega)) (Below.refl _ _) (Nat.le_refl _) ?_; intro v920 w33 ho34 hb hg_ hnew_; clear hg_ hnew_
              (first | rw [← Ny919.out] at ho34 | (simp only [Int.reduceToNat] at ho34; rw [← Ny919.out] at ho34))
              replace HO_916000 := Aside0.mk (Kd.R_below (zo HO_916000) hb); replace HO_916001 := Aside0.mk (Kd.R_below (zo HO_916001) hb); have HO921 := Aside0.mk (Kd.R_lower ho34 (below_size (zB HB))); replace BK915 := Aside0.mk (blk_below (g := gb915) (o := .cells #[.slice Ao8 t909.length co8, .slice Ao10 t912.length co10] 49 (0, 0)) (zb BK915) hb); replace HB := Aside0.mk (below_step (zB HB) hb); clear hb ho34; obtain ⟨Ao35, co35, eo35⟩ := Kd.R_slice HO921.out
              (first | subst eo35 | (injection eo35 with f1_ f2_ f3_; have f4_ := f1_.symm; have f5_ := f3_.symm; clear f1_ f2_ f3_; subst f4_; subst f5_))
              refine hK.out _ _ ⟨(blk_cell BK915.out 0).trans rfl, (blk_cell BK915.out 1).trans rfl⟩ (fun hHeld => ?_); clear hK K; refine norm_ (a' := ?_) ?_ ?_; rotate_left
              ·show Act.put _ (some 30) _ = _
               simp only [Act.put, List.setIfInBounds_toArray, List.set_cons_zero, List.set_cons_succ, i64_w, i32_w]; rfl
              refine pure_ (i := 3) (N := some 31) (v := ?_) (a' := ?_) #[true, true, true, true, false, false, false, false, false, false, false] rfl rfl (any_of HT_.out (by kernel_rfl)) (fun _ _ _ h => h) (Or.inl ⟨by rfl, ?_⟩) ?_ ?_; rotate_left
              ·intro w'; go_simp; with_reducible rfl
              rotate_left
              ·simp only [Act.put, List.setIfInBounds_toArray, List.set_cons_zero, List.set_cons_succ, i64_w, i32_w]; rfl
              refine two_ (i := 4) (j := 8) (Ni := some 32) (Nj := some 5) #[true, true, true, true, true, false, false, false, false, false, false] #[true, true, true, true, false, false, false, false, true, false, false] rfl rfl rfl rfl (two_of HT_.out (by kernel_rfl)) (by decide) (by decide) (fun K hK => ?_) (fun K hK => ?_)
              ·skip
               refine goes_ Try.func32 (by kernel_rfl) rfl #[.agg #[.slice Ao8 t909.length co8, .slice Ao10 t912.length co10], .agg #[.slice Ao35 y919.length co35, .slice none 0 0]] (by rfl) rfl rfl zl ?_; refine (impl_FillHoles.calls kj4 _ _ t909 _ _ t912 _ _ y919 _ _ ([] : List (S33)) t922 t925 true _ ?side1 ?side2 ?side3 ?side4 ?side5 ?side6 ?side7 ?side8 A24.out).mono ?_
               (case side1 => repeat (first | exact (Kd.R_reads' HO_916000.out).2.2 | (with_reducible refine Kd.C_alloc ?_ _) | (with_reducible refine Kd.C_drewN ?_ _) | (with_reducible refine Kd.C_drew ?_)))
               (case side2 => exact (Kd.R_reads' HO_916000.out).2.1)
               (case side3 => repeat (first | exact (Kd.R_reads' HO_916001.out).2.2 | (with_reducible refine Kd.C_alloc ?_ _) | (with_reducible refine Kd.C_drewN ?_ _) | (with_reducible refine Kd.C_drew ?_)))
               (case side4 => exact (Kd.R_reads' HO_916001.out).2.1)
               (case side5 => repeat (first | exact (Kd.R_reads' HO921.out).2.2 | (with_reducible refine Kd.C_alloc ?_ _) | (with_reducible refine Kd.C_drewN ?_ _) | (with_reducible refine Kd.C_drew ?_)))
               (case side6 => exact (Kd.R_reads' HO921.out).2.1)
               (case side7 => exact Kd.C_nil _ _)
               (case side8 => exact Nat.le_refl _)
               rintro e w36 ⟨v923, v926, rfl, ho0, ho1, hb⟩; refine ⟨_, rfl, ?_⟩; replace HO_916000 := Aside0.mk (Kd.R_below (zo HO_916000) hb); have HO924 := Aside0.mk (Kd.R_lower (Kd.R_new' ho0 (Kd.R_lt (zo HO921))) (below_size (zB HB))); replace HO921 := Aside0.mk (Kd.R_elder' (zo HO921) (Kd.R_base ho0) hb); have HO927 := Aside0.mk (Kd.R_lower (Kd.R_new' ho1 (Kd.R_lt (zo HO_916001))) (below_size (zB HB))); replace HO_916001 := Aside0.mk (Kd.R_elder' (zo HO_916001) (Kd.R_base ho1) hb); replace BK915 := Aside0.mk (blk_below (g := gb915) (o := .cells #[.slice Ao8 t909.length co8, .slice Ao10 t912.length co10] 49 (0, 0)) (zb BK915) hb); replace HB := Aside0.mk (below_step (zB HB) hb); (try clear hb); (try clear hb2); (try clear hk); (try clear hi); (try clear ho0); (try clear ho1); refine hK.out _ _ ⟨(blk_cell BK915.out 0).trans rfl, (blk_cell BK915.out 1).trans rfl⟩ (fun hHeld => ?_); clear hK K; refine norm_ (a' := ?_) ?_ ?_; rotate_left
               ·show Act.put _ (some 32) _ = _
                simp only [Act.put, List.setIfInBounds_toArray, List.set_cons_zero, List.set_cons_succ, i64_w, i32_w]; rfl
               refine pure_ (i := 5) (N := some 27) (v := ?_) (a' := ?_) #[true, true, true, true, true, true, false, false, false, false, false] rfl rfl (any_of HT_.out (by kernel_rfl)) (fun _ _ _ h => h) (Or.inl ⟨by rfl, ?_⟩) ?_ ?_; rotate_left
               ·intro w'; go_simp; with_reducible rfl
               rotate_left
               ·simp only [Act.put, List.setIfInBounds_toArray, List.set_cons_zero, List.set_cons_succ, i64_w, i32_w]; rfl
               refine pure_ (i := 6) (N := some 33) (v := ?_) (a' := ?_) #[true, true, true, true, true, true, true, false, false, false, false] rfl rfl (any_of HT_.out (by kernel_rfl)) (fun _ _ _ h => h) (Or.inl ⟨by rfl, ?_⟩) ?_ ?_; rotate_left
               ·intro w'; go_simp; with_reducible rfl
               rotate_left
               ·simp only [Act.put, List.setIfInBounds_toArray, List.set_cons_zero, List.set_cons_succ, i64_w, i32_w]; rfl
               refine pure_ (i := 7) (N := some 34) (v := ?_) (a' := ?_) #[true, true, true, true, true, true, true, true, false, false, false] rfl rfl (any_of HT_.out (by kernel_rfl)) (fun _ _ _ h => h) (Or.inl ⟨by rfl, ?_⟩) ?_ ?_; rotate_left
               ·intro w'; go_simp; with_reducible rfl
               rotate_left
               ·simp only [Act.put, List.setIfInBounds_toArray, List.set_cons_zero, List.set_cons_succ, i64_w, i32_w]; rfl
               refine one_ (i := 8) (N := some 5) #[true, true, true, true, true, true, true, true, true, false, false] rfl rfl (one_of HT_.out (by kernel_rfl)) (by decide) (fun K hK => ?_); refine box_step ?hg (N := 5) ?hd (cs := #[.slice none 0 0, .slice none 0 0]) (t := 26) ?hr ?_; (case hd => rfl); (case hg => rfl); (case hr => first | (go_simp; done) | (go_simp; rfl)); intro gb929 hg w37 hbox hb; replace HO_916000 := Aside0.mk (Kd.R_below (zo HO_916000) hb); replace HO_916001 := Aside0.mk (Kd.R_below (zo HO_916001) hb); replace HO921 := Aside0.mk (Kd.R_below (zo HO921) hb); replace HO924 := Aside0.mk (Kd.R_below (zo HO924) hb); replace HO927 := Aside0.mk (Kd.R_below (zo HO927) hb); have BK929 := Aside0.mk (hbox); have GW929 := Aside0.mk ((by rw [hg]; exact (below_size (zB HB)) : w.heap.size ≤ gb929)); have GE929 := GW929; replace HB := Aside0.mk (below_step (zB HB) hb); have NB915_929 := Aside0.mk ((by rw [hg]; exact Nat.ne_of_lt (blk_lt (g := gb915) (o := .cells #[.slice Ao8 t909.length co8, .slice Ao10 t912.length co10] 49 (0, 0)) (zb BK915)) : gb915 ≠ gb929)); have NB929_915 := Aside0.mk NB915_929.out.symm; replace BK915 := Aside0.mk (blk_below (g := gb915) (o := .cells #[.slice Ao8 t909.length co8, .slice Ao10 t912.length co10] 49 (0, 0)) (zb BK915) hb); clear hb hbox hg; refine hK.out _ _ ⟨(blk_cell BK915.out 0).trans rfl, (blk_cell BK915.out 1).trans rfl⟩ (fun hHeld => ?_); clear hK K; refine norm_ (a' := ?_) ?_ ?_; rotate_left
               ·show Act.put _ (some 5) _ = _
                simp only [Act.put, List.setIfInBounds_toArray, List.set_cons_zero, List.set_cons_succ, i64_w, i32_w]; rfl
               exact norm_ zn (hCont (.slice Ao35 y919.length co35, v923, v926, gb929) _ ⟨hHeld, (zmR HO921 (fun _ hk => hk.2)), (zmR HO924 (fun _ hk => hk.2)), (zmR HO927 (fun _ hk => hk.2)), (zo HO_916000), (zmR HO_916001 (fun _ hk => hk.2)), (zb BK915), (zb BK929), GW929.out, GE929.out, NB915_929.out, NB929_915.out, (zB HB)⟩)
              ·skip
               refine box_step ?hg (N := 5) ?hd (cs := #[.slice none 0 0, .slice none 0 0]) (t := 26) ?hr ?_; (case hd => rfl); (case hg => rfl); (case hr => first | (go_simp; done) | (go_simp; rfl)); intro gb929 hg w36 hbox hb; replace HO_916000 := Aside0.mk (Kd.R_below (zo HO_916000) hb); replace HO_916001 := Aside0.mk (Kd.R_below (zo HO_916001) hb); replace HO921 := Aside0.mk (Kd.R_below (zo HO921) hb); have BK929 := Aside0.mk (hbox); have GW929 := Aside0.mk ((by rw [hg]; exact (below_size (zB HB)) : w.heap.size ≤ gb929)); have GE929 := GW929; replace HB := Aside0.mk (below_step (zB HB) hb); have NB915_929 := Aside0.mk ((by rw [hg]; exact Nat.ne_of_lt (blk_lt (g := gb915) (o := .cells #[.slice Ao8 t909.length co8, .slice Ao10 t912.length co10] 49 (0, 0)) (zb BK915)) : gb915 ≠ gb929)); have NB929_915 := Aside0.mk NB915_929.out.symm; replace BK915 := Aside0.mk (blk_below (g := gb915) (o := .cells #[.slice Ao8 t909.length co8, .slice Ao10 t912.length co10] 49 (0, 0)) (zb BK915) hb); clear hb hbox hg; refine hK.out _ _ ⟨(blk_cell BK915.out 0).trans rfl, (blk_cell BK915.out 1).trans rfl⟩ (fun hHeld => ?_); clear hK K; refine norm_ (a' := ?_) ?_ ?_; rotate_left
               ·show Act.put _ (some 5) _ = _
                simp only [Act.put, List.setIfInBounds_toArray, List.set_cons_zero, List.set_cons_succ, i64_w, i32_w]; rfl
               refine one_ (i := 4) (N := some 32) #[true, true, true, true, true, false, false, false, true, false, false] rfl rfl (one_of HT_.out (by kernel_rfl)) (by decide) (fun K hK => ?_); refine goes_ Try.func32 (by kernel_rfl) rfl #[.agg #[.slice Ao8 t909.length co8, .slice Ao10 t912.length co10], .agg #[.slice Ao35 y919.length co35, .slice none 0 0]] (by rfl) rfl rfl zl ?_; refine (impl_FillHoles.calls kj4 _ _ t909 _ _ t912 _ _ y919 _ _ ([] : List (S33)) t922 t925 true _ ?side1 ?side2 ?side3 ?side4 ?side5 ?side6 ?side7 ?side8 A24.out).mono ?_
               (case side1 => repeat (first | exact (Kd.R_reads' HO_916000.out).2.2 | (with_reducible refine Kd.C_alloc ?_ _) | (with_reducible refine Kd.C_drewN ?_ _) | (with_reducible refine Kd.C_drew ?_)))
               (case side2 => exact (Kd.R_reads' HO_916000.out).2.1)
               (case side3 => repeat (first | exact (Kd.R_reads' HO_916001.out).2.2 | (with_reducible refine Kd.C_alloc ?_ _) | (with_reducible refine Kd.C_drewN ?_ _) | (with_reducible refine Kd.C_drew ?_)))
               (case side4 => exact (Kd.R_reads' HO_916001.out).2.1)
               (case side5 => repeat (first | exact (Kd.R_reads' HO921.out).2.2 | (with_reducible refine Kd.C_alloc ?_ _) | (with_reducible refine Kd.C_drewN ?_ _) | (with_reducible refine Kd.C_drew ?_)))
               (case side6 => exact (Kd.R_reads' HO921.out).2.1)
               (case side7 => exact Kd.C_nil _ _)
               (case side8 => exact Nat.le_refl _)
               rintro e w37 ⟨v923, v926, rfl, ho0, ho1, hb⟩; refine ⟨_, rfl, ?_⟩; replace HO_916000 := Aside0.mk (Kd.R_below (zo HO_916000) hb); have HO924 := Aside0.mk (Kd.R_lower (Kd.R_new' ho0 (Kd.R_lt (zo HO921))) (below_size (zB HB))); replace HO921 := Aside0.mk (Kd.R_elder' (zo HO921) (Kd.R_base ho0) hb); have HO927 := Aside0.mk (Kd.R_lower (Kd.R_new' ho1 (Kd.R_lt (zo HO_916001))) (below_size (zB HB))); replace HO_916001 := Aside0.mk (Kd.R_elder' (zo HO_916001) (Kd.R_base ho1) hb); replace BK915 := Aside0.mk (blk_below (g := gb915) (o := .cells #[.slice Ao8 t909.length co8, .slice Ao10 t912.length co10] 49 (0, 0)) (zb BK915) hb); replace BK929 := Aside0.mk (blk_below (g := gb929) (o := .cells #[.slice none 0 0, .slice none 0 0] 26 (0, 0)) (zb BK929) hb); replace HB := Aside0.mk (below_step (zB HB) hb); (try clear hb); (try clear hb2); (try clear hk); (try clear hi); (try clear ho0); (try clear ho1); refine hK.out _ _ ⟨(blk_cell BK915.out 0).trans rfl, (blk_cell BK915.out 1).trans rfl⟩ (fun hHeld => ?_); clear hK K; refine norm_ (a' := ?_) ?_ ?_; rotate_left
               ·show Act.put _ (some 32) _ = _
                simp only [Act.put, List.setIfInBounds_toArray, List.set_cons_zero, List.set_cons_succ, i64_w, i32_w]; rfl
               refine pure_ (i := 5) (N := some 27) (v := ?_) (a' := ?_) #[true, true, true, true, true, true, false, false, true, false, false] rfl rfl (any_of HT_.out (by kernel_rfl)) (fun _ _ _ h => h) (Or.inl ⟨by rfl, ?_⟩) ?_ ?_; rotate_left
               ·intro w'; go_simp; with_reducible rfl
               rotate_left
               ·simp only [Act.put, List.setIfInBounds_toArray, List.set_cons_zero, List.set_cons_succ, i64_w, i32_w]; rfl
               refine pure_ (i := 6) (N := some 33) (v := ?_) (a' := ?_) #[true, true, true, true, true, true, true, false, true, false, false] rfl rfl (any_of HT_.out (by kernel_rfl)) (fun _ _ _ h => h) (Or.inl ⟨by rfl, ?_⟩) ?_ ?_; rotate_left
               ·intro w'; go_simp; with_reducible rfl
               rotate_left
               ·simp only [Act.put, List.setIfInBounds_toArray, List.set_cons_zero, List.set_cons_succ, i64_w, i32_w]; rfl
               refine pure_ (i := 7) (N := some 34) (v := ?_) (a' := ?_) #[true, true, true, true, true, true, true, true, true, false, false] rfl rfl (any_of HT_.out (by kernel_rfl)) (fun _ _ _ h => h) (Or.inl ⟨by rfl, ?_⟩) ?_ ?_; rotate_left
               ·intro w'; go_simp; with_reducible rfl
               rotate_left
               ·simp only [Act.put, List.setIfInBounds_toArray, List.set_cons_zero, List.set_cons_succ, i64_w, i32_w]; rfl
               exact norm_ zn (hCont (.slice Ao35 y919.length co35, v923, v926, gb929) _ ⟨hHeld, (zmR HO921 (fun _ hk => hk.2)), (zmR HO924 (fun _ hk => hk.2)), (zmR HO927 (fun _ hk => hk.2)), (zo HO_916000), (zmR HO_916001 (fun _ hk => hk.2)), (zb BK915), (zb BK929), GW929.out, GE929.out, NB915_929.out, NB929_915.out, (zB HB)⟩)
             ·skip
              refine box_step ?hg (N := 5) ?hd (cs := #[.slice none 0 0, .slice none 0 0]) (t := 26) ?hr ?_; (case hd => rfl); (case hg => rfl); (case hr => first | (go_simp; done) | (go_simp; rfl)); intro gb929 hg w33 hbox hb; replace HO_916000 := Aside0.mk (Kd.R_below (zo HO_916000) hb); replace HO_916001 := Aside0.mk (Kd.R_below (zo HO_916001) hb); have BK929 := Aside0.mk (hbox); have GW929 := Aside0.mk ((by rw [hg]; exact (below_size (zB HB)) : w.heap.size ≤ gb929)); have GE929 := GW929; replace HB := Aside0.mk (below_step (zB HB) hb); have NB915_929 := Aside0.mk ((by rw [hg]; exact Nat.ne_of_lt (blk_lt (g := gb915) (o := .cells #[.slice Ao8 t909.length co8, .slice Ao10 t912.length co10] 49 (0, 0)) (zb BK915)) : gb915 ≠ gb929)); have NB929_915 := Aside0.mk NB915_929.out.symm; replace BK915 := Aside0.mk (blk_below (g := gb915) (o := .cells #[.slice Ao8 t909.length co8, .slice Ao10 t912.length co10] 49 (0, 0)) (zb BK915) hb); clear hb hbox hg; refine hK.out _ _ ⟨(blk_cell BK915.out 0).trans rfl, (blk_cell BK915.out 1).trans rfl⟩ (fun hHeld => ?_); clear hK K; refine norm_ (a' := ?_) ?_ ?_; rotate_left
              ·show Act.put _ (some 5) _ = _
               simp only [Act.put, List.setIfInBounds_toArray, List.set_cons_zero, List.set_cons_succ, i64_w, i32_w]; rfl
              refine one_ (i := 2) (N := some 30) #[true, true, true, false, false, false, false, false, true, false, false] rfl rfl (one_of HT_.out (by kernel_rfl)) (by decide) (fun K hK => ?_); refine Kd.R_make_step (Kd.int .i64) _ 3 (by rfl) (N := 30) rfl 23 _ _ rfl t916 rfl rfl Try.underlying23 (.int .i64 0) 8 info3 rfl (by decide) (by omega) 0 (ok := fun _ => True) (okp := fun _ => True) rfl (fun _ hk => hk) trivial (of_decide_eq_true za) (Nat.le_trans (Nat.mul_le_mul_right _ (of_decide_eq_true za : t916.toNat ≤ 35184372088832)) (by omega)) (Below.refl _ _) (Nat.le_refl _) ?_; intro v920 w34 ho35 hb hg_ hnew_; clear hg_ hnew_
              (first | rw [← Ny919.out] at ho35 | (simp only [Int.reduceToNat] at ho35; rw [← Ny919.out] at ho35))
              replace HO_916000 := Aside0.mk (Kd.R_below (zo HO_916000) hb); replace HO_916001 := Aside0.mk (Kd.R_below (zo HO_916001) hb); have HO921 := Aside0.mk (Kd.R_lower ho35 (below_size (zB HB))); replace BK915 := Aside0.mk (blk_below (g := gb915) (o := .cells #[.slice Ao8 t909.length co8, .slice Ao10 t912.length co10] 49 (0, 0)) (zb BK915) hb); replace BK929 := Aside0.mk (blk_below (g := gb929) (o := .cells #[.slice none 0 0, .slice none 0 0] 26 (0, 0)) (zb BK929) hb); replace HB := Aside0.mk (below_step (zB HB) hb); clear hb ho35; obtain ⟨Ao36, co36, eo36⟩ := Kd.R_slice HO921.out
              (first | subst eo36 | (injection eo36 with f1_ f2_ f3_; have f4_ := f1_.symm; have f5_ := f3_.symm; clear f1_ f2_ f3_; subst f4_; subst f5_))
              refine hK.out _ _ ⟨(blk_cell BK915.out 0).trans rfl, (blk_cell BK915.out 1).trans rfl⟩ (fun hHeld => ?_); clear hK K; refine norm_ (a' := ?_) ?_ ?_; rotate_left
              ·show Act.put _ (some 30) _ = _
               simp only [Act.put, List.setIfInBounds_toArray, List.set_cons_zero, List.set_cons_succ, i64_w, i32_w]; rfl
              refine pure_ (i := 3) (N := some 31) (v := ?_) (a' := ?_) #[true, true, true, true, false, false, false, false, true, false, false] rfl rfl (any_of HT_.out (by kernel_rfl)) (fun _ _ _ h => h) (Or.inl ⟨by rfl, ?_⟩) ?_ ?_; rotate_left
              ·intro w'; go_simp; with_reducible rfl
              rotate_left
              ·simp only [Act.put, List.setIfInBounds_toArray, List.set_cons_zero, List.set_cons_succ, i64_w, i32_w]; rfl
              refine one_ (i := 4) (N := some 32) #[true, true, true, true, true, false, false, false, true, false, false] rfl rfl (one_of HT_.out (by kernel_rfl)) (by decide) (fun K hK => ?_); refine goes_ Try.func32 (by kernel_rfl) rfl #[.agg #[.slice Ao8 t909.length co8, .slice Ao10 t912.length co10], .agg #[.slice Ao36 y919.length co36, .slice none 0 0]] (by rfl) rfl rfl zl ?_; refine (impl_FillHoles.calls kj4 _ _ t909 _ _ t912 _ _ y919 _ _ ([] : List (S33)) t922 t925 true _ ?side1 ?side2 ?side3 ?side4 ?side5 ?side6 ?side7 ?side8 A24.out).mono ?_
              (case side1 => repeat (first | exact (Kd.R_reads' HO_916000.out).2.2 | (with_reducible refine Kd.C_alloc ?_ _) | (with_reducible refine Kd.C_drewN ?_ _) | (with_reducible refine Kd.C_drew ?_)))
              (case side2 => exact (Kd.R_reads' HO_916000.out).2.1)
              (case side3 => repeat (first | exact (Kd.R_reads' HO_916001.out).2.2 | (with_reducible refine Kd.C_alloc ?_ _) | (with_reducible refine Kd.C_drewN ?_ _) | (with_reducible refine Kd.C_drew ?_)))
              (case side4 => exact (Kd.R_reads' HO_916001.out).2.1)
              (case side5 => repeat (first | exact (Kd.R_reads' HO921.out).2.2 | (with_reducible refine Kd.C_alloc ?_ _) | (with_reducible refine Kd.C_drewN ?_ _) | (with_reducible refine Kd.C_drew ?_)))
              (case side6 => exact (Kd.R_reads' HO921.out).2.1)
              (case side7 => exact Kd.C_nil _ _)
              (case side8 => exact Nat.le_refl _)
              rintro e w37 ⟨v923, v926, rfl, ho0, ho1, hb⟩; refine ⟨_, rfl, ?_⟩; replace HO_916000 := Aside0.mk (Kd.R_below (zo HO_916000) hb); have HO924 := Aside0.mk (Kd.R_lower (Kd.R_new' ho0 (Kd.R_lt (zo HO921))) (below_size (zB HB))); replace HO921 := Aside0.mk (Kd.R_elder' (zo HO921) (Kd.R_base ho0) hb); have HO927 := Aside0.mk (Kd.R_lower (Kd.R_new' ho1 (Kd.R_lt (zo HO_916001))) (below_size (zB HB))); replace HO_916001 := Aside0.mk (Kd.R_elder' (zo HO_916001) (Kd.R_base ho1) hb); replace BK915 := Aside0.mk (blk_below (g := gb915) (o := .cells #[.slice Ao8 t909.length co8, .slice Ao10 t912.length co10] 49 (0, 0)) (zb BK915) hb); replace BK929 := Aside0.mk (blk_below (g := gb929) (o := .cells #[.slice none 0 0, .slice none 0 0] 26 (0, 0)) (zb BK929) hb); replace HB := Aside0.mk (below_step (zB HB) hb); (try clear hb); (try clear hb2); (try clear hk); (try clear hi); (try clear ho0); (try clear ho1); refine hK.out _ _ ⟨(blk_cell BK915.out 0).trans rfl, (blk_cell BK915.out 1).trans rfl⟩ (fun hHeld => ?_); clear hK K; refine norm_ (a' := ?_) ?_ ?_; rotate_left
              ·show Act.put _ (some 32) _ = _
               simp only [Act.put, List.setIfInBounds_toArray, List.set_cons_zero, List.set_cons_succ, i64_w, i32_w]; rfl
              refine pure_ (i := 5) (N := some 27) (v := ?_) (a' := ?_) #[true, true, true, true, true, true, false, false, true, false, false] rfl rfl (any_of HT_.out (by kernel_rfl)) (fun _ _ _ h => h) (Or.inl ⟨by rfl, ?_⟩) ?_ ?_; rotate_left
              ·intro w'; go_simp; with_reducible rfl
              rotate_left
              ·simp only [Act.put, List.setIfInBounds_toArray, List.set_cons_zero, List.set_cons_succ, i64_w, i32_w]; rfl
              refine pure_ (i := 6) (N := some 33) (v := ?_) (a' := ?_) #[true, true, true, true, true, true, true, false, true, false, false] rfl rfl (any_of HT_.out (by kernel_rfl)) (fun _ _ _ h => h) (Or.inl ⟨by rfl, ?_⟩) ?_ ?_; rotate_left
              ·intro w'; go_simp; with_reducible rfl
              rotate_left
              ·simp only [Act.put, List.setIfInBounds_toArray, List.set_cons_zero, List.set_cons_succ, i64_w, i32_w]; rfl
              refine pure_ (i := 7) (N := some 34) (v := ?_) (a' := ?_) #[true, true, true, true, true, true, true, true, true, false, false] rfl rfl (any_of HT_.out (by kernel_rfl)) (fun _ _ _ h => h) (Or.inl ⟨by rfl, ?_⟩) ?_ ?_; rotate_left
              ·intro w'; go_simp; with_reducible rfl
              rotate_left
              ·simp only [Act.put, List.setIfInBounds_toArray, List.set_cons_zero, List.set_cons_succ, i64_w, i32_w]; rfl
              exact norm_ zn (hCont (.slice Ao36 y919.length co36, v923, v926, gb929) _ ⟨hHeld, (zmR HO921 (fun _ hk => hk.2)), (zmR HO924 (fun _ hk => hk.2)), (zmR HO927 (fun _ hk => hk.2)), (zo HO_916000), (zmR HO_916001 (fun _ hk => hk.2)), (zb BK915), (zb BK929), GW929.out, GE929.out, NB915_929.out, NB929_915.out, (zB HB)⟩)
            rintro ⟨v920, v923, v926, gb929⟩ w38 ⟨hS_, h0_, h1_, h2_, h3_, h4_, h5_, h6_, h7_, h8_, h9_, h10_, h11_⟩; have n0_ : Aside0 (Kd.R (Kd.int .i64) 3 w38 w.heap.size (fun k_ => some k_ ≠ (v923 : Value).ownBlock) v920 y919) := ⟨h0_⟩
            have n1_ : Aside0 (Kd.R (Kd.int .i64) 3 w38 w.heap.size (fun k_ => some k_ ≠ (v920 : Value).ownBlock) v923 t922) := ⟨h1_⟩
            have n2_ : Aside0 (Kd.R k33 33 w38 w.heap.size (fun k_ => some k_ ≠ (.slice Ao10 t912.length co10 : Value).ownBlock) v926 t925) := ⟨h2_⟩
            have n3_ : Aside0 (Kd.R k100 100 w38 w.heap.size (fun _ => True) (.slice Ao8 t909.length co8) t909) := ⟨h3_⟩
            have n4_ : Aside0 (Kd.R k33 33 w38 w.heap.size (fun k_ => some k_ ≠ (v926 : Value).ownBlock) (.slice Ao10 t912.length co10) t912) := ⟨h4_⟩
            have n5_ : Aside0 (w38.heap[gb915]? = some (.cells #[.slice Ao8 t909.length co8, .slice Ao10 t912.length co10] 49 (0, 0))) := ⟨h5_⟩
            have n6_ : Aside0 (w38.heap[gb929]? = some (.cells #[.slice none 0 0, .slice none 0 0] 26 (0, 0))) := ⟨h6_⟩
            have n7_ : Aside0 (w.heap.size ≤ gb929) := ⟨h7_⟩
            have n8_ : Aside0 (w.heap.size ≤ gb929) := ⟨h8_⟩
            have n9_ : Aside0 (gb915 ≠ gb929) := ⟨h9_⟩
            have n10_ : Aside0 (gb929 ≠ gb915) := ⟨h10_⟩
            have n11_ : Aside0 (Below w.heap.size w w38) := ⟨h11_⟩
            clear HO_916000; clear HO_916001; clear BK915; clear HB; clear h0_ h1_ h2_ h3_ h4_ h5_ h6_ h7_ h8_ h9_ h10_ h11_; have HO921 := n0_; have HO924 := n1_; have HO927 := n2_; have HO_916000 := n3_; have HO_916001 := n4_; have BK915 := n5_; have BK929 := n6_; have GW929 := n7_; have GE929 := n8_; have NB915_929 := n9_; have NB929_915 := n10_; have HB := n11_; clear n0_ n1_ n2_ n3_ n4_ n5_ n6_ n7_ n8_ n9_ n10_ n11_; have hHeld : w38.cell? ⟨gb915, 0, none⟩ = some (.slice Ao8 t909.length co8) ∧ w38.cell? ⟨gb915, 1, none⟩ = some (.slice Ao10 t912.length co10) := hS_; obtain ⟨Ao39, co39, eo39⟩ := Kd.R_slice HO921.out
            (first | subst eo39 | (injection eo39 with f1_ f2_ f3_; have f4_ := f1_.symm; have f5_ := f3_.symm; clear f1_ f2_ f3_; subst f4_; subst f5_))
            obtain ⟨Ao40, co40, eo40⟩ := Kd.R_slice HO924.out
            (first | subst eo40 | (injection eo40 with f1_ f2_ f3_; have f4_ := f1_.symm; have f5_ := f3_.symm; clear f1_ f2_ f3_; subst f4_; subst f5_))
            obtain ⟨Ao42, co42, eo42⟩ := Kd.R_slice HO927.out
            (first | subst eo42 | (injection eo42 with f1_ f2_ f3_; have f4_ := f1_.symm; have f5_ := f3_.symm; clear f1_ f2_ f3_; subst f4_; subst f5_))
            refine norm_ (a' := ?_) ?_ ?_; rotate_left
            ·simp only [putAll, Act.put, List.setIfInBounds_toArray, List.set_cons_zero, List.set_cons_succ]; rfl
            refine one_ (i := 9) (N := none) #[true, true, true, true, true, true, true, true, true, true, false] rfl rfl (one_of HT_.out (by kernel_rfl)) (by decide) (fun K hK => ?_); have hs41 : w38.cell? ⟨gb929, 0, none⟩ = some (.slice none 0 0) := (blk_cell BK929.out 0).trans rfl; have hfs41 := blk_frozen BK929.out 0; have hns41_0 := NB915_929.out; have hms41_0 := NB929_915.out; have hs43 : w38.cell? ⟨gb929, 1, none⟩ = some (.slice none 0 0) := (blk_cell BK929.out 1).trans rfl; have hfs43 := blk_frozen BK929.out 1; have hns43_0 := NB915_929.out; have hms43_0 := NB929_915.out; refine skip_ (w1 := ?_) (by rfl) rfl ?_ ?_; rotate_left
            ·go_simp; rfl
            refine hK.out _ _ ⟨((cell_far (p := ⟨gb929, _, none⟩) NB915_929.out _).trans (((cell_far (p := ⟨gb929, _, none⟩) NB915_929.out _).trans (hHeld.1)))), ((cell_far (p := ⟨gb929, _, none⟩) NB915_929.out _).trans (((cell_far (p := ⟨gb929, _, none⟩) NB915_929.out _).trans (hHeld.2))))⟩ (fun hHeld => ?_); clear hK K; refine pure_ (i := 10) (N := some 6) (v := ?_) (a' := ?_) #[true, true, true, true, true, true, true, true, true, true, true] rfl rfl (any_of HT_.out (by kernel_rfl)) (fun _ _ _ h => h) (Or.inl ⟨by rfl, ?_⟩) ?_ ?_; rotate_left
            ·intro w'; go_simp; with_reducible rfl
            rotate_left
            ·simp only [Act.put, List.setIfInBounds_toArray, List.set_cons_zero, List.set_cons_succ, i64_w, i32_w]; rfl
            refine done_ (done_of HT_.out (by kernel_rfl)) ?_
            try go_wp2
            have n0_ : Aside0 (Kd.R k100 100 ((w38.setCell ⟨gb929, 0, none⟩ (.slice Ao40 t922.length co40)).setCell ⟨gb929, 1, none⟩ (.slice Ao42 t925.length co42)) w.heap.size (fun _ => True) (.slice Ao8 t909.length co8) t909) := ⟨by (with_reducible repeat (first | apply Kd.R_alloc | apply Kd.R_drewN | apply Kd.R_drew)); exact Kd.R_mono (Kd.R_far (p := ⟨gb929, 1, none⟩) (Kd.R_far (p := ⟨gb929, 0, none⟩) (Kd.R_types HO_916000.out BK929.out (by decide)) (fun _ hk => hk.2) (.slice Ao40 t922.length co40)) (fun _ hk => hk.2) (.slice Ao42 t925.length co42)) (fun _ hk => trivial)⟩
            have n1_ : Aside0 (Kd.R k33 33 ((w38.setCell ⟨gb929, 0, none⟩ (.slice Ao40 t922.length co40)).setCell ⟨gb929, 1, none⟩ (.slice Ao42 t925.length co42)) w.heap.size (fun k_ => some k_ ≠ (.slice Ao42 t925.length co42 : Value).ownBlock) (.slice Ao10 t912.length co10) t912) := ⟨by (with_reducible repeat (first | apply Kd.R_alloc | apply Kd.R_drewN | apply Kd.R_drew)); exact Kd.R_mono (Kd.R_far (p := ⟨gb929, 1, none⟩) (Kd.R_far (p := ⟨gb929, 0, none⟩) (Kd.R_types HO_916001.out BK929.out (by decide)) (fun _ hk => hk.2) (.slice Ao40 t922.length co40)) (fun _ hk => hk.2) (.slice Ao42 t925.length co42)) (fun _ hk => hk.1)⟩
            have n2_ : Aside0 (Kd.R (Kd.int .i64) 3 ((w38.setCell ⟨gb929, 0, none⟩ (.slice Ao40 t922.length co40)).setCell ⟨gb929, 1, none⟩ (.slice Ao42 t925.length co42)) w.heap.size (fun k_ => some k_ ≠ (.slice Ao40 t922.length co40 : Value).ownBlock) (.slice Ao39 y919.length co39) y919) := ⟨by (with_reducible repeat (first | apply Kd.R_alloc | apply Kd.R_drewN | apply Kd.R_drew)); exact Kd.R_mono (Kd.R_far (p := ⟨gb929, 1, none⟩) (Kd.R_far (p := ⟨gb929, 0, none⟩) (Kd.R_types HO921.out BK929.out (by decide)) (fun _ hk => hk.2) (.slice Ao40 t922.length co40)) (fun _ hk => hk.2) (.slice Ao42 t925.length co42)) (fun _ hk => hk.1)⟩
            have n3_ : Aside0 (Kd.R (Kd.int .i64) 3 ((w38.setCell ⟨gb929, 0, none⟩ (.slice Ao40 t922.length co40)).setCell ⟨gb929, 1, none⟩ (.slice Ao42 t925.length co42)) w.heap.size (fun k_ => some k_ ≠ (.slice Ao39 y919.length co39 : Value).ownBlock) (.slice Ao40 t922.length co40) t922) := ⟨by (with_reducible repeat (first | apply Kd.R_alloc | apply Kd.R_drewN | apply Kd.R_drew)); exact Kd.R_mono (Kd.R_far (p := ⟨gb929, 1, none⟩) (Kd.R_far (p := ⟨gb929, 0, none⟩) (Kd.R_types HO924.out BK929.out (by decide)) (fun _ hk => hk.2) (.slice Ao40 t922.length co40)) (fun _ hk => hk.2) (.slice Ao42 t925.length co42)) (fun _ hk => hk.1)⟩
            have n4_ : Aside0 (Kd.R k33 33 ((w38.setCell ⟨gb929, 0, none⟩ (.slice Ao40 t922.length co40)).setCell ⟨gb929, 1, none⟩ (.slice Ao42 t925.length co42)) w.heap.size (fun k_ => some k_ ≠ (.slice Ao10 t912.length co10 : Value).ownBlock) (.slice Ao42 t925.length co42) t925) := ⟨by (with_reducible repeat (first | apply Kd.R_alloc | apply Kd.R_drewN | apply Kd.R_drew)); exact Kd.R_mono (Kd.R_far (p := ⟨gb929, 1, none⟩) (Kd.R_far (p := ⟨gb929, 0, none⟩) (Kd.R_types HO927.out BK929.out (by decide)) (fun _ hk => hk.2) (.slice Ao40 t922.length co40)) (fun _ hk => hk.2) (.slice Ao42 t925.length co42)) (fun _ hk => hk.1)⟩
            have n5_ : Aside0 (((w38.setCell ⟨gb929, 0, none⟩ (.slice Ao40 t922.length co40)).setCell ⟨gb929, 1, none⟩ (.slice Ao42 t925.length co42)).heap[gb915]? = some (.cells #[.slice Ao8 t909.length co8, .slice Ao10 t912.length co10] 49 (0, 0))) := ⟨zf BK915⟩
            have n6_ : Aside0 (((w38.setCell ⟨gb929, 0, none⟩ (.slice Ao40 t922.length co40)).setCell ⟨gb929, 1, none⟩ (.slice Ao42 t925.length co42)).heap[gb929]? = some (.cells #[.slice Ao40 t922.length co40, .slice Ao42 t925.length co42] 26 (0, 0))) := ⟨by (with_reducible repeat (first | refine blk_drewN ?_ _ | refine blk_drew ?_ | refine blk_alloc ?_ _)); refine blk_put (cs := #[.slice Ao40 t922.length co40, .slice none 0 0]) ?_ 1 _ rfl; (with_reducible repeat (first | refine blk_drewN ?_ _ | refine blk_drew ?_ | refine blk_alloc ?_ _)); refine blk_put (cs := #[.slice none 0 0, .slice none 0 0]) ?_ 0 _ rfl; (with_reducible repeat (first | refine blk_drewN ?_ _ | refine blk_drew ?_ | refine blk_alloc ?_ _)); exact BK929.out⟩
            have n7_ : Aside0 (Below w.heap.size w ((w38.setCell ⟨gb929, 0, none⟩ (.slice Ao40 t922.length co40)).setCell ⟨gb929, 1, none⟩ (.slice Ao42 t925.length co42))) := ⟨zB HB⟩
            (try clear HO_916000); (try clear HO_916001); (try clear HO921); (try clear HO924); (try clear HO927); (try clear BK915); (try clear BK929); (try clear HB); generalize ((w38.setCell ⟨gb929, 0, none⟩ (.slice Ao40 t922.length co40)).setCell ⟨gb929, 1, none⟩ (.slice Ao42 t925.length co42)) = w44 at n0_ n1_ n2_ n3_ n4_ n5_ n6_ n7_ ⊢; have HO_916000 := n0_; have HO_916001 := n1_; have HO921 := n2_; have HO924 := n3_; have HO927 := n4_; have BK915 := n5_; have BK929 := n6_; have HB := n7_; clear n0_ n1_ n2_ n3_ n4_ n5_ n6_ n7_; replace HO_916000 := Aside0.mk (Kd.R_drew HO_916000.out); replace HO_916001 := Aside0.mk (Kd.R_drew HO_916001.out); replace HO921 := Aside0.mk (Kd.R_drew HO921.out); replace HO924 := Aside0.mk (Kd.R_drew HO924.out); replace HO927 := Aside0.mk (Kd.R_drew HO927.out); replace BK915 := Aside0.mk (blk_drew BK915.out); replace BK929 := Aside0.mk (blk_drew BK929.out); replace HB := Aside0.mk (below_drew1 HB.out); refine start_ (n := 10) (S := fun w' => w'.cell? ⟨gb915, 0, none⟩ = some (.slice Ao8 t909.length co8) ∧ w'.cell? ⟨gb915, 1, none⟩ = some (.slice Ao10 t912.length co10)) (ds := []) #[false, false, false, false, false, false, false, false, false, false] (by kernel_rfl) rfl rfl ⟨(blk_cell BK915.out 0).trans rfl, (blk_cell BK915.out 1).trans rfl⟩ (fun hHeld => ?_); refine with_tabW laws_FnCountHoles.tab10 laws_FnCountHoles.bits10 (fun HT_ HW_ => ?_); generalize w44.drew = w45 at HO_916000 HO_916001 HO921 HO924 HO927 BK915 BK929 HB hHeld ⊢; refine pure_ (i := 1) (N := some 39) (v := ?_) (a' := ?_) #[false, true, false, false, false, false, false, false, false, false] rfl rfl (any_of HT_.out (by kernel_rfl)) (fun _ _ _ h => h) (Or.inl ⟨by rfl, ?_⟩) ?_ ?_; rotate_left
            ·intro w'; go_simp; with_reducible rfl
            rotate_left
            ·simp only [Act.put, List.setIfInBounds_toArray, List.set_cons_zero, List.set_cons_succ, i64_w, i32_w]; rfl
            refine pure_ (i := 2) (N := some 40) (v := ?_) (a' := ?_) #[false, true, true, false, false, false, false, false, false, false] rfl rfl (any_of HT_.out (by kernel_rfl)) (fun _ _ _ h => h) (Or.inl ⟨by rfl, ?_⟩) ?_ ?_; rotate_left
            ·intro w'; go_simp; with_reducible rfl
            rotate_left
            ·simp only [Act.put, List.setIfInBounds_toArray, List.set_cons_zero, List.set_cons_succ, i64_w, i32_w]; rfl
            refine take_ (i := 0) (N := some 38) (v := ?_) (a' := ?_) #[true, true, true, false, false, false, false, false, false, false] rfl rfl (take_ofW HT_.out HW_.out (by kernel_rfl)) (fun _ _ _ h => h) (Or.inl ⟨by rfl, ?_⟩) hHeld ?_ ?_; rotate_left
            ·rintro w' ⟨s0, s1⟩; go_simp; with_reducible rfl
            rotate_left
            ·simp only [Act.put, List.setIfInBounds_toArray, List.set_cons_zero, List.set_cons_succ, i64_w, i32_w]; rfl
            refine one_ (i := 3) (N := some 41) #[true, true, true, true, false, false, false, false, false, false] rfl rfl (one_of HT_.out (by kernel_rfl)) (by decide) (fun K hK => ?_); refine Kd.R_make_step (Kd.int .i64) _ 3 (by rfl) (N := 41) rfl 23 _ _ rfl ji26 rfl rfl Try.underlying23 (.int .i64 0) 8 info3 rfl (by decide) (by omega) 0 (ok := fun _ => True) (okp := fun _ => True) rfl (fun _ hk => hk) trivial (of_decide_eq_true za) (Nat.le_trans (Nat.mul_le_mul_right _ (of_decide_eq_true za : ji26.toNat ≤ 35184372088832)) (by omega)) (Below.refl _ _) (Nat.le_refl _) ?_; intro v931 w46 ho47 hb hg_ hnew_; clear hg_ hnew_
            (first | rw [← Ny930.out] at ho47 | (simp only [Int.reduceToNat] at ho47; rw [← Ny930.out] at ho47))
            replace HO_916000 := Aside0.mk (Kd.R_below (zo HO_916000) hb); replace HO_916001 := Aside0.mk (Kd.R_below (zo HO_916001) hb); replace HO927 := Aside0.mk (Kd.R_below (zo HO927) hb); have HO932 := Aside0.mk (Kd.R_lower (Kd.R_new' (Kd.R_new' ho47 (Kd.R_lt (zo HO921))) (Kd.R_lt (zo HO924))) (below_size (zB HB))); replace HO921 := Aside0.mk (Kd.R_elder' (zo HO921) (Kd.R_base ho47) hb); replace HO924 := Aside0.mk (Kd.R_elder' (zo HO924) (Kd.R_base ho47) hb); replace BK915 := Aside0.mk (blk_below (g := gb915) (o := .cells #[.slice Ao8 t909.length co8, .slice Ao10 t912.length co10] 49 (0, 0)) (zb BK915) hb); replace BK929 := Aside0.mk (blk_below (g := gb929) (o := .cells #[.slice Ao40 t922.length co40, .slice Ao42 t925.length co42] 26 (0, 0)) (zb BK929) hb); replace HB := Aside0.mk (below_step (zB HB) hb); clear hb ho47; obtain ⟨Ao48, co48, eo48⟩ := Kd.R_slice HO932.out
            (first | subst eo48 | (injection eo48 with f1_ f2_ f3_; have f4_ := f1_.symm; have f5_ := f3_.symm; clear f1_ f2_ f3_; subst f4_; subst f5_))
            refine hK.out _ _ ⟨(blk_cell BK915.out 0).trans rfl, (blk_cell BK915.out 1).trans rfl⟩ (fun hHeld => ?_); clear hK K; refine norm_ (a' := ?_) ?_ ?_; rotate_left
            ·show Act.put _ (some 41) _ = _
             simp only [Act.put, List.setIfInBounds_toArray, List.set_cons_zero, List.set_cons_succ, i64_w, i32_w]; rfl
            refine pure_ (i := 4) (N := some 42) (v := ?_) (a' := ?_) #[true, true, true, true, true, false, false, false, false, false] rfl rfl (any_of HT_.out (by kernel_rfl)) (fun _ _ _ h => h) (Or.inl ⟨by rfl, ?_⟩) ?_ ?_; rotate_left
            ·intro w'; go_simp; with_reducible rfl
            rotate_left
            ·simp only [Act.put, List.setIfInBounds_toArray, List.set_cons_zero, List.set_cons_succ, i64_w, i32_w]; rfl
            refine one_ (i := 5) (N := some 43) #[true, true, true, true, true, true, false, false, false, false] rfl rfl (one_of HT_.out (by kernel_rfl)) (by decide) (fun K hK => ?_); refine goes_ Try.func32 (by kernel_rfl) rfl #[.agg #[.slice Ao8 t909.length co8, .slice Ao10 t912.length co10], .agg #[.slice Ao48 y930.length co48, .slice none 0 0]] (by rfl) rfl rfl zl ?_; refine (impl_FillHoles.calls kj4 _ _ t909 _ _ t912 _ _ y930 _ _ ([] : List (S33)) t933 t936 t939 _ ?side1 ?side2 ?side3 ?side4 ?side5 ?side6 ?side7 ?side8 A29.out).mono ?_
            (case side1 => repeat (first | exact (Kd.R_reads' HO_916000.out).2.2 | (with_reducible refine Kd.C_alloc ?_ _) | (with_reducible refine Kd.C_drewN ?_ _) | (with_reducible refine Kd.C_drew ?_)))
            (case side2 => exact (Kd.R_reads' HO_916000.out).2.1)
            (case side3 => repeat (first | exact (Kd.R_reads' HO_916001.out).2.2 | (with_reducible refine Kd.C_alloc ?_ _) | (with_reducible refine Kd.C_drewN ?_ _) | (with_reducible refine Kd.C_drew ?_)))
            (case side4 => exact (Kd.R_reads' HO_916001.out).2.1)
            (case side5 => repeat (first | exact (Kd.R_reads' HO932.out).2.2 | (with_reducible refine Kd.C_alloc ?_ _) | (with_reducible refine Kd.C_drewN ?_ _) | (with_reducible refine Kd.C_drew ?_)))
            (case side6 => exact (Kd.R_reads' HO932.out).2.1)
            (case side7 => exact Kd.C_nil _ _)
            (case side8 => exact Nat.le_refl _)
            rintro e w49 ⟨v934, v937, rfl, ho0, ho1, hb⟩; refine ⟨_, rfl, ?_⟩; replace HO_916000 := Aside0.mk (Kd.R_below (zo HO_916000) hb); have HO935 := Aside0.mk (Kd.R_lower (Kd.R_new' (Kd.R_new' (Kd.R_new' ho0 (Kd.R_lt (zo HO921))) (Kd.R_lt (zo HO924))) (Kd.R_lt (zo HO932))) (below_size (zB HB))); replace HO921 := Aside0.mk (Kd.R_elder' (zo HO921) (Kd.R_base ho0) hb); replace HO924 := Aside0.mk (Kd.R_elder' (zo HO924) (Kd.R_base ho0) hb); replace HO932 := Aside0.mk (Kd.R_elder' (zo HO932) (Kd.R_base ho0) hb); have HO938 := Aside0.mk (Kd.R_lower (Kd.R_new' (Kd.R_new' ho1 (Kd.R_lt (zo HO_916001))) (Kd.R_lt (zo HO927))) (below_size (zB HB))); replace HO_916001 := Aside0.mk (Kd.R_elder' (zo HO_916001) (Kd.R_base ho1) hb); replace HO927 := Aside0.mk (Kd.R_elder' (zo HO927) (Kd.R_base ho1) hb); replace BK915 := Aside0.mk (blk_below (g := gb915) (o := .cells #[.slice Ao8 t909.length co8, .slice Ao10 t912.length co10] 49 (0, 0)) (zb BK915) hb); replace BK929 := Aside0.mk (blk_below (g := gb929) (o := .cells #[.slice Ao40 t922.length co40, .slice Ao42 t925.length co42] 26 (0, 0)) (zb BK929) hb); replace HB := Aside0.mk (below_step (zB HB) hb); (try clear hb); (try clear hb2); (try clear hk); (try clear hi); (try clear ho0); (try clear ho1); refine hK.out _ _ ⟨(blk_cell BK915.out 0).trans rfl, (blk_cell BK915.out 1).trans rfl⟩ (fun hHeld => ?_); clear hK K; refine norm_ (a' := ?_) ?_ ?_; rotate_left
            ·show Act.put _ (some 43) _ = _
             simp only [Act.put, List.setIfInBounds_toArray, List.set_cons_zero, List.set_cons_succ, i64_w, i32_w]; rfl
            refine pure_ (i := 6) (N := some 37) (v := ?_) (a' := ?_) #[true, true, true, true, true, true, true, false, false, false] rfl rfl (any_of HT_.out (by kernel_rfl)) (fun _ _ _ h => h) (Or.inl ⟨by rfl, ?_⟩) ?_ ?_; rotate_left
            ·intro w'; go_simp; with_reducible rfl
            rotate_left
            ·simp only [Act.put, List.setIfInBounds_toArray, List.set_cons_zero, List.set_cons_succ, i64_w, i32_w]; rfl
            refine pure_ (i := 7) (N := some 44) (v := ?_) (a' := ?_) #[true, true, true, true, true, true, true, true, false, false] rfl rfl (any_of HT_.out (by kernel_rfl)) (fun _ _ _ h => h) (Or.inl ⟨by rfl, ?_⟩) ?_ ?_; rotate_left
            ·intro w'; go_simp; with_reducible rfl
            rotate_left
            ·simp only [Act.put, List.setIfInBounds_toArray, List.set_cons_zero, List.set_cons_succ, i64_w, i32_w]; rfl
            refine pure_ (i := 8) (N := some 45) (v := ?_) (a' := ?_) #[true, true, true, true, true, true, true, true, true, false] rfl rfl (any_of HT_.out (by kernel_rfl)) (fun _ _ _ h => h) (Or.inl ⟨by rfl, ?_⟩) ?_ ?_; rotate_left
            ·intro w'; go_simp; with_reducible rfl
            rotate_left
            ·simp only [Act.put, List.setIfInBounds_toArray, List.set_cons_zero, List.set_cons_succ, i64_w, i32_w]; rfl
            refine pure_ (i := 9) (N := some 7) (v := ?_) (a' := ?_) #[true, true, true, true, true, true, true, true, true, true] rfl rfl (any_of HT_.out (by kernel_rfl)) (fun _ _ _ h => h) (Or.inl ⟨by rfl, ?_⟩) ?_ ?_; rotate_left
            ·intro w'; go_simp; with_reducible rfl
            rotate_left
            ·simp only [Act.put, List.setIfInBounds_toArray, List.set_cons_zero, List.set_cons_succ, i64_w, i32_w]; rfl
            refine done_ (done_of HT_.out (by kernel_rfl)) ?_; have hnb50 := NB915_929.out; have hnc50 := NB929_915.out; have hcz51_0 : w49.cell? ⟨gb915, 0, none⟩ = some (.slice Ao8 t909.length co8) := (blk_cell BK915.out 0).trans rfl; have hcz51_1 : w49.cell? ⟨gb915, 1, none⟩ = some (.slice Ao10 t912.length co10) := (blk_cell BK915.out 1).trans rfl; have hfz51_0 := blk_frozen BK915.out 0; have hfz51_1 := blk_frozen BK915.out 1
            try go_wp2
            go_ret; exact ⟨by first | rfl | (simp [errW_none, errW_some] <;> rfl) | (simp only [← hji26]; first | rfl | (simp [errW_none, errW_some] <;> rfl)) | (simp [*, errW_none, errW_some] <;> rfl), zB HB⟩
           ·replace c31 := Bool.eq_false_iff.mpr c31; subst c31; rw [if_neg (show ¬ (false = true) by decide)] at H; obtain rfl := Option.some.inj H; exact absurd HR_.out (by decide)
          ·rw [if_neg c30] at H; have c30b0 : decide (t916 ≤ (t909.length : Int)) = false := decide_eq_false c30; clear c30; obtain rfl := Option.some.inj H; exact absurd HR_.out (by decide)
         ·rw [if_neg c28] at H; exact absurd H (by simp)
        ·rw [if_neg c27] at H; exact absurd H (by simp)
       ·rw [if_neg c25] at H; have c25b0 : decide (0 < t916) = false := decide_eq_false c25; clear c25
        by_cases c52 : t916 ≤ (t909.length : Int)
        ·rw [if_pos c52] at H; have c52b0 : decide (t916 ≤ (t909.length : Int)) = true := decide_eq_true c52; clear c52
         by_cases c53 : t928 = true
         ·subst c53; rw [if_pos rfl] at H; obtain rfl := Option.some.inj H
          try go_wp2
          replace HO_916000 := Aside0.mk (Kd.R_drew HO_916000.out); replace HO_916001 := Aside0.mk (Kd.R_drew HO_916001.out); replace BK915 := Aside0.mk (blk_drew BK915.out); replace HB := Aside0.mk (below_drew1 HB.out); refine start_ (n := 11) (S := fun w' => w'.cell? ⟨gb915, 0, none⟩ = some (.slice Ao8 t909.length co8) ∧ w'.cell? ⟨gb915, 1, none⟩ = some (.slice Ao10 t912.length co10)) (ds := []) #[false, false, false, false, false, false, false, false, false, false, false] (by kernel_rfl) rfl rfl ⟨(blk_cell BK915.out 0).trans rfl, (blk_cell BK915.out 1).trans rfl⟩ (fun hHeld => ?_); refine with_tabW laws_FnCountHoles.tab7 laws_FnCountHoles.bits7 (fun HT_ HW_ => ?_); generalize wc.drew = w54 at HO_916000 HO_916001 BK915 HB hHeld ⊢; refine pure_ (i := 1) (N := some 29) (v := ?_) (a' := ?_) #[false, true, false, false, false, false, false, false, false, false, false] rfl rfl (any_of HT_.out (by kernel_rfl)) (fun _ _ _ h => h) (Or.inl ⟨by rfl, ?_⟩) ?_ ?_; rotate_left
          ·intro w'; go_simp; with_reducible rfl
          rotate_left
          ·simp only [Act.put, List.setIfInBounds_toArray, List.set_cons_zero, List.set_cons_succ, i64_w, i32_w]; rfl
          refine take_ (i := 0) (N := some 28) (v := ?_) (a' := ?_) #[true, true, false, false, false, false, false, false, false, false, false] rfl rfl (take_ofW HT_.out HW_.out (by kernel_rfl)) (fun _ _ _ h => h) (Or.inl ⟨by rfl, ?_⟩) hHeld ?_ ?_; rotate_left
          ·rintro w' ⟨s0, s1⟩; go_simp; with_reducible rfl
          rotate_left
          ·simp only [Act.put, List.setIfInBounds_toArray, List.set_cons_zero, List.set_cons_succ, i64_w, i32_w]; rfl
          refine join_ (σ := Value × Value × Value × Nat) 2 #[true, true, true, true, true, true, true, true, true, false, false] (fun s_ => [(30, s_.1), (32, .tuple #[.agg #[s_.2.1, s_.2.2.1], .bool true]), (5, .pointer (some ⟨s_.2.2.2, 0, none⟩)), (31, .agg #[s_.1, .slice none 0 0]), (27, .tuple #[.agg #[s_.2.1, s_.2.2.1], .bool true]), (33, .agg #[s_.2.1, s_.2.2.1]), (34, .bool true)]) (fun s_ w' => (w'.cell? ⟨gb915, 0, none⟩ = some (.slice Ao8 t909.length co8) ∧ w'.cell? ⟨gb915, 1, none⟩ = some (.slice Ao10 t912.length co10)) ∧ (Kd.R (Kd.int .i64) 3 w' w.heap.size (fun k_ => some k_ ≠ (s_.2.1 : Value).ownBlock) s_.1 y919) ∧ (Kd.R (Kd.int .i64) 3 w' w.heap.size (fun k_ => some k_ ≠ (s_.1 : Value).ownBlock) s_.2.1 t922) ∧ (Kd.R k33 33 w' w.heap.size (fun k_ => some k_ ≠ (.slice Ao10 t912.length co10 : Value).ownBlock) s_.2.2.1 t925) ∧ (Kd.R k100 100 w' w.heap.size (fun _ => True) (.slice Ao8 t909.length co8) t909) ∧ (Kd.R k33 33 w' w.heap.size (fun k_ => some k_ ≠ (s_.2.2.1 : Value).ownBlock) (.slice Ao10 t912.length co10) t912) ∧ (w'.heap[gb915]? = some (.cells #[.slice Ao8 t909.length co8, .slice Ao10 t912.length co10] 49 (0, 0))) ∧ (w'.heap[s_.2.2.2]? = some (.cells #[.slice none 0 0, .slice none 0 0] 26 (0, 0))) ∧ (w.heap.size ≤ s_.2.2.2) ∧ (w.heap.size ≤ s_.2.2.2) ∧ (gb915 ≠ s_.2.2.2) ∧ (s_.2.2.2 ≠ gb915) ∧ (Below w.heap.size w w')) ?_ ?_; rotate_left
          ·intro hCont; refine two_ (i := 2) (j := 8) (Ni := some 30) (Nj := some 5) #[true, true, true, false, false, false, false, false, false, false, false] #[true, true, false, false, false, false, false, false, true, false, false] rfl rfl rfl rfl (two_of HT_.out (by kernel_rfl)) (by decide) (by decide) (fun K hK => ?_) (fun K hK => ?_)
           ·skip
            refine Kd.R_make_step (Kd.int .i64) _ 3 (by rfl) (N := 30) rfl 23 _ _ rfl t916 rfl rfl Try.underlying23 (.int .i64 0) 8 info3 rfl (by decide) (by omega) 0 (ok := fun _ => True) (okp := fun _ => True) rfl (fun _ hk => hk) trivial (of_decide_eq_true za) (Nat.le_trans (Nat.mul_le_mul_right _ (of_decide_eq_true za : t916.toNat ≤ 35184372088832)) (by omega)) (Below.refl _ _) (Nat.le_refl _) ?_; intro v920 w55 ho56 hb hg_ hnew_; clear hg_ hnew_
            (first | rw [← Ny919.out] at ho56 | (simp only [Int.reduceToNat] at ho56; rw [← Ny919.out] at ho56))
            replace HO_916000 := Aside0.mk (Kd.R_below (zo HO_916000) hb); replace HO_916001 := Aside0.mk (Kd.R_below (zo HO_916001) hb); have HO921 := Aside0.mk (Kd.R_lower ho56 (below_size (zB HB))); replace BK915 := Aside0.mk (blk_below (g := gb915) (o := .cells #[.slice Ao8 t909.length co8, .slice Ao10 t912.length co10] 49 (0, 0)) (zb BK915) hb); replace HB := Aside0.mk (below_step (zB HB) hb); clear hb ho56; obtain ⟨Ao57, co57, eo57⟩ := Kd.R_slice HO921.out
            (first | subst eo57 | (injection eo57 with f1_ f2_ f3_; have f4_ := f1_.symm; have f5_ := f3_.symm; clear f1_ f2_ f3_; subst f4_; subst f5_))
            refine hK.out _ _ ⟨(blk_cell BK915.out 0).trans rfl, (blk_cell BK915.out 1).trans rfl⟩ (fun hHeld => ?_); clear hK K; refine norm_ (a' := ?_) ?_ ?_; rotate_left
            ·show Act.put _ (some 30) _ = _
             simp only [Act.put, List.setIfInBounds_toArray, List.set_cons_zero, List.set_cons_succ, i64_w, i32_w]; rfl
            refine pure_ (i := 3) (N := some 31) (v := ?_) (a' := ?_) #[true, true, true, true, false, false, false, false, false, false, false] rfl rfl (any_of HT_.out (by kernel_rfl)) (fun _ _ _ h => h) (Or.inl ⟨by rfl, ?_⟩) ?_ ?_; rotate_left
            ·intro w'; go_simp; with_reducible rfl
            rotate_left
            ·simp only [Act.put, List.setIfInBounds_toArray, List.set_cons_zero, List.set_cons_succ, i64_w, i32_w]; rfl
            refine two_ (i := 4) (j := 8) (Ni := some 32) (Nj := some 5) #[true, true, true, true, true, false, false, false, false, false, false] #[true, true, true, true, false, false, false, false, true, false, false] rfl rfl rfl rfl (two_of HT_.out (by kernel_rfl)) (by decide) (by decide) (fun K hK => ?_) (fun K hK => ?_)
            ·skip
             refine goes_ Try.func32 (by kernel_rfl) rfl #[.agg #[.slice Ao8 t909.length co8, .slice Ao10 t912.length co10], .agg #[.slice Ao57 y919.length co57, .slice none 0 0]] (by rfl) rfl rfl zl ?_; refine (impl_FillHoles.calls kj4 _ _ t909 _ _ t912 _ _ y919 _ _ ([] : List (S33)) t922 t925 true _ ?side1 ?side2 ?side3 ?side4 ?side5 ?side6 ?side7 ?side8 A24.out).mono ?_
             (case side1 => repeat (first | exact (Kd.R_reads' HO_916000.out).2.2 | (with_reducible refine Kd.C_alloc ?_ _) | (with_reducible refine Kd.C_drewN ?_ _) | (with_reducible refine Kd.C_drew ?_)))
             (case side2 => exact (Kd.R_reads' HO_916000.out).2.1)
             (case side3 => repeat (first | exact (Kd.R_reads' HO_916001.out).2.2 | (with_reducible refine Kd.C_alloc ?_ _) | (with_reducible refine Kd.C_drewN ?_ _) | (with_reducible refine Kd.C_drew ?_)))
             (case side4 => exact (Kd.R_reads' HO_916001.out).2.1)
             (case side5 => repeat (first | exact (Kd.R_reads' HO921.out).2.2 | (with_reducible refine Kd.C_alloc ?_ _) | (with_reducible refine Kd.C_drewN ?_ _) | (with_reducible refine Kd.C_drew ?_)))
             (case side6 => exact (Kd.R_reads' HO921.out).2.1)
             (case side7 => exact Kd.C_nil _ _)
             (case side8 => exact Nat.le_refl _)
             rintro e w58 ⟨v923, v926, rfl, ho0, ho1, hb⟩; refine ⟨_, rfl, ?_⟩; replace HO_916000 := Aside0.mk (Kd.R_below (zo HO_916000) hb); have HO924 := Aside0.mk (Kd.R_lower (Kd.R_new' ho0 (Kd.R_lt (zo HO921))) (below_size (zB HB))); replace HO921 := Aside0.mk (Kd.R_elder' (zo HO921) (Kd.R_base ho0) hb); have HO927 := Aside0.mk (Kd.R_lower (Kd.R_new' ho1 (Kd.R_lt (zo HO_916001))) (below_size (zB HB))); replace HO_916001 := Aside0.mk (Kd.R_elder' (zo HO_916001) (Kd.R_base ho1) hb); replace BK915 := Aside0.mk (blk_below (g := gb915) (o := .cells #[.slice Ao8 t909.length co8, .slice Ao10 t912.length co10] 49 (0, 0)) (zb BK915) hb); replace HB := Aside0.mk (below_step (zB HB) hb); (try clear hb); (try clear hb2); (try clear hk); (try clear hi); (try clear ho0); (try clear ho1); refine hK.out _ _ ⟨(blk_cell BK915.out 0).trans rfl, (blk_cell BK915.out 1).trans rfl⟩ (fun hHeld => ?_); clear hK K; refine norm_ (a' := ?_) ?_ ?_; rotate_left
             ·show Act.put _ (some 32) _ = _
              simp only [Act.put, List.setIfInBounds_toArray, List.set_cons_zero, List.set_cons_succ, i64_w, i32_w]; rfl
             refine pure_ (i := 5) (N := some 27) (v := ?_) (a' := ?_) #[true, true, true, true, true, true, false, false, false, false, false] rfl rfl (any_of HT_.out (by kernel_rfl)) (fun _ _ _ h => h) (Or.inl ⟨by rfl, ?_⟩) ?_ ?_; rotate_left
             ·intro w'; go_simp; with_reducible rfl
             rotate_left
             ·simp only [Act.put, List.setIfInBounds_toArray, List.set_cons_zero, List.set_cons_succ, i64_w, i32_w]; rfl
             refine pure_ (i := 6) (N := some 33) (v := ?_) (a' := ?_) #[true, true, true, true, true, true, true, false, false, false, false] rfl rfl (any_of HT_.out (by kernel_rfl)) (fun _ _ _ h => h) (Or.inl ⟨by rfl, ?_⟩) ?_ ?_; rotate_left
             ·intro w'; go_simp; with_reducible rfl
             rotate_left
             ·simp only [Act.put, List.setIfInBounds_toArray, List.set_cons_zero, List.set_cons_succ, i64_w, i32_w]; rfl
             refine pure_ (i := 7) (N := some 34) (v := ?_) (a' := ?_) #[true, true, true, true, true, true, true, true, false, false, false] rfl rfl (any_of HT_.out (by kernel_rfl)) (fun _ _ _ h => h) (Or.inl ⟨by rfl, ?_⟩) ?_ ?_; rotate_left
             ·intro w'; go_simp; with_reducible rfl
             rotate_left
             ·simp only [Act.put, List.setIfInBounds_toArray, List.set_cons_zero, List.set_cons_succ, i64_w, i32_w]; rfl
             refine one_ (i := 8) (N := some 5) #[true, true, true, true, true, true, true, true, true, false, false] rfl rfl (one_of HT_.out (by kernel_rfl)) (by decide) (fun K hK => ?_); refine box_step ?hg (N := 5) ?hd (cs := #[.slice none 0 0, .slice none 0 0]) (t := 26) ?hr ?_; (case hd => rfl); (case hg => rfl); (case hr => first | (go_simp; done) | (go_simp; rfl)); intro gb929 hg w59 hbox hb; replace HO_916000 := Aside0.mk (Kd.R_below (zo HO_916000) hb); replace HO_916001 := Aside0.mk (Kd.R_below (zo HO_916001) hb); replace HO921 := Aside0.mk (Kd.R_below (zo HO921) hb); replace HO924 := Aside0.mk (Kd.R_below (zo HO924) hb); replace HO927 := Aside0.mk (Kd.R_below (zo HO927) hb); have BK929 := Aside0.mk (hbox); have GW929 := Aside0.mk ((by rw [hg]; exact (below_size (zB HB)) : w.heap.size ≤ gb929)); have GE929 := GW929; replace HB := Aside0.mk (below_step (zB HB) hb); have NB915_929 := Aside0.mk ((by rw [hg]; exact Nat.ne_of_lt (blk_lt (g := gb915) (o := .cells #[.slice Ao8 t909.length co8, .slice Ao10 t912.length co10] 49 (0, 0)) (zb BK915)) : gb915 ≠ gb929)); have NB929_915 := Aside0.mk NB915_929.out.symm; replace BK915 := Aside0.mk (blk_below (g := gb915) (o := .cells #[.slice Ao8 t909.length co8, .slice Ao10 t912.length co10] 49 (0, 0)) (zb BK915) hb); clear hb hbox hg; refine hK.out _ _ ⟨(blk_cell BK915.out 0).trans rfl, (blk_cell BK915.out 1).trans rfl⟩ (fun hHeld => ?_); clear hK K; refine norm_ (a' := ?_) ?_ ?_; rotate_left
             ·show Act.put _ (some 5) _ = _
              simp only [Act.put, List.setIfInBounds_toArray, List.set_cons_zero, List.set_cons_succ, i64_w, i32_w]; rfl
             exact norm_ zn (hCont (.slice Ao57 y919.length co57, v923, v926, gb929) _ ⟨hHeld, (zmR HO921 (fun _ hk => hk.2)), (zmR HO924 (fun _ hk => hk.2)), (zmR HO927 (fun _ hk => hk.2)), (zo HO_916000), (zmR HO_916001 (fun _ hk => hk.2)), (zb BK915), (zb BK929), GW929.out, GE929.out, NB915_929.out, NB929_915.out, (zB HB)⟩)
            ·skip
             refine box_step ?hg (N := 5) ?hd (cs := #[.slice none 0 0, .slice none 0 0]) (t := 26) ?hr ?_; (case hd => rfl); (case hg => rfl); (case hr => first | (go_simp; done) | (go_simp; rfl)); intro gb929 hg w58 hbox hb; replace HO_916000 := Aside0.mk (Kd.R_below (zo HO_916000) hb); replace HO_916001 := Aside0.mk (Kd.R_below (zo HO_916001) hb); replace HO921 := Aside0.mk (Kd.R_below (zo HO921) hb); have BK929 := Aside0.mk (hbox); have GW929 := Aside0.mk ((by rw [hg]; exact (below_size (zB HB)) : w.heap.size ≤ gb929)); have GE929 := GW929; replace HB := Aside0.mk (below_step (zB HB) hb); have NB915_929 := Aside0.mk ((by rw [hg]; exact Nat.ne_of_lt (blk_lt (g := gb915) (o := .cells #[.slice Ao8 t909.length co8, .slice Ao10 t912.length co10] 49 (0, 0)) (zb BK915)) : gb915 ≠ gb929)); have NB929_915 := Aside0.mk NB915_929.out.symm; replace BK915 := Aside0.mk (blk_below (g := gb915) (o := .cells #[.slice Ao8 t909.length co8, .slice Ao10 t912.length co10] 49 (0, 0)) (zb BK915) hb); clear hb hbox hg; refine hK.out _ _ ⟨(blk_cell BK915.out 0).trans rfl, (blk_cell BK915.out 1).trans rfl⟩ (fun hHeld => ?_); clear hK K; refine norm_ (a' := ?_) ?_ ?_; rotate_left
             ·show Act.put _ (some 5) _ = _
              simp only [Act.put, List.setIfInBounds_toArray, List.set_cons_zero, List.set_cons_succ, i64_w, i32_w]; rfl
             refine one_ (i := 4) (N := some 32) #[true, true, true, true, true, false, false, false, true, false, false] rfl rfl (one_of HT_.out (by kernel_rfl)) (by decide) (fun K hK => ?_); refine goes_ Try.func32 (by kernel_rfl) rfl #[.agg #[.slice Ao8 t909.length co8, .slice Ao10 t912.length co10], .agg #[.slice Ao57 y919.length co57, .slice none 0 0]] (by rfl) rfl rfl zl ?_; refine (impl_FillHoles.calls kj4 _ _ t909 _ _ t912 _ _ y919 _ _ ([] : List (S33)) t922 t925 true _ ?side1 ?side2 ?side3 ?side4 ?side5 ?side6 ?side7 ?side8 A24.out).mono ?_
             (case side1 => repeat (first | exact (Kd.R_reads' HO_916000.out).2.2 | (with_reducible refine Kd.C_alloc ?_ _) | (with_reducible refine Kd.C_drewN ?_ _) | (with_reducible refine Kd.C_drew ?_)))
             (case side2 => exact (Kd.R_reads' HO_916000.out).2.1)
             (case side3 => repeat (first | exact (Kd.R_reads' HO_916001.out).2.2 | (with_reducible refine Kd.C_alloc ?_ _) | (with_reducible refine Kd.C_drewN ?_ _) | (with_reducible refine Kd.C_drew ?_)))
             (case side4 => exact (Kd.R_reads' HO_916001.out).2.1)
             (case side5 => repeat (first | exact (Kd.R_reads' HO921.out).2.2 | (with_reducible refine Kd.C_alloc ?_ _) | (with_reducible refine Kd.C_drewN ?_ _) | (with_reducible refine Kd.C_drew ?_)))
             (case side6 => exact (Kd.R_reads' HO921.out).2.1)
             (case side7 => exact Kd.C_nil _ _)
             (case side8 => exact Nat.le_refl _)
             rintro e w59 ⟨v923, v926, rfl, ho0, ho1, hb⟩; refine ⟨_, rfl, ?_⟩; replace HO_916000 := Aside0.mk (Kd.R_below (zo HO_916000) hb); have HO924 := Aside0.mk (Kd.R_lower (Kd.R_new' ho0 (Kd.R_lt (zo HO921))) (below_size (zB HB))); replace HO921 := Aside0.mk (Kd.R_elder' (zo HO921) (Kd.R_base ho0) hb); have HO927 := Aside0.mk (Kd.R_lower (Kd.R_new' ho1 (Kd.R_lt (zo HO_916001))) (below_size (zB HB))); replace HO_916001 := Aside0.mk (Kd.R_elder' (zo HO_916001) (Kd.R_base ho1) hb); replace BK915 := Aside0.mk (blk_below (g := gb915) (o := .cells #[.slice Ao8 t909.length co8, .slice Ao10 t912.length co10] 49 (0, 0)) (zb BK915) hb); replace BK929 := Aside0.mk (blk_below (g := gb929) (o := .cells #[.slice none 0 0, .slice none 0 0] 26 (0, 0)) (zb BK929) hb); replace HB := Aside0.mk (below_step (zB HB) hb); (try clear hb); (try clear hb2); (try clear hk); (try clear hi); (try clear ho0); (try clear ho1); refine hK.out _ _ ⟨(blk_cell BK915.out 0).trans rfl, (blk_cell BK915.out 1).trans rfl⟩ (fun hHeld => ?_); clear hK K; refine norm_ (a' := ?_) ?_ ?_; rotate_left
             ·show Act.put _ (some 32) _ = _
              simp only [Act.put, List.setIfInBounds_toArray, List.set_cons_zero, List.set_cons_succ, i64_w, i32_w]; rfl
             refine pure_ (i := 5) (N := some 27) (v := ?_) (a' := ?_) #[true, true, true, true, true, true, false, false, true, false, false] rfl rfl (any_of HT_.out (by kernel_rfl)) (fun _ _ _ h => h) (Or.inl ⟨by rfl, ?_⟩) ?_ ?_; rotate_left
             ·intro w'; go_simp; with_reducible rfl
             rotate_left
             ·simp only [Act.put, List.setIfInBounds_toArray, List.set_cons_zero, List.set_cons_succ, i64_w, i32_w]; rfl
             refine pure_ (i := 6) (N := some 33) (v := ?_) (a' := ?_) #[true, true, true, true, true, true, true, false, true, false, false] rfl rfl (any_of HT_.out (by kernel_rfl)) (fun _ _ _ h => h) (Or.inl ⟨by rfl, ?_⟩) ?_ ?_; rotate_left
             ·intro w'; go_simp; with_reducible rfl
             rotate_left
             ·simp only [Act.put, List.setIfInBounds_toArray, List.set_cons_zero, List.set_cons_succ, i64_w, i32_w]; rfl
             refine pure_ (i := 7) (N := some 34) (v := ?_) (a' := ?_) #[true, true, true, true, true, true, true, true, true, false, false] rfl rfl (any_of HT_.out (by kernel_rfl)) (fun _ _ _ h => h) (Or.inl ⟨by rfl, ?_⟩) ?_ ?_; rotate_left
             ·intro w'; go_simp; with_reducible rfl
             rotate_left
             ·simp only [Act.put, List.setIfInBounds_toArray, List.set_cons_zero, List.set_cons_succ, i64_w, i32_w]; rfl
             exact norm_ zn (hCont (.slice Ao57 y919.length co57, v923, v926, gb929) _ ⟨hHeld, (zmR HO921 (fun _ hk => hk.2)), (zmR HO924 (fun _ hk => hk.2)), (zmR HO927 (fun _ hk => hk.2)), (zo HO_916000), (zmR HO_916001 (fun _ hk => hk.2)), (zb BK915), (zb BK929), GW929.out, GE929.out, NB915_929.out, NB929_915.out, (zB HB)⟩)
           ·skip
            refine box_step ?hg (N := 5) ?hd (cs := #[.slice none 0 0, .slice none 0 0]) (t := 26) ?hr ?_; (case hd => rfl); (case hg => rfl); (case hr => first | (go_simp; done) | (go_simp; rfl)); intro gb929 hg w55 hbox hb; replace HO_916000 := Aside0.mk (Kd.R_below (zo HO_916000) hb); replace HO_916001 := Aside0.mk (Kd.R_below (zo HO_916001) hb); have BK929 := Aside0.mk (hbox); have GW929 := Aside0.mk ((by rw [hg]; exact (below_size (zB HB)) : w.heap.size ≤ gb929)); have GE929 := GW929; replace HB := Aside0.mk (below_step (zB HB) hb); have NB915_929 := Aside0.mk ((by rw [hg]; exact Nat.ne_of_lt (blk_lt (g := gb915) (o := .cells #[.slice Ao8 t909.length co8, .slice Ao10 t912.length co10] 49 (0, 0)) (zb BK915)) : gb915 ≠ gb929)); have NB929_915 := Aside0.mk NB915_929.out.symm; replace BK915 := Aside0.mk (blk_below (g := gb915) (o := .cells #[.slice Ao8 t909.length co8, .slice Ao10 t912.length co10] 49 (0, 0)) (zb BK915) hb); clear hb hbox hg; refine hK.out _ _ ⟨(blk_cell BK915.out 0).trans rfl, (blk_cell BK915.out 1).trans rfl⟩ (fun hHeld => ?_); clear hK K; refine norm_ (a' := ?_) ?_ ?_; rotate_left
            ·show Act.put _ (some 5) _ = _
             simp only [Act.put, List.setIfInBounds_toArray, List.set_cons_zero, List.set_cons_succ, i64_w, i32_w]; rfl
            refine one_ (i := 2) (N := some 30) #[true, true, true, false, false, false, false, false, true, false, false] rfl rfl (one_of HT_.out (by kernel_rfl)) (by decide) (fun K hK => ?_); refine Kd.R_make_step (Kd.int .i64) _ 3 (by rfl) (N := 30) rfl 23 _ _ rfl t916 rfl rfl Try.underlying23 (.int .i64 0) 8 info3 rfl (by decide) (by omega) 0 (ok := fun _ => True) (okp := fun _ => True) rfl (fun _ hk => hk) trivial (of_decide_eq_true za) (Nat.le_trans (Nat.mul_le_mul_right _ (of_decide_eq_true za : t916.toNat ≤ 35184372088832)) (by omega)) (Below.refl _ _) (Nat.le_refl _) ?_; intro v920 w56 ho57 hb hg_ hnew_; clear hg_ hnew_
            (first | rw [← Ny919.out] at ho57 | (simp only [Int.reduceToNat] at ho57; rw [← Ny919.out] at ho57))
            replace HO_916000 := Aside0.mk (Kd.R_below (zo HO_916000) hb); replace HO_916001 := Aside0.mk (Kd.R_below (zo HO_916001) hb); have HO921 := Aside0.mk (Kd.R_lower ho57 (below_size (zB HB))); replace BK915 := Aside0.mk (blk_below (g := gb915) (o := .cells #[.slice Ao8 t909.length co8, .slice Ao10 t912.length co10] 49 (0, 0)) (zb BK915) hb); replace BK929 := Aside0.mk (blk_below (g := gb929) (o := .cells #[.slice none 0 0, .slice none 0 0] 26 (0, 0)) (zb BK929) hb); replace HB := Aside0.mk (below_step (zB HB) hb); clear hb ho57; obtain ⟨Ao58, co58, eo58⟩ := Kd.R_slice HO921.out
            (first | subst eo58 | (injection eo58 with f1_ f2_ f3_; have f4_ := f1_.symm; have f5_ := f3_.symm; clear f1_ f2_ f3_; subst f4_; subst f5_))
            refine hK.out _ _ ⟨(blk_cell BK915.out 0).trans rfl, (blk_cell BK915.out 1).trans rfl⟩ (fun hHeld => ?_); clear hK K; refine norm_ (a' := ?_) ?_ ?_; rotate_left
            ·show Act.put _ (some 30) _ = _
             simp only [Act.put, List.setIfInBounds_toArray, List.set_cons_zero, List.set_cons_succ, i64_w, i32_w]; rfl
            refine pure_ (i := 3) (N := some 31) (v := ?_) (a' := ?_) #[true, true, true, true, false, false, false, false, true, false, false] rfl rfl (any_of HT_.out (by kernel_rfl)) (fun _ _ _ h => h) (Or.inl ⟨by rfl, ?_⟩) ?_ ?_; rotate_left
            ·intro w'; go_simp; with_reducible rfl
            rotate_left
            ·simp only [Act.put, List.setIfInBounds_toArray, List.set_cons_zero, List.set_cons_succ, i64_w, i32_w]; rfl
            refine one_ (i := 4) (N := some 32) #[true, true, true, true, true, false, false, false, true, false, false] rfl rfl (one_of HT_.out (by kernel_rfl)) (by decide) (fun K hK => ?_); refine goes_ Try.func32 (by kernel_rfl) rfl #[.agg #[.slice Ao8 t909.length co8, .slice Ao10 t912.length co10], .agg #[.slice Ao58 y919.length co58, .slice none 0 0]] (by rfl) rfl rfl zl ?_; refine (impl_FillHoles.calls kj4 _ _ t909 _ _ t912 _ _ y919 _ _ ([] : List (S33)) t922 t925 true _ ?side1 ?side2 ?side3 ?side4 ?side5 ?side6 ?side7 ?side8 A24.out).mono ?_
            (case side1 => repeat (first | exact (Kd.R_reads' HO_916000.out).2.2 | (with_reducible refine Kd.C_alloc ?_ _) | (with_reducible refine Kd.C_drewN ?_ _) | (with_reducible refine Kd.C_drew ?_)))
            (case side2 => exact (Kd.R_reads' HO_916000.out).2.1)
            (case side3 => repeat (first | exact (Kd.R_reads' HO_916001.out).2.2 | (with_reducible refine Kd.C_alloc ?_ _) | (with_reducible refine Kd.C_drewN ?_ _) | (with_reducible refine Kd.C_drew ?_)))
            (case side4 => exact (Kd.R_reads' HO_916001.out).2.1)
            (case side5 => repeat (first | exact (Kd.R_reads' HO921.out).2.2 | (with_reducible refine Kd.C_alloc ?_ _) | (with_reducible refine Kd.C_drewN ?_ _) | (with_reducible refine Kd.C_drew ?_)))
            (case side6 => exact (Kd.R_reads' HO921.out).2.1)
            (case side7 => exact Kd.C_nil _ _)
            (case side8 => exact Nat.le_refl _)
            rintro e w59 ⟨v923, v926, rfl, ho0, ho1, hb⟩; refine ⟨_, rfl, ?_⟩; replace HO_916000 := Aside0.mk (Kd.R_below (zo HO_916000) hb); have HO924 := Aside0.mk (Kd.R_lower (Kd.R_new' ho0 (Kd.R_lt (zo HO921))) (below_size (zB HB))); replace HO921 := Aside0.mk (Kd.R_elder' (zo HO921) (Kd.R_base ho0) hb); have HO927 := Aside0.mk (Kd.R_lower (Kd.R_new' ho1 (Kd.R_lt (zo HO_916001))) (below_size (zB HB))); replace HO_916001 := Aside0.mk (Kd.R_elder' (zo HO_916001) (Kd.R_base ho1) hb); replace BK915 := Aside0.mk (blk_below (g := gb915) (o := .cells #[.slice Ao8 t909.length co8, .slice Ao10 t912.length co10] 49 (0, 0)) (zb BK915) hb); replace BK929 := Aside0.mk (blk_below (g := gb929) (o := .cells #[.slice none 0 0, .slice none 0 0] 26 (0, 0)) (zb BK929) hb); replace HB := Aside0.mk (below_step (zB HB) hb); (try clear hb); (try clear hb2); (try clear hk); (try clear hi); (try clear ho0); (try clear ho1); refine hK.out _ _ ⟨(blk_cell BK915.out 0).trans rfl, (blk_cell BK915.out 1).trans rfl⟩ (fun hHeld => ?_); clear hK K; refine norm_ (a' := ?_) ?_ ?_; rotate_left
            ·show Act.put _ (some 32) _ = _
             simp only [Act.put, List.setIfInBounds_toArray, List.set_cons_zero, List.set_cons_succ, i64_w, i32_w]; rfl
            refine pure_ (i := 5) (N := some 27) (v := ?_) (a' := ?_) #[true, true, true, true, true, true, false, false, true, false, false] rfl rfl (any_of HT_.out (by kernel_rfl)) (fun _ _ _ h => h) (Or.inl ⟨by rfl, ?_⟩) ?_ ?_; rotate_left
            ·intro w'; go_simp; with_reducible rfl
            rotate_left
            ·simp only [Act.put, List.setIfInBounds_toArray, List.set_cons_zero, List.set_cons_succ, i64_w, i32_w]; rfl
            refine pure_ (i := 6) (N := some 33) (v := ?_) (a' := ?_) #[true, true, true, true, true, true, true, false, true, false, false] rfl rfl (any_of HT_.out (by kernel_rfl)) (fun _ _ _ h => h) (Or.inl ⟨by rfl, ?_⟩) ?_ ?_; rotate_left
            ·intro w'; go_simp; with_reducible rfl
            rotate_left
            ·simp only [Act.put, List.setIfInBounds_toArray, List.set_cons_zero, List.set_cons_succ, i64_w, i32_w]; rfl
            refine pure_ (i := 7) (N := some 34) (v := ?_) (a' := ?_) #[true, true, true, true, true, true, true, true, true, false, false] rfl rfl (any_of HT_.out (by kernel_rfl)) (fun _ _ _ h => h) (Or.inl ⟨by rfl, ?_⟩) ?_ ?_; rotate_left
            ·intro w'; go_simp; with_reducible rfl
            rotate_left
            ·simp only [Act.put, List.setIfInBounds_toArray, List.set_cons_zero, List.set_cons_succ, i64_w, i32_w]; rfl
            exact norm_ zn (hCont (.slice Ao58 y919.length co58, v923, v926, gb929) _ ⟨hHeld, (zmR HO921 (fun _ hk => hk.2)), (zmR HO924 (fun _ hk => hk.2)), (zmR HO927 (fun _ hk => hk.2)), (zo HO_916000), (zmR HO_916001 (fun _ hk => hk.2)), (zb BK915), (zb BK929), GW929.out, GE929.out, NB915_929.out, NB929_915.out, (zB HB)⟩)
          rintro ⟨v920, v923, v926, gb929⟩ w60 ⟨hS_, h0_, h1_, h2_, h3_, h4_, h5_, h6_, h7_, h8_, h9_, h10_, h11_⟩; have n0_ : Aside0 (Kd.R (Kd.int .i64) 3 w60 w.heap.size (fun k_ => some k_ ≠ (v923 : Value).ownBlock) v920 y919) := ⟨h0_⟩
          have n1_ : Aside0 (Kd.R (Kd.int .i64) 3 w60 w.heap.size (fun k_ => some k_ ≠ (v920 : Value).ownBlock) v923 t922) := ⟨h1_⟩
          have n2_ : Aside0 (Kd.R k33 33 w60 w.heap.size (fun k_ => some k_ ≠ (.slice Ao10 t912.length co10 : Value).ownBlock) v926 t925) := ⟨h2_⟩
          have n3_ : Aside0 (Kd.R k100 100 w60 w.heap.size (fun _ => True) (.slice Ao8 t909.length co8) t909) := ⟨h3_⟩
          have n4_ : Aside0 (Kd.R k33 33 w60 w.heap.size (fun k_ => some k_ ≠ (v926 : Value).ownBlock) (.slice Ao10 t912.length co10) t912) := ⟨h4_⟩
          have n5_ : Aside0 (w60.heap[gb915]? = some (.cells #[.slice Ao8 t909.length co8, .slice Ao10 t912.length co10] 49 (0, 0))) := ⟨h5_⟩
          have n6_ : Aside0 (w60.heap[gb929]? = some (.cells #[.slice none 0 0, .slice none 0 0] 26 (0, 0))) := ⟨h6_⟩
          have n7_ : Aside0 (w.heap.size ≤ gb929) := ⟨h7_⟩
          have n8_ : Aside0 (w.heap.size ≤ gb929) := ⟨h8_⟩
          have n9_ : Aside0 (gb915 ≠ gb929) := ⟨h9_⟩
          have n10_ : Aside0 (gb929 ≠ gb915) := ⟨h10_⟩
          have n11_ : Aside0 (Below w.heap.size w w60) := ⟨h11_⟩
          clear HO_916000; clear HO_916001; clear BK915; clear HB; clear h0_ h1_ h2_ h3_ h4_ h5_ h6_ h7_ h8_ h9_ h10_ h11_; have HO921 := n0_; have HO924 := n1_; have HO927 := n2_; have HO_916000 := n3_; have HO_916001 := n4_; have BK915 := n5_; have BK929 := n6_; have GW929 := n7_; have GE929 := n8_; have NB915_929 := n9_; have NB929_915 := n10_; have HB := n11_; clear n0_ n1_ n2_ n3_ n4_ n5_ n6_ n7_ n8_ n9_ n10_ n11_; have hHeld : w60.cell? ⟨gb915, 0, none⟩ = some (.slice Ao8 t909.length co8) ∧ w60.cell? ⟨gb915, 1, none⟩ = some (.slice Ao10 t912.length co10) := hS_; obtain ⟨Ao61, co61, eo61⟩ := Kd.R_slice HO921.out
          (first | subst eo61 | (injection eo61 with f1_ f2_ f3_; have f4_ := f1_.symm; have f5_ := f3_.symm; clear f1_ f2_ f3_; subst f4_; subst f5_))
          obtain ⟨Ao62, co62, eo62⟩ := Kd.R_slice HO924.out
          (first | subst eo62 | (injection eo62 with f1_ f2_ f3_; have f4_ := f1_.symm; have f5_ := f3_.symm; clear f1_ f2_ f3_; subst f4_; subst f5_))
          obtain ⟨Ao64, co64, eo64⟩ := Kd.R_slice HO927.out
          (first | subst eo64 | (injection eo64 with f1_ f2_ f3_; have f4_ := f1_.symm; have f5_ := f3_.symm; clear f1_ f2_ f3_; subst f4_; subst f5_))
          refine norm_ (a' := ?_) ?_ ?_; rotate_left
          ·simp only [putAll, Act.put, List.setIfInBounds_toArray, List.set_cons_zero, List.set_cons_succ]; rfl
          refine one_ (i := 9) (N := none) #[true, true, true, true, true, true, true, true, true, true, false] rfl rfl (one_of HT_.out (by kernel_rfl)) (by decide) (fun K hK => ?_); have hs63 : w60.cell? ⟨gb929, 0, none⟩ = some (.slice none 0 0) := (blk_cell BK929.out 0).trans rfl; have hfs63 := blk_frozen BK929.out 0; have hns63_0 := NB915_929.out; have hms63_0 := NB929_915.out; have hs65 : w60.cell? ⟨gb929, 1, none⟩ = some (.slice none 0 0) := (blk_cell BK929.out 1).trans rfl; have hfs65 := blk_frozen BK929.out 1; have hns65_0 := NB915_929.out; have hms65_0 := NB929_915.out; refine skip_ (w1 := ?_) (by rfl) rfl ?_ ?_; rotate_left
          ·go_simp; rfl
          refine hK.out _ _ ⟨((cell_far (p := ⟨gb929, _, none⟩) NB915_929.out _).trans (((cell_far (p := ⟨gb929, _, none⟩) NB915_929.out _).trans (hHeld.1)))), ((cell_far (p := ⟨gb929, _, none⟩) NB915_929.out _).trans (((cell_far (p := ⟨gb929, _, none⟩) NB915_929.out _).trans (hHeld.2))))⟩ (fun hHeld => ?_); clear hK K; refine pure_ (i := 10) (N := some 6) (v := ?_) (a' := ?_) #[true, true, true, true, true, true, true, true, true, true, true] rfl rfl (any_of HT_.out (by kernel_rfl)) (fun _ _ _ h => h) (Or.inl ⟨by rfl, ?_⟩) ?_ ?_; rotate_left
          ·intro w'; go_simp; with_reducible rfl
          rotate_left
          ·simp only [Act.put, List.setIfInBounds_toArray, List.set_cons_zero, List.set_cons_succ, i64_w, i32_w]; rfl
          refine done_ (done_of HT_.out (by kernel_rfl)) ?_; have hnb66 := NB915_929.out; have hnc66 := NB929_915.out; have hcz67_0 : w60.cell? ⟨gb915, 0, none⟩ = some (.slice Ao8 t909.length co8) := (blk_cell BK915.out 0).trans rfl; have hcz67_1 : w60.cell? ⟨gb915, 1, none⟩ = some (.slice Ao10 t912.length co10) := (blk_cell BK915.out 1).trans rfl; have hfz67_0 := blk_frozen BK915.out 0; have hfz67_1 := blk_frozen BK915.out 1
          try go_wp2
          go_ret; exact ⟨by first | rfl | (simp [errW_none, errW_some] <;> rfl) | (simp [*, errW_none, errW_some] <;> rfl), zB HB⟩
         ·replace c53 := Bool.eq_false_iff.mpr c53; subst c53; rw [if_neg (show ¬ (false = true) by decide)] at H; obtain rfl := Option.some.inj H; exact absurd HR_.out (by decide)
        ·rw [if_neg c52] at H; have c52b0 : decide (t916 ≤ (t909.length : Int)) = false := decide_eq_false c52; clear c52; obtain rfl := Option.some.inj H; exact absurd HR_.out (by decide)
      ·rw [if_neg c23] at H; exact absurd H (by simp)
     ·rw [if_neg c22] at H; exact absurd H (by simp)

/-- THE ONE PURE STATEMENT of laws_FnCountHoles: yours. -/
def laws_FnCountHoles.Pure : Prop := ∀ (l0 : List Int), l0.length ≤ maxLen → l0.length * 1 ≤ 140737488351232 → (∀ x ∈ l0, (Lit.int .u8 x).wf = true) → ∃ k, laws_FnCountHoles.f k l0 = some true
theorem laws_FnCountHoles.walk (P : laws_FnCountHoles.Pure) (a0 : Option Addr) (len0 cap0 : Nat) (z0 : List Int) (w : World) (w0 : (a0 = none ∧ len0 = 0 ∧ cap0 = 0 ∧ z0 = []) ∨ ∃ x, a0 = some x ∧ len0 ≤ cap0 ∧ cap0 ≤ maxLen ∧ z0.length = cap0 ∧ (∀ i, i < z0.length → w.cell? (x.add i) = some (.int .u8 (z0.getD i 0))) ∧ ∀ n ∈ z0, (Lit.int .u8 n).wf = true) (y0 : len0 * 1 ≤ 140737488351232) :
  Calls Try.prog 7 #[.slice a0 len0 cap0] w fun e w' => e = .returned (.bool true) ∧ Below w.heap.size w w' := by
 obtain ⟨l0, rfl, hr0, hm0, hw0, hc0⟩ := ReadsInt.ofRowC w0; obtain ⟨k, h⟩ := P l0 hm0 y0 hw0; refine (laws_FnCountHoles.calls k _ _ l0 true w (Kd.C_of_reads (d := (0 : Int)) (h1 := fun _ => rfl) hr0) hc0 h rfl).mono ?_; rintro e w' ⟨rfl, hd⟩; exact ⟨rfl, hd⟩

end Go.Proofs.Ytfcpbgedgedalaa.Q
