-- written by px.py and merge.py (programs of this claim's), over the kit's print. Not trusted: Lean checks it.
import Derived.Test.YtlpmggokgcphiaaQ0
import Derived.Test.YtlpmggokgcphiaaM2FnExactSetDefault
import Derived.Test.YtlpmggokgcphiaaM1FnExactSetDefault
namespace Go.Proofs.Ytlpmggokgcphiaa.Q
open Go.RowKit Go.Proofs.YtlpmggokgcphiaaL.PrintWords Go.Proofs.YtlpmggokgcphiaaL.PrintLast Go.Proofs.YtlpmggokgcphiaaL.PrintMore
attribute [local go_sem] max2_int min2_int max_two min_two max_three min_three max_four min_four   -- for this text's walks alone
set_option linter.unusedVariables false
set_option linter.unusedSimpArgs false

/-! ### spec_checkedSignature: function 69 -/
def spec_checkedSignature.f (k : Nat) (l0 : List (S33)) : Option ((List (S33)) × Bool) := (spec_validParams.f k l0).bind fun t419 => (if t419 = true then (some (l0, true)) else (some (([] : List (S33)), false)))
theorem spec_checkedSignature.mono : ∀ a0 k, LeO (spec_checkedSignature.f k a0) (spec_checkedSignature.f (k + 1) a0) := by
 intro a0 k; unfold spec_checkedSignature.f
 repeat' first
   | (with_reducible exact spec_validParams.mono _ _)
   | (with_reducible exact LeO.refl _)
   | (with_reducible exact LeO.none _)
   | (with_reducible refine LeO.ite ?_ ?_)
   | (with_reducible refine LeO.bind ?_ (fun _ => ?_))
   | exact spec_validParams.mono _ _
   | exact LeO.none _
   | refine LeO.ite ?_ ?_
   | refine LeO.bind ?_ (fun _ => ?_)
set_option maxHeartbeats 8000000 in
set_option maxRecDepth 100000 in
theorem spec_checkedSignature.calls (k : Nat) (P0_ : Nat → Prop) (u9000_ : Value) (l0 : List (S33)) (r1 : List (S33)) (r2 : Bool) (w0 w : World) (hB : Below w0.heap.size w0 w) (ho0 : Kd.R k33 33 w w0.heap.size P0_ u9000_ l0) (h : spec_checkedSignature.f k l0 = some (r1, r2)) :
  Calls Try.prog 69 #[u9000_] w fun e w' => ∃ v0_ : Value, e = .returned (.tuple #[.agg #[v0_], .bool r2]) ∧ Kd.R k33 33 w' w0.heap.size (fun k_ => (P0_ k_ ∨ w.heap.size ≤ k_)) v0_ r1 ∧ Below w0.heap.size w0 w' ∧ Kept w w' (fun k_ => P0_ k_) := by
 have hu25 := Try.underlying25; have HO0 := Aside0.mk (show Kd.R k33 33 w w0.heap.size (fun k_ => (P0_ k_ ∨ w.heap.size ≤ k_)) u9000_ l0 from Kd.R_mono ho0 (fun k_ hk => (.inl hk))); have HK := Aside0.mk (Kept.refl w (fun k_ => P0_ k_)); have HW0 := Aside0.mk hB.size; have HB := Aside0.mk hB; clear hB; have H : ((spec_validParams.f k l0).bind fun t419 => (if t419 = true then (some (l0, true)) else (some (([] : List (S33)), false)))) = some (r1, r2) := h; clear h; replace H := Option.bind_eq_some_iff.mp H; obtain ⟨t419, A20, H⟩ := H
 (try dsimp only at H)
 have A2 := Aside0.mk A20; clear A20
 by_cases c3 : t419 = true
 ·subst c3; rw [if_pos rfl] at H; simp only [Option.some.injEq, Prod.mk.injEq] at H; obtain ⟨rfl, rfl⟩ := H; go_enter Try.func69, Try.ntmps69; go_wp2_with (first | ((with_reducible refine gate_dst (N := 2) rfl ?_); refine zx (N := 2) (cs := #[.slice none 0 0]) (t := 25) ?_; intro gb418 hg w4 hbox hb; replace HO0 := Aside0.mk (Kd.R_below (zo HO0) hb); have BK418 := Aside0.mk (hbox); have GW418 := Aside0.mk ((by rw [hg]; exact (by first | exact HK.out.1 | exact (show Kept w _ (fun k_ => P0_ k_) from by repeat (first | (with_reducible first | exact HK.out | apply Kept.alloc | apply Kept.drewN | apply Kept.drew) | exact HK.out)).1) : w.heap.size ≤ gb418)); replace HK := Aside0.mk (Kept.below (S := (fun k_ => P0_ k_)) (by repeat (first | (with_reducible first | exact HK.out | apply Kept.alloc | apply Kept.drewN | apply Kept.drew) | exact HK.out)) hb); have GE418 := Aside0.mk ((by rw [hg]; exact (below_size (zB HB)) : w0.heap.size ≤ gb418)); replace HB := Aside0.mk (below_step (zB HB) hb); clear hb hbox hg; obtain ⟨Ao5, co5, eo5⟩ := Kd.R_slice HO0.out; subst eo5) | ((with_reducible refine gate_callee (f := 102) rfl ?_); refine goesL_ (some 5) rfl rfl Try.func102 (by kernel_rfl) rfl #[.slice Ao5 l0.length co5] rfl zl ?_; (with_reducible refine (spec_validParams.calls k _ _ l0 true _ ?side1 ?side2 A2.out).mono ?_); (case side1 => repeat (first | exact (Kd.R_reads' HO0.out).2.2 | (with_reducible refine Kd.C_alloc ?_ _) | (with_reducible refine Kd.C_drewN ?_ _) | (with_reducible refine Kd.C_drew ?_))); (case side2 => exact (Kd.R_reads' HO0.out).2.1); rintro e w6 ⟨rfl, hb⟩; refine ⟨_, rfl, ?_⟩; replace HO0 := Aside0.mk (Kd.R_below (zo HO0) hb); replace BK418 := Aside0.mk (blk_below (g := gb418) (o := .cells #[.slice none 0 0] 25 (0, 0)) (zb BK418) hb); replace HK := Aside0.mk (Kept.below (S := (fun k_ => P0_ k_)) (by repeat (first | (with_reducible first | exact HK.out | apply Kept.alloc | apply Kept.drewN | apply Kept.drew | refine Kept.setCell ?_ (.inr GW418.out) _) | exact HK.out)) hb); replace HB := Aside0.mk (below_step (zB HB) hb); (try clear hb); (try clear hb2); (try clear hk); (try clear hi); have hcz7_0 : w6.cell? ⟨gb418, 0, none⟩ = some (.slice none 0 0) := (blk_cell BK418.out 0).trans rfl; have hfz7_0 := blk_frozen BK418.out 0)); refine bodyPost_ret (results_ct rfl _ _ gb418 25 #[.slice Ao5 l0.length co5] (0, 0) _ rfl (by (with_reducible repeat (first | refine blk_drewN ?_ _ | refine blk_drew ?_ | refine blk_alloc ?_ _)); refine blk_put (cs := #[.slice none 0 0]) ?_ 0 _ rfl; (with_reducible repeat (first | refine blk_drewN ?_ _ | refine blk_drew ?_ | refine blk_alloc ?_ _)); exact BK418.out) Try.underlying25 rfl (by kernel_rfl)) rfl ?_; exact ⟨_, by first | rfl | (simp [errW_none, errW_some] <;> rfl) | (simp [*, errW_none, errW_some] <;> rfl), by (with_reducible repeat (first | apply Kd.R_alloc | apply Kd.R_drewN | apply Kd.R_drew)); exact Kd.R_mono (Kd.R_far (p := ⟨gb418, 0, none⟩) (Kd.R_types HO0.out BK418.out (by decide)) (fun _ hk => hk.2) (.slice Ao5 l0.length co5)) (fun _ hk => hk.1), by repeat (first | (with_reducible first | exact HB.out | apply below_alloc | apply pw_below_drewN | apply below_drew1 | refine below_set ?_ GE418.out) | exact HB.out), by repeat (first | (with_reducible first | exact HK.out | apply Kept.alloc | apply Kept.drewN | apply Kept.drew | refine Kept.setCell ?_ (.inr GW418.out) _) | exact HK.out)⟩
 ·replace c3 := Bool.eq_false_iff.mpr c3; subst c3; rw [if_neg (show ¬ (false = true) by decide)] at H; simp only [Option.some.injEq, Prod.mk.injEq] at H; obtain ⟨rfl, rfl⟩ := H; go_enter Try.func69, Try.ntmps69; go_wp2_with (first | ((with_reducible refine gate_dst (N := 2) rfl ?_); refine zx (N := 2) (cs := #[.slice none 0 0]) (t := 25) ?_; intro gb418 hg w8 hbox hb; replace HO0 := Aside0.mk (Kd.R_below (zo HO0) hb); have BK418 := Aside0.mk (hbox); have GW418 := Aside0.mk ((by rw [hg]; exact (by first | exact HK.out.1 | exact (show Kept w _ (fun k_ => P0_ k_) from by repeat (first | (with_reducible first | exact HK.out | apply Kept.alloc | apply Kept.drewN | apply Kept.drew) | exact HK.out)).1) : w.heap.size ≤ gb418)); replace HK := Aside0.mk (Kept.below (S := (fun k_ => P0_ k_)) (by repeat (first | (with_reducible first | exact HK.out | apply Kept.alloc | apply Kept.drewN | apply Kept.drew) | exact HK.out)) hb); have GE418 := Aside0.mk ((by rw [hg]; exact (below_size (zB HB)) : w0.heap.size ≤ gb418)); replace HB := Aside0.mk (below_step (zB HB) hb); clear hb hbox hg; obtain ⟨Ao9, co9, eo9⟩ := Kd.R_slice HO0.out; subst eo9) | ((with_reducible refine gate_callee (f := 102) rfl ?_); refine goesL_ (some 5) rfl rfl Try.func102 (by kernel_rfl) rfl #[.slice Ao9 l0.length co9] rfl zl ?_; (with_reducible refine (spec_validParams.calls k _ _ l0 false _ ?side1 ?side2 A2.out).mono ?_); (case side1 => repeat (first | exact (Kd.R_reads' HO0.out).2.2 | (with_reducible refine Kd.C_alloc ?_ _) | (with_reducible refine Kd.C_drewN ?_ _) | (with_reducible refine Kd.C_drew ?_))); (case side2 => exact (Kd.R_reads' HO0.out).2.1); rintro e w10 ⟨rfl, hb⟩; refine ⟨_, rfl, ?_⟩; replace HO0 := Aside0.mk (Kd.R_below (zo HO0) hb); replace BK418 := Aside0.mk (blk_below (g := gb418) (o := .cells #[.slice none 0 0] 25 (0, 0)) (zb BK418) hb); replace HK := Aside0.mk (Kept.below (S := (fun k_ => P0_ k_)) (by repeat (first | (with_reducible first | exact HK.out | apply Kept.alloc | apply Kept.drewN | apply Kept.drew | refine Kept.setCell ?_ (.inr GW418.out) _) | exact HK.out)) hb); replace HB := Aside0.mk (below_step (zB HB) hb); (try clear hb); (try clear hb2); (try clear hk); (try clear hi); have hcz11_0 : w10.cell? ⟨gb418, 0, none⟩ = some (.slice none 0 0) := (blk_cell BK418.out 0).trans rfl; have hfz11_0 := blk_frozen BK418.out 0)); refine bodyPost_ret (results_ct rfl _ _ gb418 25 #[.slice none 0 0] (0, 0) _ rfl (by (with_reducible repeat (first | refine blk_drewN ?_ _ | refine blk_drew ?_ | refine blk_alloc ?_ _)); refine blk_put (cs := #[.slice none 0 0]) ?_ 0 _ rfl; (with_reducible repeat (first | refine blk_drewN ?_ _ | refine blk_drew ?_ | refine blk_alloc ?_ _)); exact BK418.out) Try.underlying25 rfl (by kernel_rfl)) rfl ?_; exact ⟨_, by first | rfl | (simp [errW_none, errW_some] <;> rfl) | (simp [*, errW_none, errW_some] <;> rfl), by first | exact Kd.R_nil _ _ _ _ _ | exact Kd.N_nil _ _ _ _ _ | exact Kd.V_nil _ _ _ _ _ | exact Kd.Q_nil _ _ _ _ _ | exact Kd.S_nil _ _ _ _ _, by repeat (first | (with_reducible first | exact HB.out | apply below_alloc | apply pw_below_drewN | apply below_drew1 | refine below_set ?_ GE418.out) | exact HB.out), by repeat (first | (with_reducible first | exact HK.out | apply Kept.alloc | apply Kept.drewN | apply Kept.drew | refine Kept.setCell ?_ (.inr GW418.out) _) | exact HK.out)⟩

end Go.Proofs.Ytlpmggokgcphiaa.Q

namespace Go.Proofs.Ytlpmggokgcphiaa.Q
open Go.RowKit Go.Proofs.YtlpmggokgcphiaaL.PrintWords Go.Proofs.YtlpmggokgcphiaaL.PrintLast Go.Proofs.YtlpmggokgcphiaaL.PrintMore
attribute [local go_sem] max2_int min2_int max_two min_two max_three min_three max_four min_four   -- for this text's walks alone
set_option linter.unusedVariables false
set_option linter.unusedSimpArgs false

/-! ### spec_SetDefault: function 34 -/
def spec_SetDefault.j0 : Nat → Int → Int → Bool → List (S33) → Option ((List (S33)) × Bool)
 | 0, _, _, _, _ => none
 | k + 1, x2, x8, x20, x700000 => if x20 = true then (some (([] : List (S33)), false)) else ((spec_copyParams.f x700000).bind fun t703 => (if 0 ≤ x8 then (if x8 < (t703.length : Int) then ((some (t703.set (x8 : Int).toNat (⟨(rd_T33 t703 x8).f0, (rd_T33 t703 x8).f1, true, (rd_T33 t703 x8).f3⟩ : S33) : List (S33))).bind fun y706 => ((spec_checkedSignature.f k (y706.set (x8 : Int).toNat (⟨(rd_T33 y706 x8).f0, (rd_T33 y706 x8).f1, (rd_T33 y706 x8).f2, x2⟩ : S33))).bind fun bt708 => (some (bt708.1, bt708.2)))) else (none)) else (none)))
def spec_SetDefault.f (k : Nat) (l0_0 : List (S33)) (a1 : ByteArray) (a2 : Int) : Option ((List (S33)) × Bool) := (spec_findParam.f k l0_0 a1).bind fun t701 => ((spec_validSignature.f k l0_0).bind fun t702 => (if t702 = true then (spec_SetDefault.j0 k a2 t701 (decide (t701 < 0)) l0_0) else (spec_SetDefault.j0 k a2 t701 true l0_0)))
theorem spec_SetDefault.mono_l : ∀ k, (∀ y0 y1 y2 y3, LeO (spec_SetDefault.j0 k y0 y1 y2 y3) (spec_SetDefault.j0 (k + 1) y0 y1 y2 y3))
 | 0 => fun _ _ _ _ r h => by simp [spec_SetDefault.j0] at h
 | k + 1 => by
  have ih0 := spec_SetDefault.mono_l k
  ·intro y0 y1 y2 y3; unfold spec_SetDefault.j0
   repeat' first
   | (with_reducible exact ih0 _ _ _ _)
   | (with_reducible exact spec_checkedSignature.mono _ _)
   | (with_reducible exact spec_findParam.mono _ _ _)
   | (with_reducible exact spec_validSignature.mono _ _)
   | (with_reducible exact LeO.refl _)
   | (with_reducible exact LeO.none _)
   | (with_reducible refine LeO.ite ?_ ?_)
   | (with_reducible refine LeO.bind ?_ (fun _ => ?_))
   | exact ih0 _ _ _ _
   | exact spec_checkedSignature.mono _ _
   | exact spec_findParam.mono _ _ _
   | exact spec_validSignature.mono _ _
   | exact LeO.none _
   | refine LeO.ite ?_ ?_
   | refine LeO.bind ?_ (fun _ => ?_)
theorem spec_SetDefault.mono : ∀ a0 a1 a2 k, LeO (spec_SetDefault.f k a0 a1 a2) (spec_SetDefault.f (k + 1) a0 a1 a2) := by
 intro a0 a1 a2 k; have ih0 := spec_SetDefault.mono_l k; unfold spec_SetDefault.f
 repeat' first
   | (with_reducible exact ih0 _ _ _ _)
   | (with_reducible exact spec_checkedSignature.mono _ _)
   | (with_reducible exact spec_findParam.mono _ _ _)
   | (with_reducible exact spec_validSignature.mono _ _)
   | (with_reducible exact LeO.refl _)
   | (with_reducible exact LeO.none _)
   | (with_reducible refine LeO.ite ?_ ?_)
   | (with_reducible refine LeO.bind ?_ (fun _ => ?_))
   | exact ih0 _ _ _ _
   | exact spec_checkedSignature.mono _ _
   | exact spec_findParam.mono _ _ _
   | exact spec_validSignature.mono _ _
   | exact LeO.none _
   | refine LeO.ite ?_ ?_
   | refine LeO.bind ?_ (fun _ => ?_)
set_option maxHeartbeats 8000000 in
set_option maxRecDepth 100000 in
theorem spec_SetDefault.calls (k : Nat) (A0_0 : Option Addr) (c0_0 : Nat) (l0_0 : List (S33)) (a1 : ByteArray) (a2 : Int) (r1 : List (S33)) (r2 : Bool) (w : World) (hr0_0 : Kd.C k33 w A0_0 l0_0.length l0_0) (hc0_0 : l0_0.length ≤ c0_0) (h : spec_SetDefault.f k l0_0 a1 a2 = some (r1, r2)) :
  Calls Try.prog 34 #[.agg #[.slice A0_0 l0_0.length c0_0], .string a1, .int .i64 a2] w fun e w' => ∃ v0_ : Value, e = .returned (.tuple #[.agg #[v0_], .bool r2]) ∧ Kd.R k33 33 w' w.heap.size (fun _ => True) v0_ r1 ∧ Below w.heap.size w w' := by
 have hu25 := Try.underlying25; have HR0_0 := Aside0.mk hr0_0; have HC0_0 := Aside0.mk hc0_0; clear hr0_0 hc0_0; have HB := Aside0.mk (Below.refl w.heap.size w); have H : ((spec_findParam.f k l0_0 a1).bind fun t701 => ((spec_validSignature.f k l0_0).bind fun t702 => (if t702 = true then (spec_SetDefault.j0 k a2 t701 (decide (t701 < 0)) l0_0) else (spec_SetDefault.j0 k a2 t701 true l0_0)))) = some (r1, r2) := h; clear h; replace H := Option.bind_eq_some_iff.mp H; obtain ⟨t701, A40, H⟩ := H
 (try dsimp only at H)
 have A4 := Aside0.mk A40; clear A40; have HC5 := Aside0.mk H; clear H; go_enter Try.func34, Try.ntmps34; go_upto_region 2 with (first | ((with_reducible refine gate_dst (N := 3) rfl ?_); refine zx (N := 3) (cs := #[.slice A0_0 l0_0.length c0_0]) (t := 25) ?_; intro gb699 hg w6 hbox hb; have BK699 := Aside0.mk (hbox); have GW699 := Aside0.mk ((by rw [hg]; exact (below_size (zB HB)) : w.heap.size ≤ gb699)); have GE699 := GW699; replace HB := Aside0.mk (below_step (zB HB) hb); clear hb hbox hg) | ((with_reducible refine gate_dst (N := 6) rfl ?_); refine zx (N := 6) (cs := #[.slice none 0 0]) (t := 25) ?_; intro gb700 hg w7 hbox hb; have BK700 := Aside0.mk (hbox); have GW700 := Aside0.mk ((by rw [hg]; exact (below_size (zB HB)) : w.heap.size ≤ gb700)); have GE700 := GW700; replace HB := Aside0.mk (below_step (zB HB) hb); have NB699_700 := Aside0.mk ((by rw [hg]; exact Nat.ne_of_lt (blk_lt (g := gb699) (o := .cells #[.slice A0_0 l0_0.length c0_0] 25 (0, 0)) (zb BK699)) : gb699 ≠ gb700)); have NB700_699 := Aside0.mk NB699_700.out.symm; replace BK699 := Aside0.mk (blk_below (g := gb699) (o := .cells #[.slice A0_0 l0_0.length c0_0] 25 (0, 0)) (zb BK699) hb); clear hb hbox hg; have hnb8 := NB699_700.out; have hnc8 := NB700_699.out; have hcz9_0 : w7.cell? ⟨gb699, 0, none⟩ = some (.slice A0_0 l0_0.length c0_0) := (blk_cell BK699.out 0).trans rfl; have hfz9_0 := blk_frozen BK699.out 0) | ((with_reducible refine gate_callee (f := 55) rfl ?_); refine goesL_ (some 13) rfl rfl Try.func55 (by kernel_rfl) rfl #[.slice A0_0 l0_0.length c0_0, .string a1] rfl zl ?_; (with_reducible refine (spec_findParam.calls k _ _ l0_0 a1 t701 _ ?side1 ?side2 A4.out).mono ?_); (case side1 => repeat (first | exact (Kd.C_below HR0_0.out HB.out) | (with_reducible refine Kd.C_alloc ?_ _) | (with_reducible refine Kd.C_drewN ?_ _) | (with_reducible refine Kd.C_drew ?_))); (case side2 => exact HC0_0.out); rintro e w' ⟨rfl, ⟨nd, rfl⟩⟩; refine ⟨_, rfl, ?_⟩))
 (try simp only [Act.put, List.setIfInBounds_toArray, List.set_cons_zero, List.set_cons_succ])
 go_cut [20] (fun v20 wc => ∃ (kq : Nat) (x20_4 : Bool), v20 = .bool x20_4 ∧ Aside0 (spec_SetDefault.j0 kq a2 t701 x20_4 l0_0 = some (r1, r2)) ∧ Aside0 (kq ≤ k) ∧ Aside0 (wc.heap[gb699]? = some (.cells #[(.slice A0_0 l0_0.length c0_0)] 25 (0, 0))) ∧ Aside0 (wc.heap[gb700]? = some (.cells #[(.slice none 0 0)] 25 (0, 0))) ∧ Aside0 (Below w.heap.size w wc))
 case first =>
  have H := HC5.out; clear HC5; replace H := Option.bind_eq_some_iff.mp H; obtain ⟨t702, A100, H⟩ := H
  (try dsimp only at H)
  have A10 := Aside0.mk A100; clear A100
  by_cases c11 : t702 = true
  ·subst c11; rw [if_pos rfl] at H; have H' := Aside0.mk H; clear H; have hnb12 := NB699_700.out; have hnc12 := NB700_699.out; have hcz13_0 : w7.cell? ⟨gb699, 0, none⟩ = some (.slice A0_0 l0_0.length c0_0) := (blk_cell BK699.out 0).trans rfl; have hfz13_0 := blk_frozen BK699.out 0; go_wp2_with (first | ((with_reducible refine gate_callee (f := 56) rfl ?_); refine goesL_ (some 15) rfl rfl Try.func56 (by kernel_rfl) rfl #[.agg #[.slice A0_0 l0_0.length c0_0]] rfl zl ?_; (with_reducible refine (spec_validSignature.calls k _ _ l0_0 true _ ?side1 ?side2 A10.out).mono ?_); (case side1 => repeat (first | exact (Kd.C_below HR0_0.out HB.out) | (with_reducible refine Kd.C_alloc ?_ _) | (with_reducible refine Kd.C_drewN ?_ _) | (with_reducible refine Kd.C_drew ?_))); (case side2 => exact HC0_0.out); rintro e w14 ⟨rfl, hb⟩; refine ⟨_, rfl, ?_⟩; replace BK699 := Aside0.mk (blk_below (g := gb699) (o := .cells #[.slice A0_0 l0_0.length c0_0] 25 (0, 0)) (zb BK699) hb); replace BK700 := Aside0.mk (blk_below (g := gb700) (o := .cells #[.slice none 0 0] 25 (0, 0)) (zb BK700) hb); replace HB := Aside0.mk (below_step (zB HB) hb); (try clear hb); (try clear hb2); (try clear hk); (try clear hi))); go_meet
   case rel => exact ⟨_, (decide (t701 < 0)), zr, H', ⟨by first | omega | exact Nat.le_refl _⟩, ⟨zb BK699⟩, ⟨zb BK700⟩, ⟨zB HB⟩⟩
  ·replace c11 := Bool.eq_false_iff.mpr c11; subst c11; rw [if_neg (show ¬ (false = true) by decide)] at H; have H' := Aside0.mk H; clear H; have hnb15 := NB699_700.out; have hnc15 := NB700_699.out; have hcz16_0 : w7.cell? ⟨gb699, 0, none⟩ = some (.slice A0_0 l0_0.length c0_0) := (blk_cell BK699.out 0).trans rfl; have hfz16_0 := blk_frozen BK699.out 0; go_wp2_with (first | ((with_reducible refine gate_callee (f := 56) rfl ?_); refine goesL_ (some 15) rfl rfl Try.func56 (by kernel_rfl) rfl #[.agg #[.slice A0_0 l0_0.length c0_0]] rfl zl ?_; (with_reducible refine (spec_validSignature.calls k _ _ l0_0 false _ ?side1 ?side2 A10.out).mono ?_); (case side1 => repeat (first | exact (Kd.C_below HR0_0.out HB.out) | (with_reducible refine Kd.C_alloc ?_ _) | (with_reducible refine Kd.C_drewN ?_ _) | (with_reducible refine Kd.C_drew ?_))); (case side2 => exact HC0_0.out); rintro e w17 ⟨rfl, hb⟩; refine ⟨_, rfl, ?_⟩; replace BK699 := Aside0.mk (blk_below (g := gb699) (o := .cells #[.slice A0_0 l0_0.length c0_0] 25 (0, 0)) (zb BK699) hb); replace BK700 := Aside0.mk (blk_below (g := gb700) (o := .cells #[.slice none 0 0] 25 (0, 0)) (zb BK700) hb); replace HB := Aside0.mk (below_step (zB HB) hb); (try clear hb); (try clear hb2); (try clear hk); (try clear hi))); go_meet
   case rel => exact ⟨_, (true), zr, H', ⟨by first | omega | exact Nat.le_refl _⟩, ⟨zb BK699⟩, ⟨zb BK700⟩, ⟨zB HB⟩⟩
 case rest =>
  clear HC5; (try clear c1); (try clear p2); (try clear c3); (try clear c5); (try clear c8); (try clear c11); (try clear c12); (try clear c15); (try clear hcz13_0); (try clear hcz16_0); (try clear hcz9_0); (try clear hfz13_0); (try clear hfz16_0); (try clear hfz9_0); obtain ⟨kq, x20_4, rfl, HA, HJ4, BK699, BK700, HB⟩ := hcut
  cases kq with
  | zero => exact absurd HA.out (by simp [spec_SetDefault.j0])
  | succ kj4 =>
   have H := HA.out; clear HA; simp only [spec_SetDefault.j0] at H
   by_cases c18 : x20_4 = true
   ·subst c18; rw [if_pos rfl] at H; simp only [Option.some.injEq, Prod.mk.injEq] at H; obtain ⟨rfl, rfl⟩ := H; have hnb19 := NB700_699.out; have hnc19 := NB699_700.out; have hcz20_0 : wc.cell? ⟨gb700, 0, none⟩ = some (.slice none 0 0) := (blk_cell BK700.out 0).trans rfl; have hfz20_0 := blk_frozen BK700.out 0; go_wp2; refine bodyPost_ret (results_ct rfl _ _ gb700 25 #[.slice none 0 0] (0, 0) _ rfl (by (with_reducible repeat (first | refine blk_drewN ?_ _ | refine blk_drew ?_ | refine blk_alloc ?_ _)); refine blk_put (cs := #[.slice none 0 0]) ?_ 0 _ rfl; (with_reducible repeat (first | refine blk_drewN ?_ _ | refine blk_drew ?_ | refine blk_alloc ?_ _)); exact BK700.out) Try.underlying25 rfl (by kernel_rfl)) rfl ?_; exact ⟨_, by first | rfl | (simp [errW_none, errW_some] <;> rfl) | (simp [*, errW_none, errW_some] <;> rfl), by first | exact Kd.R_nil _ _ _ _ _ | exact Kd.N_nil _ _ _ _ _ | exact Kd.V_nil _ _ _ _ _ | exact Kd.Q_nil _ _ _ _ _ | exact Kd.S_nil _ _ _ _ _, zB HB⟩
   ·replace c18 := Bool.eq_false_iff.mpr c18; subst c18; rw [if_neg (show ¬ (false = true) by decide)] at H; replace H := Option.bind_eq_some_iff.mp H; obtain ⟨t703, A210, H⟩ := H
    (try dsimp only at H)
    have A21 := Aside0.mk A210; clear A210
    by_cases c22 : 0 ≤ t701
    ·rw [if_pos c22] at H; have c22b0 : decide (0 ≤ t701) = true := decide_eq_true c22; clear c22
     by_cases c23 : t701 < (t703.length : Int)
     ·rw [if_pos c23] at H; have c23b0 : decide (t701 < (t703.length : Int)) = true := decide_eq_true c23; clear c23; obtain ⟨y706, hy706⟩ : ∃ y_ : List (S33), y_ = (t703.set (t701 : Int).toNat (⟨(rd_T33 t703 t701).f0, (rd_T33 t703 t701).f1, true, (rd_T33 t703 t701).f3⟩ : S33)) := ⟨_, rfl⟩
      replace H : ((spec_checkedSignature.f kj4 (y706.set (t701 : Int).toNat (⟨(rd_T33 y706 t701).f0, (rd_T33 y706 t701).f1, (rd_T33 y706 t701).f2, a2⟩ : S33))).bind fun bt708 => (some (bt708.1, bt708.2))) = some (r1, r2) := by first | (rw [hy706]; with_reducible exact H) | (have H2_ := (Option.bind_some _ _).symm.trans H; rw [hy706]; with_reducible exact H2_) | (have H2_ := (Option.bind_some _ _).symm.trans H; with_reducible exact H2_) | with_reducible exact H | (rw [hy706]; exact H) | exact H
      have Ny706 := Aside0.mk hy706; clear hy706; obtain ⟨y707, hy707⟩ : ∃ y_ : List (S33), y_ = (y706.set (t701 : Int).toNat (⟨(rd_T33 y706 t701).f0, (rd_T33 y706 t701).f1, (rd_T33 y706 t701).f2, a2⟩ : S33)) := ⟨_, rfl⟩
      replace H : ((spec_checkedSignature.f kj4 y707).bind fun bt708 => (some (bt708.1, bt708.2))) = some (r1, r2) := by first | (rw [hy707]; with_reducible exact H) | (have H2_ := (Option.bind_some _ _).symm.trans H; rw [hy707]; with_reducible exact H2_) | (have H2_ := (Option.bind_some _ _).symm.trans H; with_reducible exact H2_) | with_reducible exact H | (rw [hy707]; exact H) | exact H
      have Ny707 := Aside0.mk hy707; clear hy707; replace H := Option.bind_eq_some_iff.mp H; obtain ⟨⟨t708, t711⟩, A260, H⟩ := H
      (try dsimp only at H)
      have A26 := Aside0.mk A260; clear A260; simp only [Option.some.injEq, Prod.mk.injEq] at H; obtain ⟨rfl, rfl⟩ := H; have hnb27 := NB699_700.out; have hnc27 := NB700_699.out; have hcz28_0 : wc.cell? ⟨gb699, 0, none⟩ = some (.slice A0_0 l0_0.length c0_0) := (blk_cell BK699.out 0).trans rfl; have hfz28_0 := blk_frozen BK699.out 0; go_wp2_with (first | ((with_reducible refine gate_callee (f := 57) rfl ?_); refine goesL_ (some 24) rfl rfl Try.func57 (by kernel_rfl) rfl #[.slice A0_0 l0_0.length c0_0] rfl zl ?_; (with_reducible refine (spec_copyParams.calls _ _ l0_0 t703 _ ?side1 ?side2 A21.out).mono ?_); (case side1 => repeat (first | exact (Kd.C_below HR0_0.out HB.out) | (with_reducible refine Kd.C_alloc ?_ _) | (with_reducible refine Kd.C_drewN ?_ _) | (with_reducible refine Kd.C_drew ?_))); (case side2 => exact HC0_0.out); rintro e w29 ⟨v704, rfl, ho0, hb⟩; refine ⟨_, rfl, ?_⟩; have HO705 := Aside0.mk (Kd.R_lower ho0 (below_size (zB HB))); replace BK699 := Aside0.mk (blk_below (g := gb699) (o := .cells #[.slice A0_0 l0_0.length c0_0] 25 (0, 0)) (zb BK699) hb); replace BK700 := Aside0.mk (blk_below (g := gb700) (o := .cells #[.slice none 0 0] 25 (0, 0)) (zb BK700) hb); replace HB := Aside0.mk (below_step (zB HB) hb); (try clear hb); (try clear hb2); (try clear hk); (try clear hi); (try clear ho0); have p24 : 0 ≤ (t701 : Int) := of_decide_eq_true za; have q24 : (t701 : Int) < ((t703.length : Int) : Int) := of_decide_eq_true za; obtain ⟨go24, co24, eo24, gb24, gl24, cl24, HG24⟩ := Kd.R_form HO705.out (by omega); (first | cases eo24 | (injection eo24 with ea_ en_ ec_; (first | subst ea_ | (injection ea_ with ea_; subst ea_)); subst ec_; clear en_)); have GB24 := Aside0.mk gb24; have GG24 := Aside0.mk HG24; clear gb24 gl24 HG24; obtain ⟨ce24, hcl24, hM24, hcc24, hfr24⟩ := Kd.R_elem HO705.out z33 (t701 : Int) p24 q24; obtain rfl := k33_openM hM24; have hx24_0 : w29.cell? ⟨go24, (t701 : Int).toNat * 4, none⟩ = some (.string ((rd_T33 t703 t701).f0)) := hcc24 0 _ rfl; have hx24_1 : w29.cell? ⟨go24, (t701 : Int).toNat * 4 + 1, none⟩ = some (.int .i64 ((rd_T33 t703 t701).f1)) := hcc24 1 _ rfl; have hx24_2 : w29.cell? ⟨go24, (t701 : Int).toNat * 4 + 2, none⟩ = some (.bool ((rd_T33 t703 t701).f2)) := hcc24 2 _ rfl; have hx24_3 : w29.cell? ⟨go24, (t701 : Int).toNat * 4 + 3, none⟩ = some (.int .i64 ((rd_T33 t703 t701).f3)) := hcc24 3 _ rfl; have hf24_0 : w29.frozen? ⟨go24, (t701 : Int).toNat * 4, none⟩ = false := hfr24 0; have hf24_1 : w29.frozen? ⟨go24, (t701 : Int).toNat * 4 + 1, none⟩ = false := hfr24 1; have hf24_2 : w29.frozen? ⟨go24, (t701 : Int).toNat * 4 + 2, none⟩ = false := hfr24 2; have hf24_3 : w29.frozen? ⟨go24, (t701 : Int).toNat * 4 + 3, none⟩ = false := hfr24 3; clear hcl24 hcc24 hfr24 hM24; replace p24 := eq_true p24; replace q24 := eq_true q24; have HX30 := Aside0.mk (show Kd.R k33 33 w29 w.heap.size (fun _ => True) (.slice (some ⟨go24, 0, none⟩) t703.length co24) t703 from (zo HO705)); obtain ⟨ce30, hcl30, hM30, hcc30, hfr30⟩ := Kd.R_elem HX30.out z33 (t701 : Int) (of_decide_eq_true za) (by have h_ : (t701 : Int) < ((t703.length : Int) : Int) := of_decide_eq_true za; first | exact h_ | (have e_ := (Kd.R_reads' HO705.out).1; omega) | simpa using h_); obtain rfl := k33_openM hM30; have HP30 := Kd.R_seg HX30.out (t701 : Int) (of_decide_eq_true za) (by have h_ : (t701 : Int) < ((t703.length : Int) : Int) := of_decide_eq_true za; first | exact h_ | (have e_ := (Kd.R_reads' HO705.out).1; omega) | simpa using h_) (seg := [.bool true]) (j := 2) hcl30 hcc30 (show 3 ≤ 4 from by decide) (x' := (⟨(rd_T33 t703 t701).f0, (rd_T33 t703 t701).f1, true, (rd_T33 t703 t701).f3⟩ : S33)) (k33_mkM _ _ _ (⟨(rd_T33 t703 t701).f0, (rd_T33 t703 t701).f1, true, (rd_T33 t703 t701).f3⟩ : S33) ) (fun _ hk => hk); have hx30_2 := hcc30 2 _ rfl; (try simp only [show (k33).sz = 4 from rfl, Nat.mul_one, Nat.add_zero] at hx30_2); have hf30_2 := hfr30 2; (try simp only [show (k33).sz = 4 from rfl, Nat.mul_one, Nat.add_zero] at hf30_2); clear hcl30 hcc30 hfr30 hM30) | ((with_reducible refine gate_store (t := 4) (p := 28) rfl ?_); refine store_event (t := 4) (p := 28) (v := ?vo_w31) (w1 := (w29.setCell ⟨go24, (t701 : Int).toNat * 4 + 2, none⟩ (.bool true))) ?hg ?ho ?hn ?hr ?_; (case ho => rfl); (case hg => rfl); (case hn => rfl); (case hr => first | (go_simp; done) | (go_simp; rfl)); intro w31 hw; have hg : w29.grownBy w31 (some go24) := (by rw [hw]; exact HP30.2); have hp_ : Kd.R k33 33 w31 w.heap.size (fun _ => True) (.slice (some ⟨go24, 0, none⟩) t703.length co24) y706 := (by rw [hw, Ny706.out]; exact HP30.1); clear HP30; replace BK699 := Aside0.mk (blk_grown (g := gb699) (o := .cells #[.slice A0_0 l0_0.length c0_0] 25 (0, 0)) (zb BK699) hg (Kd.R_ne HO705.out BK699.out (by decide))); replace BK700 := Aside0.mk (blk_grown (g := gb700) (o := .cells #[.slice none 0 0] 25 (0, 0)) (zb BK700) hg (Kd.R_ne HO705.out BK700.out (by decide))); replace HO705 := Aside0.mk (hp_); replace HB := Aside0.mk ((by rw [hw]; exact below_set (HB.out) GB24.out : Below w.heap.size w w31)); clear hg hw hp_; have p25 : 0 ≤ (t701 : Int) := of_decide_eq_true za; have q25 : (t701 : Int) < ((t703.length : Int) : Int) := of_decide_eq_true za; obtain ⟨ce25, hcl25, hM25, hcc25, hfr25⟩ := Kd.R_elem HO705.out z33 (t701 : Int) p25 q25; obtain rfl := k33_openM hM25; have hx25_0 : w31.cell? ⟨go24, (t701 : Int).toNat * 4, none⟩ = some (.string ((rd_T33 y706 t701).f0)) := hcc25 0 _ rfl; have hx25_1 : w31.cell? ⟨go24, (t701 : Int).toNat * 4 + 1, none⟩ = some (.int .i64 ((rd_T33 y706 t701).f1)) := hcc25 1 _ rfl; have hx25_2 : w31.cell? ⟨go24, (t701 : Int).toNat * 4 + 2, none⟩ = some (.bool ((rd_T33 y706 t701).f2)) := hcc25 2 _ rfl; have hx25_3 : w31.cell? ⟨go24, (t701 : Int).toNat * 4 + 3, none⟩ = some (.int .i64 ((rd_T33 y706 t701).f3)) := hcc25 3 _ rfl; have hf25_0 : w31.frozen? ⟨go24, (t701 : Int).toNat * 4, none⟩ = false := hfr25 0; have hf25_1 : w31.frozen? ⟨go24, (t701 : Int).toNat * 4 + 1, none⟩ = false := hfr25 1; have hf25_2 : w31.frozen? ⟨go24, (t701 : Int).toNat * 4 + 2, none⟩ = false := hfr25 2; have hf25_3 : w31.frozen? ⟨go24, (t701 : Int).toNat * 4 + 3, none⟩ = false := hfr25 3; clear hcl25 hcc25 hfr25 hM25; replace p25 := eq_true p25; replace q25 := eq_true q25; have HX32 := Aside0.mk (show Kd.R k33 33 w31 w.heap.size (fun _ => True) (.slice (some ⟨go24, 0, none⟩) t703.length co24) y706 from (zo HO705)); obtain ⟨ce32, hcl32, hM32, hcc32, hfr32⟩ := Kd.R_elem HX32.out z33 (t701 : Int) (of_decide_eq_true za) (by have h_ : (t701 : Int) < ((t703.length : Int) : Int) := of_decide_eq_true za; first | exact h_ | (have e_ := (Kd.R_reads' HO705.out).1; omega) | simpa using h_); obtain rfl := k33_openM hM32; have HP32 := Kd.R_seg HX32.out (t701 : Int) (of_decide_eq_true za) (by have h_ : (t701 : Int) < ((t703.length : Int) : Int) := of_decide_eq_true za; first | exact h_ | (have e_ := (Kd.R_reads' HO705.out).1; omega) | simpa using h_) (seg := [.int .i64 a2]) (j := 3) hcl32 hcc32 (show 4 ≤ 4 from by decide) (x' := (⟨(rd_T33 y706 t701).f0, (rd_T33 y706 t701).f1, (rd_T33 y706 t701).f2, a2⟩ : S33)) (k33_mkM _ _ _ (⟨(rd_T33 y706 t701).f0, (rd_T33 y706 t701).f1, (rd_T33 y706 t701).f2, a2⟩ : S33) ) (fun _ hk => hk); have hx32_3 := hcc32 3 _ rfl; (try simp only [show (k33).sz = 4 from rfl, Nat.mul_one, Nat.add_zero] at hx32_3); have hf32_3 := hfr32 3; (try simp only [show (k33).sz = 4 from rfl, Nat.mul_one, Nat.add_zero] at hf32_3); clear hcl32 hcc32 hfr32 hM32) | ((with_reducible refine gate_store (t := 3) (p := 33) rfl ?_); refine store_event (t := 3) (p := 33) (v := ?vo_w33) (w1 := (w31.setCell ⟨go24, (t701 : Int).toNat * 4 + 3, none⟩ (.int .i64 a2))) ?hg ?ho ?hn ?hr ?_; (case ho => rfl); (case hg => rfl); (case hn => rfl); (case hr => first | (go_simp; done) | (go_simp; rfl)); intro w33 hw; have hg : w31.grownBy w33 (some go24) := (by rw [hw]; exact HP32.2); have hp_ : Kd.R k33 33 w33 w.heap.size (fun _ => True) (.slice (some ⟨go24, 0, none⟩) t703.length co24) y707 := (by rw [hw, Ny707.out]; exact HP32.1); clear HP32; replace BK699 := Aside0.mk (blk_grown (g := gb699) (o := .cells #[.slice A0_0 l0_0.length c0_0] 25 (0, 0)) (zb BK699) hg (Kd.R_ne HO705.out BK699.out (by decide))); replace BK700 := Aside0.mk (blk_grown (g := gb700) (o := .cells #[.slice none 0 0] 25 (0, 0)) (zb BK700) hg (Kd.R_ne HO705.out BK700.out (by decide))); replace HO705 := Aside0.mk (hp_); replace HB := Aside0.mk ((by rw [hw]; exact below_set (HB.out) GB24.out : Below w.heap.size w w33)); clear hg hw hp_) | ((with_reducible refine gate_callee (f := 69) rfl ?_); refine goesL_ (some 35) rfl rfl Try.func69 (by kernel_rfl) rfl #[.slice (some ⟨go24, 0, none⟩) t703.length co24] rfl zl ?_; (with_reducible refine (spec_checkedSignature.calls kj4 (fun k_ => some k_ = (.slice (some ⟨go24, 0, none⟩) t703.length co24 : Value).ownBlock) (.slice (some ⟨go24, 0, none⟩) t703.length co24) y707 t708 t711 w _ ?side1 ?side2 A26.out).mono ?_); (case side1 => exact zB HB); (case side2 => exact Kd.R_tight rfl HO705.out); rintro e w34 ⟨v709, rfl, ho0, hb, hkp⟩; refine ⟨_, rfl, ?_⟩; have n0_ := Aside0.mk (blk_kept (zb BK699) hkp (fun hs_ => (fun e_ => (Kd.R_ne HO705.out BK699.out (by decide)) e_) hs_)); have n1_ := Aside0.mk (blk_kept (zb BK700) hkp (fun hs_ => (fun e_ => (Kd.R_ne HO705.out BK700.out (by decide)) e_) hs_)); have n2_ := Aside0.mk (Kd.R_mono (ok' := fun k_ => True) ho0 (fun k_ hk_ => trivial)); have n3_ := Aside0.mk (hb); clear BK699; clear BK700; clear HB; clear HO705; have BK699 := n0_; have BK700 := n1_; have HO710 := n2_; have HB := n3_; clear n0_ n1_ n2_ n3_; (try clear hb); (try clear hkp); (try clear ho0); obtain ⟨Ao35, co35, eo35⟩ := Kd.R_slice HO710.out; subst eo35; have hcz36_0 : w34.cell? ⟨gb700, 0, none⟩ = some (.slice none 0 0) := (blk_cell BK700.out 0).trans rfl; have hfz36_0 := blk_frozen BK700.out 0)); refine bodyPost_ret (results_ct rfl _ _ gb700 25 #[.slice Ao35 t708.length co35] (0, 0) _ rfl (by (with_reducible repeat (first | refine blk_drewN ?_ _ | refine blk_drew ?_ | refine blk_alloc ?_ _)); refine blk_put (cs := #[.slice none 0 0]) ?_ 0 _ rfl; (with_reducible repeat (first | refine blk_drewN ?_ _ | refine blk_drew ?_ | refine blk_alloc ?_ _)); exact BK700.out) Try.underlying25 rfl (by kernel_rfl)) rfl ?_; exact ⟨_, by first | rfl | (simp [errW_none, errW_some] <;> rfl) | (simp [*, errW_none, errW_some] <;> rfl), by (with_reducible repeat (first | apply Kd.R_alloc | apply Kd.R_drewN | apply Kd.R_drew)); exact Kd.R_mono (Kd.R_far (p := ⟨gb700, 0, none⟩) (Kd.R_types HO710.out BK700.out (by decide)) (fun _ hk => hk.2) (.slice Ao35 t708.length co35)) (fun _ hk => trivial), zB HB⟩
     ·rw [if_neg c23] at H; exact absurd H (by simp)
    ·rw [if_neg c22] at H; exact absurd H (by simp)

end Go.Proofs.Ytlpmggokgcphiaa.Q

namespace Go.Proofs.Ytlpmggokgcphiaa.Q
open Go.RowKit Go.Proofs.YtlpmggokgcphiaaL.PrintWords Go.Proofs.YtlpmggokgcphiaaL.PrintLast Go.Proofs.YtlpmggokgcphiaaL.PrintMore
attribute [local go_sem] max2_int min2_int max_two min_two max_three min_three max_four min_four   -- for this text's walks alone
set_option linter.unusedVariables false
set_option linter.unusedSimpArgs false

/-! ### slices.IndexFunc at impl.Param: function 103 -/
set_option maxHeartbeats 8000000 in
set_option maxRecDepth 100000 in
theorem ix103.calls (p : S33 → Bool) (g : Nat) (lb : Array Value) (eg : ∀ args w, (callFunc g args).run Try.prog w = .ok (.enter g args) w) (A0 : Option Addr) (c0 : Nat) (l0 : List (S33)) (w : World)
  (hp : PxPred Try.prog g lb (fun x : S33 => .agg #[.string x.f0, .int .i64 x.f1, .bool x.f2, .int .i64 x.f3]) p w) (hr0 : Kd.C k33 w A0 l0.length l0) :
  Calls Try.prog 103 #[.slice A0 l0.length c0, .func (.func g) #[] lb] w fun e w' => e = .returned (.int .i64 (pxIdx p l0)) ∧ Below w.heap.size w w' := by
 have HR := Aside0.mk hr0; clear hr0; have hbig : l0.length ≤ 9223372036854775807 := HR.out.2.1; have hu33 := Try.underlying33; go_enter Try.func103, Try.ntmps103; go_wp2; go_loopg [5, 8] l0.length (fun gg _ s8 wr => ∃ kk : Nat, kk ≤ l0.length ∧ l0.length - kk ≤ gg ∧ s8 = .int .i64 kk ∧ Aside0 (Below w.heap.size w wr) ∧ Aside0 (∀ j, j < kk → p (l0.getD j z33) = false))
 case atStart => exact ⟨0, Nat.zero_le _, by omega, rfl, ⟨Below.refl _ w⟩, ⟨fun j hj => absurd hj (Nat.not_lt_zero _)⟩⟩
 case round =>
  obtain ⟨kk, hkk, hg, rfl, BW, A⟩ := hrel
  by_cases hlt : kk < l0.length
  ·have hltz : (kk : Int) < (l0.length : Int) := by omega
   have hz0 : (0 : Int) ≤ (kk : Int) := by omega
   obtain ⟨ad, e, hx0, hx1, hx2, hx3⟩ := at_T33 (Kd.C_below HR.out BW.out) (kk : Int) hz0 hltz; simp only [Int.toNat_natCast] at hx0 hx1 hx2 hx3
   cases e
   have hcall := hp wr (rd_T33 l0 (kk : Int)) BW.out; clear hp; have B := Aside0.mk (show rd_T33 l0 (kk : Int) = l0.getD kk z33 from rfl); generalize hy : rd_T33 l0 (kk : Int) = y at hx0 hx1 hx2 hx3 hcall B; clear hy
   cases hq : p y with
   | true =>
    rw [hq] at hcall; go_wp2_with fail; refine hcall.mono ?_; rintro e w' ⟨rfl, hb'⟩; clear hcall; go_wp2; go_ret; refine ⟨?_, below_then BW.out BW.out.size hb'⟩; rw [pxIdx_hit p l0 z33 kk hlt (by rw [← B.out]; exact hq) A.out]; rfl
   | false =>
    rw [hq] at hcall; go_wp2_with fail; refine hcall.mono ?_; rintro e w' ⟨rfl, hb'⟩; clear hcall; go_wp2; go_roundg (l0.length - (kk + 1))
    case measure => omega
    case rel =>
     refine ⟨kk + 1, by omega, by omega, by go_num, ⟨below_then BW.out BW.out.size hb'⟩, ⟨fun j hj => ?_⟩⟩
     by_cases e : j = kk
     ·subst e; rw [← B.out]; exact hq
     ·exact A.out j (by omega)
  ·have hltz : ¬ (kk : Int) < (l0.length : Int) := by omega
   have : kk = l0.length := by omega
   subst this; go_wp2; go_ret; refine ⟨?_, BW.out⟩; rw [pxIdx_miss p l0 z33 A.out]; rfl
set_option maxHeartbeats 8000000 in
set_option maxRecDepth 100000 in
theorem impl_find.pred104 (a1 : ByteArray) (B : Nat) (w : World) (hc : w.cell? ⟨B, 0, none⟩ = some (.string a1)) :
  PxPred Try.prog 104 #[.pointer (some ⟨B, 0, none⟩)] (fun x : S33 => .agg #[.string x.f0, .int .i64 x.f1, .bool x.f2, .int .i64 x.f3]) (fun x : S33 => x.f0.toList == a1.toList) w := by
 intro W x hb; have hc' := px_cell hb hc; have hB' : B < W.heap.size := World.block_lt_of_cell? W _ hc'; clear hc
 show Calls Try.prog 104 #[.agg #[.string x.f0, .int .i64 x.f1, .bool x.f2, .int .i64 x.f3], .pointer (some ⟨B, 0, none⟩)] W _
 have hu33 := Try.underlying33; go_enter Try.func104, Try.ntmps104; go_wp2; go_ret; exact ⟨rfl, px_alloc _ _⟩
/-! ### impl_find: function 58 (a contract of our own) -/
def impl_find.f (l0 : List (S33)) (a1 : ByteArray) : Option (Int) := some (pxIdx (fun x : S33 => x.f0.toList == a1.toList) l0)
set_option maxHeartbeats 8000000 in
set_option maxRecDepth 100000 in
theorem impl_find.calls (A0 : Option Addr) (c0 : Nat) (l0 : List (S33)) (a1 : ByteArray) (r : Int) (w : World) (hr0 : Kd.C k33 w A0 l0.length l0) (hc0 : l0.length ≤ c0) (h : impl_find.f l0 a1 = some r) :
  Calls Try.prog 58 #[.slice A0 l0.length c0, .string a1] w fun e w' => e = .returned (.int .i64 r) ∧ Below w.heap.size w w' := by
 have HR := Aside0.mk hr0; clear hr0; obtain rfl := Option.some.inj h; clear h; have eg := px_enters Try.func104 (by kernel_rfl) rfl; go_enter Try.func58, Try.ntmps58; go_wp2_with fail; refine (ix103.calls (fun x : S33 => x.f0.toList == a1.toList) 104 _ eg A0 c0 l0 _ (impl_find.pred104 a1 w.heap.size _ ?_) ?_).mono ?_
 ·go_simp
 ·exact Kd.C_below HR.out (px_alloc _ _)
 rintro e w' ⟨rfl, hb'⟩; go_wp2; go_ret; exact ⟨rfl, below_then (px_alloc _ _) (by simp) hb'⟩

/-! ### impl_in: function 60 -/
def impl_in.f (a0 : Int) (a1 : Int) (a2 : Int) : Option (Bool) := if a0 ≥ a1 then (some (decide (a0 ≤ a2))) else (some false)
set_option maxHeartbeats 8000000 in
set_option maxRecDepth 100000 in
theorem impl_in.calls (a0 : Int) (a1 : Int) (a2 : Int) (r : Bool) (w : World) (h : impl_in.f a0 a1 a2 = some r) :
  Calls Try.prog 60 #[.int .i64 a0, .int .i64 a1, .int .i64 a2] w fun e w' => e = .returned (.bool r) ∧ Drawn0 w w' := by
 have H : (if a0 ≥ a1 then (some (decide (a0 ≤ a2))) else (some false)) = some r := h; clear h
 by_cases c4 : a0 ≥ a1
 ·rw [if_pos c4] at H; have c4b0 : decide (a1 ≤ a0) = true := decide_eq_true c4; clear c4; obtain rfl := Option.some.inj H; go_enter Try.func60, Try.ntmps60; go_wp2; go_ret; exact ⟨by first | rfl | (simp; done) | (simp [*]; done), by repeat (first | exact Drawn0.refl _ | apply Drawn0.step)⟩
 ·rw [if_neg c4] at H; have c4b0 : decide (a1 ≤ a0) = false := decide_eq_false c4; clear c4; obtain rfl := Option.some.inj H; go_enter Try.func60, Try.ntmps60; go_wp2; go_ret; exact ⟨by first | rfl | (simp; done) | (simp [*]; done), by repeat (first | exact Drawn0.refl _ | apply Drawn0.step)⟩

/-! ### impl_isName: function 59 -/
def impl_isName.l0 : Nat → ByteArray → Int → Option (Bool)
 | 0, _, _ => none
 | k + 1, x0, x3 => if x3 < (x0.size : Int) then (if 0 ≤ x3 then (if (bt x0 x3) < 97 then (some false) else (if (bt x0 x3) > 122 then (some false) else (impl_isName.l0 k x0 (wrap64 (x3 + 1))))) else (none)) else ((impl_in.f (x0.size : Int) 1 6).bind fun t253 => (some t253))
def impl_isName.f (k : Nat) (a0 : ByteArray) : Option (Bool) := impl_isName.l0 k a0 0
theorem impl_isName.mono_l : ∀ k, (∀ y0 y1, LeO (impl_isName.l0 k y0 y1) (impl_isName.l0 (k + 1) y0 y1))
 | 0 => fun _ _ r h => by simp [impl_isName.l0] at h
 | k + 1 => by
  have ih0 := impl_isName.mono_l k
  ·intro y0 y1; unfold impl_isName.l0
   repeat' first
   | (with_reducible exact ih0 _ _)
   | (with_reducible exact LeO.refl _)
   | (with_reducible exact LeO.none _)
   | (with_reducible refine LeO.ite ?_ ?_)
   | (with_reducible refine LeO.bind ?_ (fun _ => ?_))
   | exact ih0 _ _
   | exact LeO.none _
   | refine LeO.ite ?_ ?_
   | refine LeO.bind ?_ (fun _ => ?_)
theorem impl_isName.mono : ∀ a0 k, LeO (impl_isName.f k a0) (impl_isName.f (k + 1) a0) := by
 intro a0 k; have ih0 := impl_isName.mono_l k; unfold impl_isName.f
 repeat' first
   | (with_reducible exact ih0 _ _)
   | (with_reducible exact LeO.refl _)
   | (with_reducible exact LeO.none _)
   | (with_reducible refine LeO.ite ?_ ?_)
   | (with_reducible refine LeO.bind ?_ (fun _ => ?_))
   | exact ih0 _ _
   | exact LeO.none _
   | refine LeO.ite ?_ ?_
   | refine LeO.bind ?_ (fun _ => ?_)
set_option maxHeartbeats 8000000 in
set_option maxRecDepth 100000 in
theorem impl_isName.calls (k : Nat) (a0 : ByteArray) (r : Bool) (w : World) (h : impl_isName.f k a0 = some r) :
  Calls Try.prog 59 #[.string a0] w fun e w' => e = .returned (.bool r) ∧ Drawn0 w w' := by
 have H : (impl_isName.l0 k a0 0) = some r := h; clear h; have H' := Aside0.mk H; clear H; go_enter Try.func59, Try.ntmps59; go_wp2; go_loopg [3] k (fun kq v3 w' => ∃ (x3_1 : Int), v3 = .int .i64 x3_1 ∧ Aside0 (impl_isName.l0 kq a0 x3_1 = some r) ∧ Aside0 (kq ≤ k) ∧ Drawn0 w w')
 case atStart => exact ⟨(0), zr, H', ⟨Nat.le_refl _⟩, by repeat (first | exact Drawn0.refl _ | apply Drawn0.step)⟩
 case round =>
  clear H'; obtain ⟨x3_1, rfl, HA, HK1, ⟨m1, rfl⟩⟩ := hrel
  cases gk with
  | zero => exact absurd HA.out (by simp [impl_isName.l0])
  | succ k1 =>
   have H := HA.out; clear HA; simp only [impl_isName.l0] at H
   by_cases c2 : x3_1 < (a0.size : Int)
   ·rw [if_pos c2] at H; have c2b0 : decide (x3_1 < (a0.size : Int)) = true := decide_eq_true c2; clear c2
    by_cases c3 : 0 ≤ x3_1
    ·rw [if_pos c3] at H; have c3b0 : decide (0 ≤ x3_1) = true := decide_eq_true c3; clear c3
     by_cases c5 : (bt a0 x3_1) < 97
     ·rw [if_pos c5] at H; have c5b0 : decide ((bt a0 x3_1) < 97) = true := decide_eq_true c5; clear c5; obtain rfl := Option.some.inj H; have p4 : 0 ≤ (x3_1 : Int) := of_decide_eq_true za; have q4 : x3_1 < (a0.size : Int) := of_decide_eq_true za; have hx4 := bt_at a0 x3_1; replace p4 := eq_true p4; replace q4 := eq_true q4; go_wp2; go_ret; exact ⟨by first | rfl | (simp; done) | (simp [*]; done), by repeat (first | exact Drawn0.refl _ | apply Drawn0.step)⟩
     ·rw [if_neg c5] at H; have c5b0 : decide ((bt a0 x3_1) < 97) = false := decide_eq_false c5; clear c5
      by_cases c7 : (bt a0 x3_1) > 122
      ·rw [if_pos c7] at H; have c7b0 : decide (122 < (bt a0 x3_1)) = true := decide_eq_true c7; clear c7; obtain rfl := Option.some.inj H; have p4 : 0 ≤ (x3_1 : Int) := of_decide_eq_true za; have q4 : x3_1 < (a0.size : Int) := of_decide_eq_true za; have hx4 := bt_at a0 x3_1; replace p4 := eq_true p4; replace q4 := eq_true q4; have p6 : 0 ≤ (x3_1 : Int) := of_decide_eq_true za; have q6 : x3_1 < (a0.size : Int) := of_decide_eq_true za; have hx6 := bt_at a0 x3_1; replace p6 := eq_true p6; replace q6 := eq_true q6; go_wp2; go_ret; exact ⟨by first | rfl | (simp; done) | (simp [*]; done), by repeat (first | exact Drawn0.refl _ | apply Drawn0.step)⟩
      ·rw [if_neg c7] at H; have c7b0 : decide (122 < (bt a0 x3_1)) = false := decide_eq_false c7; clear c7; have H' := Aside0.mk H; clear H; have p4 : 0 ≤ (x3_1 : Int) := of_decide_eq_true za; have q4 : x3_1 < (a0.size : Int) := of_decide_eq_true za; have hx4 := bt_at a0 x3_1; replace p4 := eq_true p4; replace q4 := eq_true q4; have p6 : 0 ≤ (x3_1 : Int) := of_decide_eq_true za; have q6 : x3_1 < (a0.size : Int) := of_decide_eq_true za; have hx6 := bt_at a0 x3_1; replace p6 := eq_true p6; replace q6 := eq_true q6; go_wp2; go_roundg k1
       case measure => have := HK1.out; omega
       case rel => exact ⟨(wrap64 (x3_1 + 1)), zr, H', ⟨by have := HK1.out; omega⟩, by repeat (first | exact Drawn0.refl _ | apply Drawn0.step)⟩
    ·rw [if_neg c3] at H; exact absurd H (by simp)
   ·rw [if_neg c2] at H; have c2b0 : decide (x3_1 < (a0.size : Int)) = false := decide_eq_false c2; clear c2; replace H := Option.bind_eq_some_iff.mp H; obtain ⟨t253, A80, H⟩ := H
    (try dsimp only at H)
    have A8 := Aside0.mk A80; clear A80; obtain rfl := Option.some.inj H; go_wp2_with (first | ((with_reducible refine gate_callee (f := 60) rfl ?_); refine goesL_ (some 22) rfl rfl Try.func60 (by kernel_rfl) rfl #[.int .i64 (a0.size : Int), .int .i64 1, .int .i64 6] rfl zl ?_; (with_reducible refine (impl_in.calls (a0.size : Int) 1 6 t253 _ A8.out).mono ?_); rintro e w' ⟨rfl, ⟨nd, rfl⟩⟩; refine ⟨_, rfl, ?_⟩)); go_ret; exact ⟨by first | rfl | (simp; done) | (simp [*]; done), by repeat (first | exact Drawn0.refl _ | apply Drawn0.step)⟩

end Go.Proofs.Ytlpmggokgcphiaa.Q

namespace Go.Proofs.Ytlpmggokgcphiaa.Q
open Go.RowKit Go.Proofs.YtlpmggokgcphiaaL.PrintWords Go.Proofs.YtlpmggokgcphiaaL.PrintLast Go.Proofs.YtlpmggokgcphiaaL.PrintMore
attribute [local go_sem] max2_int min2_int max_two min_two max_three min_three max_four min_four   -- for this text's walks alone
set_option linter.unusedVariables false
set_option linter.unusedSimpArgs false

/-! ### impl_isValue: function 61 -/
def impl_isValue.f (a0 : Int) : Option (Bool) := (impl_in.f a0 (-99) 99).bind fun t254 => (some t254)
set_option maxHeartbeats 8000000 in
set_option maxRecDepth 100000 in
theorem impl_isValue.calls (a0 : Int) (r : Bool) (w : World) (h : impl_isValue.f a0 = some r) :
  Calls Try.prog 61 #[.int .i64 a0] w fun e w' => e = .returned (.bool r) ∧ Drawn0 w w' := by
 have H : ((impl_in.f a0 (-99) 99).bind fun t254 => (some t254)) = some r := h; clear h; replace H := Option.bind_eq_some_iff.mp H; obtain ⟨t254, A20, H⟩ := H
 (try dsimp only at H)
 have A2 := Aside0.mk A20; clear A20; obtain rfl := Option.some.inj H; go_enter Try.func61, Try.ntmps61; go_wp2_with (first | ((with_reducible refine gate_callee (f := 60) rfl ?_); refine goesL_ (some 4) rfl rfl Try.func60 (by kernel_rfl) rfl #[.int .i64 a0, .int .i64 (-99), .int .i64 99] rfl zl ?_; (with_reducible refine (impl_in.calls a0 (-99) 99 t254 _ A2.out).mono ?_); rintro e w' ⟨rfl, ⟨nd, rfl⟩⟩; refine ⟨_, rfl, ?_⟩)); go_ret; exact ⟨by first | rfl | (simp; done) | (simp [*]; done), by repeat (first | exact Drawn0.refl _ | apply Drawn0.step)⟩

/-! ### impl_Param_placed: function 63 -/
def impl_Param_placed.f (a0_0 : ByteArray) (a0_1 : Int) (a0_2 : Bool) (a0_3 : Int) : Option (Bool) := if a0_1 = 0 then (some true) else (some (a0_1 == 1))
set_option maxHeartbeats 8000000 in
set_option maxRecDepth 100000 in
theorem impl_Param_placed.calls (a0_0 : ByteArray) (a0_1 : Int) (a0_2 : Bool) (a0_3 : Int) (r : Bool) (w : World) (h : impl_Param_placed.f a0_0 a0_1 a0_2 a0_3 = some r) :
  Calls Try.prog 63 #[.agg #[.string a0_0, .int .i64 a0_1, .bool a0_2, .int .i64 a0_3]] w fun e w' => e = .returned (.bool r) ∧ Below w.heap.size w w' := by
 have hu33 := Try.underlying33; have HB := Aside0.mk (Below.refl w.heap.size w); have H : (if a0_1 = 0 then (some true) else (some (a0_1 == 1))) = some r := h; clear h
 by_cases c2 : a0_1 = 0
 ·rw [if_pos c2] at H; have c2b0 : (a0_1 == 0) = true := beq_iff_eq.mpr c2; have c2b1 : (a0_1 != 0) = false := bne_eq_false_iff_eq.mpr c2; clear c2; obtain rfl := Option.some.inj H; go_enter Try.func63, Try.ntmps63; go_wp2_with (first | ((with_reducible refine gate_dst (N := 1) rfl ?_); refine zx (N := 1) (cs := #[.string a0_0, .int .i64 a0_1, .bool a0_2, .int .i64 a0_3]) (t := 33) ?_; intro gb255 hg w3 hbox hb; have BK255 := Aside0.mk (hbox); have GW255 := Aside0.mk ((by rw [hg]; exact (below_size (zB HB)) : w.heap.size ≤ gb255)); have GE255 := GW255; replace HB := Aside0.mk (below_step (zB HB) hb); clear hb hbox hg; have hcz4_0 : w3.cell? ⟨gb255, 0, none⟩ = some (.string a0_0) := (blk_cell BK255.out 0).trans rfl; have hcz4_1 : w3.cell? ⟨gb255, 1, none⟩ = some (.int .i64 a0_1) := (blk_cell BK255.out 1).trans rfl; have hcz4_2 : w3.cell? ⟨gb255, 2, none⟩ = some (.bool a0_2) := (blk_cell BK255.out 2).trans rfl; have hcz4_3 : w3.cell? ⟨gb255, 3, none⟩ = some (.int .i64 a0_3) := (blk_cell BK255.out 3).trans rfl; have hfz4_0 := blk_frozen BK255.out 0; have hfz4_1 := blk_frozen BK255.out 1; have hfz4_2 := blk_frozen BK255.out 2; have hfz4_3 := blk_frozen BK255.out 3)); go_ret; exact ⟨by first | rfl | (simp [errW_none, errW_some] <;> rfl) | (simp [*, errW_none, errW_some] <;> rfl), zB HB⟩
 ·rw [if_neg c2] at H; have c2b0 : (a0_1 == 0) = false := beq_eq_false_iff_ne.mpr c2; have c2b1 : (a0_1 != 0) = true := bne_iff_ne.mpr c2; obtain rfl := Option.some.inj H; go_enter Try.func63, Try.ntmps63; go_wp2_with (first | ((with_reducible refine gate_dst (N := 1) rfl ?_); refine zx (N := 1) (cs := #[.string a0_0, .int .i64 a0_1, .bool a0_2, .int .i64 a0_3]) (t := 33) ?_; intro gb255 hg w5 hbox hb; have BK255 := Aside0.mk (hbox); have GW255 := Aside0.mk ((by rw [hg]; exact (below_size (zB HB)) : w.heap.size ≤ gb255)); have GE255 := GW255; replace HB := Aside0.mk (below_step (zB HB) hb); clear hb hbox hg; have hcz6_0 : w5.cell? ⟨gb255, 0, none⟩ = some (.string a0_0) := (blk_cell BK255.out 0).trans rfl; have hcz6_1 : w5.cell? ⟨gb255, 1, none⟩ = some (.int .i64 a0_1) := (blk_cell BK255.out 1).trans rfl; have hcz6_2 : w5.cell? ⟨gb255, 2, none⟩ = some (.bool a0_2) := (blk_cell BK255.out 2).trans rfl; have hcz6_3 : w5.cell? ⟨gb255, 3, none⟩ = some (.int .i64 a0_3) := (blk_cell BK255.out 3).trans rfl; have hfz6_0 := blk_frozen BK255.out 0; have hfz6_1 := blk_frozen BK255.out 1; have hfz6_2 := blk_frozen BK255.out 2; have hfz6_3 := blk_frozen BK255.out 3)); go_ret; exact ⟨by first | rfl | (simp [errW_none, errW_some] <;> rfl) | (simp [*, errW_none, errW_some] <;> rfl), zB HB⟩

/-! ### impl_Param_single: function 62 -/
def impl_Param_single.f (a0_0 : ByteArray) (a0_1 : Int) (a0_2 : Bool) (a0_3 : Int) : Option (Bool) := (impl_Param_placed.f a0_0 a0_1 a0_2 a0_3).bind fun t257 => (if t257 = true then (some true) else (some (a0_1 == 3)))
set_option maxHeartbeats 8000000 in
set_option maxRecDepth 100000 in
theorem impl_Param_single.calls (a0_0 : ByteArray) (a0_1 : Int) (a0_2 : Bool) (a0_3 : Int) (r : Bool) (w : World) (h : impl_Param_single.f a0_0 a0_1 a0_2 a0_3 = some r) :
  Calls Try.prog 62 #[.agg #[.string a0_0, .int .i64 a0_1, .bool a0_2, .int .i64 a0_3]] w fun e w' => e = .returned (.bool r) ∧ Below w.heap.size w w' := by
 have hu33 := Try.underlying33; have HB := Aside0.mk (Below.refl w.heap.size w); have H : ((impl_Param_placed.f a0_0 a0_1 a0_2 a0_3).bind fun t257 => (if t257 = true then (some true) else (some (a0_1 == 3)))) = some r := h; clear h; replace H := Option.bind_eq_some_iff.mp H; obtain ⟨t257, A20, H⟩ := H
 (try dsimp only at H)
 have A2 := Aside0.mk A20; clear A20
 by_cases c3 : t257 = true
 ·subst c3; rw [if_pos rfl] at H; obtain rfl := Option.some.inj H; go_enter Try.func62, Try.ntmps62; go_wp2_with (first | ((with_reducible refine gate_dst (N := 1) rfl ?_); refine zx (N := 1) (cs := #[.string a0_0, .int .i64 a0_1, .bool a0_2, .int .i64 a0_3]) (t := 33) ?_; intro gb256 hg w4 hbox hb; have BK256 := Aside0.mk (hbox); have GW256 := Aside0.mk ((by rw [hg]; exact (below_size (zB HB)) : w.heap.size ≤ gb256)); have GE256 := GW256; replace HB := Aside0.mk (below_step (zB HB) hb); clear hb hbox hg; have hcz5_0 : w4.cell? ⟨gb256, 0, none⟩ = some (.string a0_0) := (blk_cell BK256.out 0).trans rfl; have hcz5_1 : w4.cell? ⟨gb256, 1, none⟩ = some (.int .i64 a0_1) := (blk_cell BK256.out 1).trans rfl; have hcz5_2 : w4.cell? ⟨gb256, 2, none⟩ = some (.bool a0_2) := (blk_cell BK256.out 2).trans rfl; have hcz5_3 : w4.cell? ⟨gb256, 3, none⟩ = some (.int .i64 a0_3) := (blk_cell BK256.out 3).trans rfl; have hfz5_0 := blk_frozen BK256.out 0; have hfz5_1 := blk_frozen BK256.out 1; have hfz5_2 := blk_frozen BK256.out 2; have hfz5_3 := blk_frozen BK256.out 3) | ((with_reducible refine gate_callee (f := 63) rfl ?_); refine goesL_ (some 4) rfl rfl Try.func63 (by kernel_rfl) rfl #[.agg #[.string a0_0, .int .i64 a0_1, .bool a0_2, .int .i64 a0_3]] rfl zl ?_; (with_reducible refine (impl_Param_placed.calls a0_0 a0_1 a0_2 a0_3 true _ A2.out).mono ?_); rintro e w6 ⟨rfl, hb⟩; refine ⟨_, rfl, ?_⟩; replace BK256 := Aside0.mk (blk_below (g := gb256) (o := .cells #[.string a0_0, .int .i64 a0_1, .bool a0_2, .int .i64 a0_3] 33 (0, 0)) (zb BK256) hb); replace HB := Aside0.mk (below_step (zB HB) hb); (try clear hb); (try clear hb2); (try clear hk); (try clear hi))); go_ret; exact ⟨by first | rfl | (simp [errW_none, errW_some] <;> rfl) | (simp [*, errW_none, errW_some] <;> rfl), zB HB⟩
 ·replace c3 := Bool.eq_false_iff.mpr c3; subst c3; rw [if_neg (show ¬ (false = true) by decide)] at H; obtain rfl := Option.some.inj H; go_enter Try.func62, Try.ntmps62; go_wp2_with (first | ((with_reducible refine gate_dst (N := 1) rfl ?_); refine zx (N := 1) (cs := #[.string a0_0, .int .i64 a0_1, .bool a0_2, .int .i64 a0_3]) (t := 33) ?_; intro gb256 hg w7 hbox hb; have BK256 := Aside0.mk (hbox); have GW256 := Aside0.mk ((by rw [hg]; exact (below_size (zB HB)) : w.heap.size ≤ gb256)); have GE256 := GW256; replace HB := Aside0.mk (below_step (zB HB) hb); clear hb hbox hg; have hcz8_0 : w7.cell? ⟨gb256, 0, none⟩ = some (.string a0_0) := (blk_cell BK256.out 0).trans rfl; have hcz8_1 : w7.cell? ⟨gb256, 1, none⟩ = some (.int .i64 a0_1) := (blk_cell BK256.out 1).trans rfl; have hcz8_2 : w7.cell? ⟨gb256, 2, none⟩ = some (.bool a0_2) := (blk_cell BK256.out 2).trans rfl; have hcz8_3 : w7.cell? ⟨gb256, 3, none⟩ = some (.int .i64 a0_3) := (blk_cell BK256.out 3).trans rfl; have hfz8_0 := blk_frozen BK256.out 0; have hfz8_1 := blk_frozen BK256.out 1; have hfz8_2 := blk_frozen BK256.out 2; have hfz8_3 := blk_frozen BK256.out 3) | ((with_reducible refine gate_callee (f := 63) rfl ?_); refine goesL_ (some 4) rfl rfl Try.func63 (by kernel_rfl) rfl #[.agg #[.string a0_0, .int .i64 a0_1, .bool a0_2, .int .i64 a0_3]] rfl zl ?_; (with_reducible refine (impl_Param_placed.calls a0_0 a0_1 a0_2 a0_3 false _ A2.out).mono ?_); rintro e w9 ⟨rfl, hb⟩; refine ⟨_, rfl, ?_⟩; replace BK256 := Aside0.mk (blk_below (g := gb256) (o := .cells #[.string a0_0, .int .i64 a0_1, .bool a0_2, .int .i64 a0_3] 33 (0, 0)) (zb BK256) hb); replace HB := Aside0.mk (below_step (zB HB) hb); (try clear hb); (try clear hb2); (try clear hk); (try clear hi); have hcz10_0 : w9.cell? ⟨gb256, 0, none⟩ = some (.string a0_0) := (blk_cell BK256.out 0).trans rfl; have hcz10_1 : w9.cell? ⟨gb256, 1, none⟩ = some (.int .i64 a0_1) := (blk_cell BK256.out 1).trans rfl; have hcz10_2 : w9.cell? ⟨gb256, 2, none⟩ = some (.bool a0_2) := (blk_cell BK256.out 2).trans rfl; have hcz10_3 : w9.cell? ⟨gb256, 3, none⟩ = some (.int .i64 a0_3) := (blk_cell BK256.out 3).trans rfl; have hfz10_0 := blk_frozen BK256.out 0; have hfz10_1 := blk_frozen BK256.out 1; have hfz10_2 := blk_frozen BK256.out 2; have hfz10_3 := blk_frozen BK256.out 3)); go_ret; exact ⟨by first | rfl | (simp [errW_none, errW_some] <;> rfl) | (simp [*, errW_none, errW_some] <;> rfl), zB HB⟩

end Go.Proofs.Ytlpmggokgcphiaa.Q
