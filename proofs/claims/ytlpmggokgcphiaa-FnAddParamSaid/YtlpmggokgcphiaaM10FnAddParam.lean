-- written by px.py and merge.py (programs of this claim's), over the kit's print. Not trusted: Lean checks it.
import Derived.Test.YtlpmggokgcphiaaM0FnAddParam
import Derived.Test.YtlpmggokgcphiaaM4FnAddParam
import Derived.Test.YtlpmggokgcphiaaM2FnAddParam
namespace Go.Proofs.Ytlpmggokgcphiaa.Q
open Go.RowKit Go.Proofs.YtlpmggokgcphiaaL.PrintWords Go.Proofs.YtlpmggokgcphiaaL.PrintLast Go.Proofs.YtlpmggokgcphiaaL.PrintMore
attribute [local go_sem] max2_int min2_int max_two min_two max_three min_three max_four min_four   -- for this text's walks alone
set_option linter.unusedVariables false
set_option linter.unusedSimpArgs false

/-! ### spec_validSignature: function 56 -/
def spec_validSignature.f (k : Nat) (l0_0 : List (S33)) : Option (Bool) := (spec_validParams.f k l0_0).bind fun t305 => (some t305)
theorem spec_validSignature.mono : ∀ a0 k, LeO (spec_validSignature.f k a0) (spec_validSignature.f (k + 1) a0) := by
 intro a0 k; unfold spec_validSignature.f
 repeat' first
   | (with_reducible exact spec_validParams.mono _ _)
   | (with_reducible exact LeO.refl _)
   | (with_reducible exact LeO.none _)
   | (with_reducible refine LeO.ite ?_ ?_)
   | (with_reducible refine LeO.bind ?_ (fun _ => ?_))
   | exact spec_validParams.mono _ _
   | exact LeO.none _
   | refine LeO.ite ?_ ?_
   | refine LeO.bind ?_ (fun _ => ?_)
set_option maxHeartbeats 8000000 in
set_option maxRecDepth 100000 in
theorem spec_validSignature.calls (k : Nat) (A0_0 : Option Addr) (c0_0 : Nat) (l0_0 : List (S33)) (r : Bool) (w : World) (hr0_0 : Kd.C k33 w A0_0 l0_0.length l0_0) (hc0_0 : l0_0.length ≤ c0_0) (h : spec_validSignature.f k l0_0 = some r) :
  Calls Try.prog 56 #[.agg #[.slice A0_0 l0_0.length c0_0]] w fun e w' => e = .returned (.bool r) ∧ Below w.heap.size w w' := by
 have hu25 := Try.underlying25; have HR0_0 := Aside0.mk hr0_0; have HC0_0 := Aside0.mk hc0_0; clear hr0_0 hc0_0; have HB := Aside0.mk (Below.refl w.heap.size w); have H : ((spec_validParams.f k l0_0).bind fun t305 => (some t305)) = some r := h; clear h; replace H := Option.bind_eq_some_iff.mp H; obtain ⟨t305, A20, H⟩ := H
 (try dsimp only at H)
 have A2 := Aside0.mk A20; clear A20; obtain rfl := Option.some.inj H; go_enter Try.func56, Try.ntmps56; go_wp2_with (first | ((with_reducible refine gate_dst (N := 1) rfl ?_); refine zx (N := 1) (cs := #[.slice A0_0 l0_0.length c0_0]) (t := 25) ?_; intro gb304 hg w3 hbox hb; have BK304 := Aside0.mk (hbox); have GW304 := Aside0.mk ((by rw [hg]; exact (below_size (zB HB)) : w.heap.size ≤ gb304)); have GE304 := GW304; replace HB := Aside0.mk (below_step (zB HB) hb); clear hb hbox hg; have hcz4_0 : w3.cell? ⟨gb304, 0, none⟩ = some (.slice A0_0 l0_0.length c0_0) := (blk_cell BK304.out 0).trans rfl; have hfz4_0 := blk_frozen BK304.out 0) | ((with_reducible refine gate_callee (f := 102) rfl ?_); refine goesL_ (some 5) rfl rfl Try.func102 (by kernel_rfl) rfl #[.slice A0_0 l0_0.length c0_0] rfl zl ?_; (with_reducible refine (spec_validParams.calls k _ _ l0_0 t305 _ ?side1 ?side2 A2.out).mono ?_); (case side1 => repeat (first | exact (Kd.C_below HR0_0.out HB.out) | (with_reducible refine Kd.C_alloc ?_ _) | (with_reducible refine Kd.C_drewN ?_ _) | (with_reducible refine Kd.C_drew ?_))); (case side2 => exact HC0_0.out); rintro e w5 ⟨rfl, hb⟩; refine ⟨_, rfl, ?_⟩; replace BK304 := Aside0.mk (blk_below (g := gb304) (o := .cells #[.slice A0_0 l0_0.length c0_0] 25 (0, 0)) (zb BK304) hb); replace HB := Aside0.mk (below_step (zB HB) hb); (try clear hb); (try clear hb2); (try clear hk); (try clear hi))); go_ret; exact ⟨by first | rfl | (simp [errW_none, errW_some] <;> rfl) | (simp [*, errW_none, errW_some] <;> rfl), zB HB⟩

end Go.Proofs.Ytlpmggokgcphiaa.Q

namespace Go.Proofs.Ytlpmggokgcphiaa.Q
open Go.RowKit Go.Proofs.YtlpmggokgcphiaaL.PrintWords Go.Proofs.YtlpmggokgcphiaaL.PrintLast Go.Proofs.YtlpmggokgcphiaaL.PrintMore
attribute [local go_sem] max2_int min2_int max_two min_two max_three min_three max_four min_four   -- for this text's walks alone
set_option linter.unusedVariables false
set_option linter.unusedSimpArgs false

/-! ### spec_checkedSignature: function 69 -/
def spec_checkedSignature.f (k : Nat) (l0 : List (S33)) : Option ((List (S33)) × Bool) := (spec_validParams.f k l0).bind fun t419 => (if t419 = true then (some (l0, true)) else (some (([] : List (S33)), false)))
theorem spec_checkedSignature.mono : ∀ a0 k, LeO (spec_checkedSignature.f k a0) (spec_checkedSignature.f (k + 1) a0) := by
 intro a0 k; unfold spec_checkedSignature.f
 repeat' first
   | (with_reducible exact spec_validParams.mono _ _)
   | (with_reducible exact LeO.refl _)
   | (with_reducible exact LeO.none _)
   | (with_reducible refine LeO.ite ?_ ?_)
   | (with_reducible refine LeO.bind ?_ (fun _ => ?_))
   | exact spec_validParams.mono _ _
   | exact LeO.none _
   | refine LeO.ite ?_ ?_
   | refine LeO.bind ?_ (fun _ => ?_)
set_option maxHeartbeats 8000000 in
set_option maxRecDepth 100000 in
theorem spec_checkedSignature.calls (k : Nat) (P0_ : Nat → Prop) (u9000_ : Value) (l0 : List (S33)) (r1 : List (S33)) (r2 : Bool) (w0 w : World) (hB : Below w0.heap.size w0 w) (ho0 : Kd.R k33 33 w w0.heap.size P0_ u9000_ l0) (h : spec_checkedSignature.f k l0 = some (r1, r2)) :
  Calls Try.prog 69 #[u9000_] w fun e w' => ∃ v0_ : Value, e = .returned (.tuple #[.agg #[v0_], .bool r2]) ∧ Kd.R k33 33 w' w0.heap.size (fun k_ => (P0_ k_ ∨ w.heap.size ≤ k_)) v0_ r1 ∧ Below w0.heap.size w0 w' ∧ Kept w w' (fun k_ => P0_ k_) := by
 have hu25 := Try.underlying25; have HO0 := Aside0.mk (show Kd.R k33 33 w w0.heap.size (fun k_ => (P0_ k_ ∨ w.heap.size ≤ k_)) u9000_ l0 from Kd.R_mono ho0 (fun k_ hk => (.inl hk))); have HK := Aside0.mk (Kept.refl w (fun k_ => P0_ k_)); have HW0 := Aside0.mk hB.size; have HB := Aside0.mk hB; clear hB; have H : ((spec_validParams.f k l0).bind fun t419 => (if t419 = true then (some (l0, true)) else (some (([] : List (S33)), false)))) = some (r1, r2) := h; clear h; replace H := Option.bind_eq_some_iff.mp H; obtain ⟨t419, A20, H⟩ := H
 (try dsimp only at H)
 have A2 := Aside0.mk A20; clear A20
 by_cases c3 : t419 = true
 ·subst c3; rw [if_pos rfl] at H; simp only [Option.some.injEq, Prod.mk.injEq] at H; obtain ⟨rfl, rfl⟩ := H; go_enter Try.func69, Try.ntmps69; go_wp2_with (first | ((with_reducible refine gate_dst (N := 2) rfl ?_); refine zx (N := 2) (cs := #[.slice none 0 0]) (t := 25) ?_; intro gb418 hg w4 hbox hb; replace HO0 := Aside0.mk (Kd.R_below (zo HO0) hb); have BK418 := Aside0.mk (hbox); have GW418 := Aside0.mk ((by rw [hg]; exact (by first | exact HK.out.1 | exact (show Kept w _ (fun k_ => P0_ k_) from by repeat (first | (with_reducible first | exact HK.out | apply Kept.alloc | apply Kept.drewN | apply Kept.drew) | exact HK.out)).1) : w.heap.size ≤ gb418)); replace HK := Aside0.mk (Kept.below (S := (fun k_ => P0_ k_)) (by repeat (first | (with_reducible first | exact HK.out | apply Kept.alloc | apply Kept.drewN | apply Kept.drew) | exact HK.out)) hb); have GE418 := Aside0.mk ((by rw [hg]; exact (below_size (zB HB)) : w0.heap.size ≤ gb418)); replace HB := Aside0.mk (below_step (zB HB) hb); clear hb hbox hg; obtain ⟨Ao5, co5, eo5⟩ := Kd.R_slice HO0.out; subst eo5) | ((with_reducible refine gate_callee (f := 102) rfl ?_); refine goesL_ (some 5) rfl rfl Try.func102 (by kernel_rfl) rfl #[.slice Ao5 l0.length co5] rfl zl ?_; (with_reducible refine (spec_validParams.calls k _ _ l0 true _ ?side1 ?side2 A2.out).mono ?_); (case side1 => repeat (first | exact (Kd.R_reads' HO0.out).2.2 | (with_reducible refine Kd.C_alloc ?_ _) | (with_reducible refine Kd.C_drewN ?_ _) | (with_reducible refine Kd.C_drew ?_))); (case side2 => exact (Kd.R_reads' HO0.out).2.1); rintro e w6 ⟨rfl, hb⟩; refine ⟨_, rfl, ?_⟩; replace HO0 := Aside0.mk (Kd.R_below (zo HO0) hb); replace BK418 := Aside0.mk (blk_below (g := gb418) (o := .cells #[.slice none 0 0] 25 (0, 0)) (zb BK418) hb); replace HK := Aside0.mk (Kept.below (S := (fun k_ => P0_ k_)) (by repeat (first | (with_reducible first | exact HK.out | apply Kept.alloc | apply Kept.drewN | apply Kept.drew | refine Kept.setCell ?_ (.inr GW418.out) _) | exact HK.out)) hb); replace HB := Aside0.mk (below_step (zB HB) hb); (try clear hb); (try clear hb2); (try clear hk); (try clear hi); have hcz7_0 : w6.cell? ⟨gb418, 0, none⟩ = some (.slice none 0 0) := (blk_cell BK418.out 0).trans rfl; have hfz7_0 := blk_frozen BK418.out 0)); refine bodyPost_ret (results_ct rfl _ _ gb418 25 #[.slice Ao5 l0.length co5] (0, 0) _ rfl (by (with_reducible repeat (first | refine blk_drewN ?_ _ | refine blk_drew ?_ | refine blk_alloc ?_ _)); refine blk_put (cs := #[.slice none 0 0]) ?_ 0 _ rfl; (with_reducible repeat (first | refine blk_drewN ?_ _ | refine blk_drew ?_ | refine blk_alloc ?_ _)); exact BK418.out) Try.underlying25 rfl (by kernel_rfl)) rfl ?_; exact ⟨_, by first | rfl | (simp [errW_none, errW_some] <;> rfl) | (simp [*, errW_none, errW_some] <;> rfl), by (with_reducible repeat (first | apply Kd.R_alloc | apply Kd.R_drewN | apply Kd.R_drew)); exact Kd.R_mono (Kd.R_far (p := ⟨gb418, 0, none⟩) (Kd.R_types HO0.out BK418.out (by decide)) (fun _ hk => hk.2) (.slice Ao5 l0.length co5)) (fun _ hk => hk.1), by repeat (first | (with_reducible first | exact HB.out | apply below_alloc | apply pw_below_drewN | apply below_drew1 | refine below_set ?_ GE418.out) | exact HB.out), by repeat (first | (with_reducible first | exact HK.out | apply Kept.alloc | apply Kept.drewN | apply Kept.drew | refine Kept.setCell ?_ (.inr GW418.out) _) | exact HK.out)⟩
 ·replace c3 := Bool.eq_false_iff.mpr c3; subst c3; rw [if_neg (show ¬ (false = true) by decide)] at H; simp only [Option.some.injEq, Prod.mk.injEq] at H; obtain ⟨rfl, rfl⟩ := H; go_enter Try.func69, Try.ntmps69; go_wp2_with (first | ((with_reducible refine gate_dst (N := 2) rfl ?_); refine zx (N := 2) (cs := #[.slice none 0 0]) (t := 25) ?_; intro gb418 hg w8 hbox hb; replace HO0 := Aside0.mk (Kd.R_below (zo HO0) hb); have BK418 := Aside0.mk (hbox); have GW418 := Aside0.mk ((by rw [hg]; exact (by first | exact HK.out.1 | exact (show Kept w _ (fun k_ => P0_ k_) from by repeat (first | (with_reducible first | exact HK.out | apply Kept.alloc | apply Kept.drewN | apply Kept.drew) | exact HK.out)).1) : w.heap.size ≤ gb418)); replace HK := Aside0.mk (Kept.below (S := (fun k_ => P0_ k_)) (by repeat (first | (with_reducible first | exact HK.out | apply Kept.alloc | apply Kept.drewN | apply Kept.drew) | exact HK.out)) hb); have GE418 := Aside0.mk ((by rw [hg]; exact (below_size (zB HB)) : w0.heap.size ≤ gb418)); replace HB := Aside0.mk (below_step (zB HB) hb); clear hb hbox hg; obtain ⟨Ao9, co9, eo9⟩ := Kd.R_slice HO0.out; subst eo9) | ((with_reducible refine gate_callee (f := 102) rfl ?_); refine goesL_ (some 5) rfl rfl Try.func102 (by kernel_rfl) rfl #[.slice Ao9 l0.length co9] rfl zl ?_; (with_reducible refine (spec_validParams.calls k _ _ l0 false _ ?side1 ?side2 A2.out).mono ?_); (case side1 => repeat (first | exact (Kd.R_reads' HO0.out).2.2 | (with_reducible refine Kd.C_alloc ?_ _) | (with_reducible refine Kd.C_drewN ?_ _) | (with_reducible refine Kd.C_drew ?_))); (case side2 => exact (Kd.R_reads' HO0.out).2.1); rintro e w10 ⟨rfl, hb⟩; refine ⟨_, rfl, ?_⟩; replace HO0 := Aside0.mk (Kd.R_below (zo HO0) hb); replace BK418 := Aside0.mk (blk_below (g := gb418) (o := .cells #[.slice none 0 0] 25 (0, 0)) (zb BK418) hb); replace HK := Aside0.mk (Kept.below (S := (fun k_ => P0_ k_)) (by repeat (first | (with_reducible first | exact HK.out | apply Kept.alloc | apply Kept.drewN | apply Kept.drew | refine Kept.setCell ?_ (.inr GW418.out) _) | exact HK.out)) hb); replace HB := Aside0.mk (below_step (zB HB) hb); (try clear hb); (try clear hb2); (try clear hk); (try clear hi); have hcz11_0 : w10.cell? ⟨gb418, 0, none⟩ = some (.slice none 0 0) := (blk_cell BK418.out 0).trans rfl; have hfz11_0 := blk_frozen BK418.out 0)); refine bodyPost_ret (results_ct rfl _ _ gb418 25 #[.slice none 0 0] (0, 0) _ rfl (by (with_reducible repeat (first | refine blk_drewN ?_ _ | refine blk_drew ?_ | refine blk_alloc ?_ _)); refine blk_put (cs := #[.slice none 0 0]) ?_ 0 _ rfl; (with_reducible repeat (first | refine blk_drewN ?_ _ | refine blk_drew ?_ | refine blk_alloc ?_ _)); exact BK418.out) Try.underlying25 rfl (by kernel_rfl)) rfl ?_; exact ⟨_, by first | rfl | (simp [errW_none, errW_some] <;> rfl) | (simp [*, errW_none, errW_some] <;> rfl), by first | exact Kd.R_nil _ _ _ _ _ | exact Kd.N_nil _ _ _ _ _ | exact Kd.V_nil _ _ _ _ _ | exact Kd.Q_nil _ _ _ _ _ | exact Kd.S_nil _ _ _ _ _, by repeat (first | (with_reducible first | exact HB.out | apply below_alloc | apply pw_below_drewN | apply below_drew1 | refine below_set ?_ GE418.out) | exact HB.out), by repeat (first | (with_reducible first | exact HK.out | apply Kept.alloc | apply Kept.drewN | apply Kept.drew | refine Kept.setCell ?_ (.inr GW418.out) _) | exact HK.out)⟩

end Go.Proofs.Ytlpmggokgcphiaa.Q

namespace Go.Proofs.Ytlpmggokgcphiaa.Q
open Go.RowKit Go.Proofs.YtlpmggokgcphiaaL.PrintWords Go.Proofs.YtlpmggokgcphiaaL.PrintLast Go.Proofs.YtlpmggokgcphiaaL.PrintMore
attribute [local go_sem] max2_int min2_int max_two min_two max_three min_three max_four min_four   -- for this text's walks alone
set_option linter.unusedVariables false
set_option linter.unusedSimpArgs false

/-! ### spec_AddParam: function 23 -/
def spec_AddParam.l0 : Nat → Int → List (S33) → ByteArray → Int → Bool → Int → Option ((List (S33)) × Bool)
 | 0, _, _, _, _, _, _ => none
 | k + 1, x6, x421000, x422000, x422001, x422002, x422003 => if x6 < (x421000.length : Int) then (if 0 ≤ x6 then (if ((rd_T33 x421000 x6).f1) ≤ x422001 then (spec_AddParam.l0 k (wrap64 (x6 + 1)) x421000 x422000 x422001 x422002 x422003) else (if x6 ≤ (x421000.length : Int) then ((spec_copyParams.f (x421000.take (x6 : Int).toNat)).bind fun t429 => ((some (([(⟨x422000, x422001, x422002, x422003⟩ : S33)] : List (S33)) : List (S33))).bind fun y432 => (if t429.length + y432.length < 3518437208883 then ((some (t429 ++ y432 : List (S33))).bind fun y435 => ((some (x421000.drop (x6 : Int).toNat : List (S33))).bind fun y438 => (if y435.length + y438.length < 3518437208883 then ((spec_checkedSignature.f k (y435 ++ y438)).bind fun bt445 => (some (bt445.1, bt445.2))) else (none)))) else (none)))) else (none))) else (none)) else (if 0 ≤ x6 then (if x6 ≤ (x421000.length : Int) then ((spec_copyParams.f (x421000.take (x6 : Int).toNat)).bind fun t453 => ((some (([(⟨x422000, x422001, x422002, x422003⟩ : S33)] : List (S33)) : List (S33))).bind fun y456 => (if t453.length + y456.length < 3518437208883 then ((some (t453 ++ y456 : List (S33))).bind fun y459 => ((some (x421000.drop (x6 : Int).toNat : List (S33))).bind fun y462 => (if y459.length + y462.length < 3518437208883 then ((spec_checkedSignature.f k (y459 ++ y462)).bind fun bt469 => (some (bt469.1, bt469.2))) else (none)))) else (none)))) else (none)) else (none))
def spec_AddParam.f (k : Nat) (l0_0 : List (S33)) (a1_0 : ByteArray) (a1_1 : Int) (a1_2 : Bool) (a1_3 : Int) : Option ((List (S33)) × Bool) := (spec_validSignature.f k l0_0).bind fun t423 => (if t423 = true then (spec_AddParam.l0 k 0 l0_0 a1_0 a1_1 a1_2 a1_3) else (some (([] : List (S33)), false)))
theorem spec_AddParam.mono_l : ∀ k, (∀ y0 y1 y2 y3 y4 y5, LeO (spec_AddParam.l0 k y0 y1 y2 y3 y4 y5) (spec_AddParam.l0 (k + 1) y0 y1 y2 y3 y4 y5))
 | 0 => fun _ _ _ _ _ _ r h => by simp [spec_AddParam.l0] at h
 | k + 1 => by
  have ih0 := spec_AddParam.mono_l k
  ·intro y0 y1 y2 y3 y4 y5; unfold spec_AddParam.l0
   repeat' first
   | (with_reducible exact ih0 _ _ _ _ _ _)
   | (with_reducible exact spec_checkedSignature.mono _ _)
   | (with_reducible exact spec_validSignature.mono _ _)
   | (with_reducible exact LeO.refl _)
   | (with_reducible exact LeO.none _)
   | (with_reducible refine LeO.ite ?_ ?_)
   | (with_reducible refine LeO.bind ?_ (fun _ => ?_))
   | exact ih0 _ _ _ _ _ _
   | exact spec_checkedSignature.mono _ _
   | exact spec_validSignature.mono _ _
   | exact LeO.none _
   | refine LeO.ite ?_ ?_
   | refine LeO.bind ?_ (fun _ => ?_)
theorem spec_AddParam.mono : ∀ a0 a1 a2 a3 a4 k, LeO (spec_AddParam.f k a0 a1 a2 a3 a4) (spec_AddParam.f (k + 1) a0 a1 a2 a3 a4) := by
 intro a0 a1 a2 a3 a4 k; have ih0 := spec_AddParam.mono_l k; unfold spec_AddParam.f
 repeat' first
   | (with_reducible exact ih0 _ _ _ _ _ _)
   | (with_reducible exact spec_checkedSignature.mono _ _)
   | (with_reducible exact spec_validSignature.mono _ _)
   | (with_reducible exact LeO.refl _)
   | (with_reducible exact LeO.none _)
   | (with_reducible refine LeO.ite ?_ ?_)
   | (with_reducible refine LeO.bind ?_ (fun _ => ?_))
   | exact ih0 _ _ _ _ _ _
   | exact spec_checkedSignature.mono _ _
   | exact spec_validSignature.mono _ _
   | exact LeO.none _
   | refine LeO.ite ?_ ?_
   | refine LeO.bind ?_ (fun _ => ?_)
def spec_AddParam.T4 : Bool × List (List Nat × List Nat) := (true, [([], []), ([], []), ([1], [1]), ([2], [2]), ([0, 3], [0, 3]), ([4], [4]), ([5], [5]), ([6, 5], [5, 6]), ([5], [5]), ([7, 8, 5], [5, 7, 8]), ([9, 5], [5, 9]), ([10, 5], [5, 10]), ([5], [5]), ([12, 5], [5, 12]), ([11, 13, 5], [5, 11, 13]), ([5, 14], [5, 14])])
def spec_AddParam.B4 : List Nat := [0, 0, 2, 6, 15, 31, 63, 127, 63, 511, 1023, 2047, 63, 4159, 16383, 32767]
theorem spec_AddParam.tab4 : rtab .any (opsOf Try.f23 4) = spec_AddParam.T4 := by kernel_rfl
theorem spec_AddParam.bits4 : waitsOk spec_AddParam.T4.2 spec_AddParam.B4 = true := by kernel_rfl
def spec_AddParam.T6 : Bool × List (List Nat × List Nat) := (true, [([], []), ([0], [0]), ([], []), ([1, 2], [1, 2]), ([3], [3]), ([], []), ([5], [5]), ([4, 6, 4], [4, 6]), ([], []), ([8], [8]), ([], []), ([9, 10], [9, 10]), ([7, 11, 7], [7, 11]), ([12, 12], [12]), ([13], [13]), ([13], [13]), ([14, 13, 0, 1, 2, 3, 4, 5, 6, 7, 8, 9, 10, 11, 12, 13, 14, 15], [14]), ([15, 16, 0, 1, 2, 3, 4, 5, 6, 7, 8, 9, 10, 11, 12, 13, 14, 15, 16], [15])])
def spec_AddParam.B6 : List Nat := [0, 1, 0, 7, 15, 0, 32, 127, 0, 256, 0, 1792, 4095, 8191, 16383, 16383, 65535, 131071]
theorem spec_AddParam.tab6 : rtab .any (opsOf Try.f23 6) = spec_AddParam.T6 := by kernel_rfl
theorem spec_AddParam.bits6 : waitsOk spec_AddParam.T6.2 spec_AddParam.B6 = true := by kernel_rfl
set_option maxHeartbeats 8000000 in
set_option maxRecDepth 100000 in
theorem spec_AddParam.calls (k : Nat) (A0_0 : Option Addr) (c0_0 : Nat) (l0_0 : List (S33)) (a1_0 : ByteArray) (a1_1 : Int) (a1_2 : Bool) (a1_3 : Int) (r1 : List (S33)) (r2 : Bool) (w : World) (hr0_0 : Kd.C k33 w A0_0 l0_0.length l0_0) (hc0_0 : l0_0.length ≤ c0_0) (h : spec_AddParam.f k l0_0 a1_0 a1_1 a1_2 a1_3 = some (r1, r2)) :
  Calls Try.prog 23 #[.agg #[.slice A0_0 l0_0.length c0_0], .agg #[.string a1_0, .int .i64 a1_1, .bool a1_2, .int .i64 a1_3]] w fun e w' => ∃ v0_ : Value, e = .returned (.tuple #[.agg #[v0_], .bool r2]) ∧ Kd.R k33 33 w' w.heap.size (fun _ => True) v0_ r1 ∧ Below w.heap.size w w' := by
 have hu25 := Try.underlying25; have hu33 := Try.underlying33; have HR0_0 := Aside0.mk hr0_0; have HC0_0 := Aside0.mk hc0_0; clear hr0_0 hc0_0; have HB := Aside0.mk (Below.refl w.heap.size w); have H : ((spec_validSignature.f k l0_0).bind fun t423 => (if t423 = true then (spec_AddParam.l0 k 0 l0_0 a1_0 a1_1 a1_2 a1_3) else (some (([] : List (S33)), false)))) = some (r1, r2) := h; clear h; replace H := Option.bind_eq_some_iff.mp H; obtain ⟨t423, A30, H⟩ := H
 (try dsimp only at H)
 have A3 := Aside0.mk A30; clear A30
 by_cases c4 : t423 = true
 ·subst c4; rw [if_pos rfl] at H; have H' := Aside0.mk H; clear H; go_enter Try.func23, Try.ntmps23; go_wp2_with (first | ((with_reducible refine gate_dst (N := 2) rfl ?_); refine zx (N := 2) (cs := #[.slice A0_0 l0_0.length c0_0]) (t := 25) ?_; intro gb420 hg w5 hbox hb; have BK420 := Aside0.mk (hbox); have GW420 := Aside0.mk ((by rw [hg]; exact (below_size (zB HB)) : w.heap.size ≤ gb420)); have GE420 := GW420; replace HB := Aside0.mk (below_step (zB HB) hb); clear hb hbox hg) | ((with_reducible refine gate_dst (N := 3) rfl ?_); refine zx (N := 3) (cs := #[.string a1_0, .int .i64 a1_1, .bool a1_2, .int .i64 a1_3]) (t := 33) ?_; intro gb421 hg w6 hbox hb; have BK421 := Aside0.mk (hbox); have GW421 := Aside0.mk ((by rw [hg]; exact (below_size (zB HB)) : w.heap.size ≤ gb421)); have GE421 := GW421; replace HB := Aside0.mk (below_step (zB HB) hb); have NB420_421 := Aside0.mk ((by rw [hg]; exact Nat.ne_of_lt (blk_lt (g := gb420) (o := .cells #[.slice A0_0 l0_0.length c0_0] 25 (0, 0)) (zb BK420)) : gb420 ≠ gb421)); have NB421_420 := Aside0.mk NB420_421.out.symm; replace BK420 := Aside0.mk (blk_below (g := gb420) (o := .cells #[.slice A0_0 l0_0.length c0_0] 25 (0, 0)) (zb BK420) hb); clear hb hbox hg) | ((with_reducible refine gate_dst (N := 4) rfl ?_); refine zx (N := 4) (cs := #[.slice none 0 0]) (t := 25) ?_; intro gb422 hg w7 hbox hb; have BK422 := Aside0.mk (hbox); have GW422 := Aside0.mk ((by rw [hg]; exact (below_size (zB HB)) : w.heap.size ≤ gb422)); have GE422 := GW422; replace HB := Aside0.mk (below_step (zB HB) hb); have NB420_422 := Aside0.mk ((by rw [hg]; exact Nat.ne_of_lt (blk_lt (g := gb420) (o := .cells #[.slice A0_0 l0_0.length c0_0] 25 (0, 0)) (zb BK420)) : gb420 ≠ gb422)); have NB422_420 := Aside0.mk NB420_422.out.symm; replace BK420 := Aside0.mk (blk_below (g := gb420) (o := .cells #[.slice A0_0 l0_0.length c0_0] 25 (0, 0)) (zb BK420) hb); have NB421_422 := Aside0.mk ((by rw [hg]; exact Nat.ne_of_lt (blk_lt (g := gb421) (o := .cells #[.string a1_0, .int .i64 a1_1, .bool a1_2, .int .i64 a1_3] 33 (0, 0)) (zb BK421)) : gb421 ≠ gb422)); have NB422_421 := Aside0.mk NB421_422.out.symm; replace BK421 := Aside0.mk (blk_below (g := gb421) (o := .cells #[.string a1_0, .int .i64 a1_1, .bool a1_2, .int .i64 a1_3] 33 (0, 0)) (zb BK421) hb); clear hb hbox hg; have hnb8 := NB420_421.out; have hnc8 := NB421_420.out; have hnb9 := NB420_422.out; have hnc9 := NB422_420.out; have hcz10_0 : w7.cell? ⟨gb420, 0, none⟩ = some (.slice A0_0 l0_0.length c0_0) := (blk_cell BK420.out 0).trans rfl; have hfz10_0 := blk_frozen BK420.out 0) | ((with_reducible refine gate_callee (f := 56) rfl ?_); refine goesL_ (some 8) rfl rfl Try.func56 (by kernel_rfl) rfl #[.agg #[.slice A0_0 l0_0.length c0_0]] rfl zl ?_; (with_reducible refine (spec_validSignature.calls k _ _ l0_0 true _ ?side1 ?side2 A3.out).mono ?_); (case side1 => repeat (first | exact (Kd.C_below HR0_0.out HB.out) | (with_reducible refine Kd.C_alloc ?_ _) | (with_reducible refine Kd.C_drewN ?_ _) | (with_reducible refine Kd.C_drew ?_))); (case side2 => exact HC0_0.out); rintro e w11 ⟨rfl, hb⟩; refine ⟨_, rfl, ?_⟩; replace BK420 := Aside0.mk (blk_below (g := gb420) (o := .cells #[.slice A0_0 l0_0.length c0_0] 25 (0, 0)) (zb BK420) hb); replace BK421 := Aside0.mk (blk_below (g := gb421) (o := .cells #[.string a1_0, .int .i64 a1_1, .bool a1_2, .int .i64 a1_3] 33 (0, 0)) (zb BK421) hb); replace BK422 := Aside0.mk (blk_below (g := gb422) (o := .cells #[.slice none 0 0] 25 (0, 0)) (zb BK422) hb); replace HB := Aside0.mk (below_step (zB HB) hb); (try clear hb); (try clear hb2); (try clear hk); (try clear hi))); go_loopg [6] k (fun kq v6 w' => ∃ (x6_1 : Int), v6 = .int .i64 x6_1 ∧ Aside0 (spec_AddParam.l0 kq x6_1 l0_0 a1_0 a1_1 a1_2 a1_3 = some (r1, r2)) ∧ Aside0 (kq ≤ k) ∧ Aside0 (w'.heap[gb420]? = some (.cells #[(.slice A0_0 l0_0.length c0_0)] 25 (0, 0))) ∧ Aside0 (w'.heap[gb421]? = some (.cells #[.string a1_0, .int .i64 a1_1, .bool a1_2, .int .i64 a1_3] 33 (0, 0))) ∧ Aside0 (w'.heap[gb422]? = some (.cells #[(.slice none 0 0)] 25 (0, 0))) ∧ Aside0 (Below w.heap.size w w'))
  case atStart => exact ⟨(0), zr, H', ⟨Nat.le_refl _⟩, ⟨zb BK420⟩, ⟨zb BK421⟩, ⟨zb BK422⟩, ⟨zB HB⟩⟩
  case round =>
   clear H'; (try clear c2); (try clear p2); (try clear c4); (try clear c5); (try clear c8); (try clear c9); (try clear hcz10_0); (try clear hfz10_0); obtain ⟨x6_1, rfl, HA, HK1, BK420, BK421, BK422, HB⟩ := hrel
   cases gk with
   | zero => exact absurd HA.out (by simp [spec_AddParam.l0])
   | succ k1 =>
    have H := HA.out; clear HA; simp only [spec_AddParam.l0] at H
    by_cases c12 : x6_1 < (l0_0.length : Int)
    ·rw [if_pos c12] at H; have c12b0 : decide (x6_1 < (l0_0.length : Int)) = true := decide_eq_true c12; clear c12
     by_cases c13 : 0 ≤ x6_1
     ·rw [if_pos c13] at H; have c13b0 : decide (0 ≤ x6_1) = true := decide_eq_true c13; clear c13
      by_cases c14 : ((rd_T33 l0_0 x6_1).f1) ≤ a1_1
      ·rw [if_pos c14] at H; have c14b0 : decide (((rd_T33 l0_0 x6_1).f1) ≤ a1_1) = true := decide_eq_true c14; clear c14; have H' := Aside0.mk H; clear H
       try go_wp2
       replace BK420 := Aside0.mk (blk_drew BK420.out); replace BK421 := Aside0.mk (blk_drew BK421.out); replace BK422 := Aside0.mk (blk_drew BK422.out); replace HB := Aside0.mk (below_drew1 HB.out); have p424 : 0 ≤ (x6_1 : Int) := of_decide_eq_true za; have q424 : x6_1 < (l0_0.length : Int) := of_decide_eq_true za; obtain ⟨ad424, e424, hx424_0, hx424_1, hx424_2, hx424_3⟩ := at_T33 HR0_0.out x6_1 p424 q424; have hw424_3 := hx424_3; have hw424_2 := hx424_2; have hw424_1 := hx424_1; have hw424_0 := hx424_0
       cases e424
       replace hx424_0 := (HB.out.cell (World.block_lt_of_cell? w _ hx424_0)).trans hx424_0; replace hx424_1 := (HB.out.cell (World.block_lt_of_cell? w _ hx424_1)).trans hx424_1; replace hx424_2 := (HB.out.cell (World.block_lt_of_cell? w _ hx424_2)).trans hx424_2; replace hx424_3 := (HB.out.cell (World.block_lt_of_cell? w _ hx424_3)).trans hx424_3; replace p424 := eq_true p424; replace q424 := eq_true q424; refine start_ (n := 16) (S := fun w' => w'.cell? ⟨gb420, 0, none⟩ = some (.slice (some ad424) l0_0.length c0_0) ∧ w'.cell? ⟨gb421, 0, none⟩ = some (.string a1_0) ∧ w'.cell? ⟨gb421, 1, none⟩ = some (.int .i64 a1_1) ∧ w'.cell? ⟨gb421, 2, none⟩ = some (.bool a1_2) ∧ w'.cell? ⟨gb421, 3, none⟩ = some (.int .i64 a1_3) ∧ w'.cell? (ad424.add ((x6_1).toNat * 4)) = some (.string ((rd_T33 l0_0 x6_1).f0)) ∧ w'.cell? ⟨(ad424.add ((x6_1).toNat * 4)).block, (ad424.add ((x6_1).toNat * 4)).off + 1, none⟩ = some (.int .i64 ((rd_T33 l0_0 x6_1).f1)) ∧ w'.cell? ⟨(ad424.add ((x6_1).toNat * 4)).block, (ad424.add ((x6_1).toNat * 4)).off + 2, none⟩ = some (.bool ((rd_T33 l0_0 x6_1).f2)) ∧ w'.cell? ⟨(ad424.add ((x6_1).toNat * 4)).block, (ad424.add ((x6_1).toNat * 4)).off + 3, none⟩ = some (.int .i64 ((rd_T33 l0_0 x6_1).f3))) (ds := []) #[false, false, false, false, false, false, false, false, false, false, false, false, false, false, false, false] (by kernel_rfl) rfl rfl ⟨(blk_cell BK420.out 0).trans rfl, (blk_cell BK421.out 0).trans rfl, (blk_cell BK421.out 1).trans rfl, (blk_cell BK421.out 2).trans rfl, (blk_cell BK421.out 3).trans rfl, ((HB.out.cell (World.block_lt_of_cell? w _ hw424_0)).trans hw424_0), ((HB.out.cell (World.block_lt_of_cell? w _ hw424_1)).trans hw424_1), ((HB.out.cell (World.block_lt_of_cell? w _ hw424_2)).trans hw424_2), ((HB.out.cell (World.block_lt_of_cell? w _ hw424_3)).trans hw424_3)⟩ (fun hHeld => ?_); refine with_tabW spec_AddParam.tab4 spec_AddParam.bits4 (fun HT_ HW_ => ?_); generalize wr.drew = w15 at BK420 BK421 BK422 HB hx424_0 hx424_1 hx424_2 hx424_3 hHeld ⊢; refine pure_ (i := 0) (N := some 11) (v := ?_) (a' := ?_) #[true, false, false, false, false, false, false, false, false, false, false, false, false, false, false, false] rfl rfl (any_of HT_.out (by kernel_rfl)) (fun _ _ _ h => h) (Or.inl ⟨by rfl, ?_⟩) ?_ ?_; rotate_left
       ·intro w'; go_simp; with_reducible rfl
       rotate_left
       ·simp only [Act.put, List.setIfInBounds_toArray, List.set_cons_zero, List.set_cons_succ, i64_w, i32_w]; rfl
       refine pure_ (i := 1) (N := some 12) (v := ?_) (a' := ?_) #[true, true, false, false, false, false, false, false, false, false, false, false, false, false, false, false] rfl rfl (any_of HT_.out (by kernel_rfl)) (fun _ _ _ h => h) (Or.inl ⟨by rfl, ?_⟩) ?_ ?_; rotate_left
       ·intro w'; go_simp; with_reducible rfl
       rotate_left
       ·simp only [Act.put, List.setIfInBounds_toArray, List.set_cons_zero, List.set_cons_succ, i64_w, i32_w]; rfl
       refine take_ (i := 2) (N := some 13) (v := ?_) (a' := ?_) #[true, true, true, false, false, false, false, false, false, false, false, false, false, false, false, false] rfl rfl (take_ofW HT_.out HW_.out (by kernel_rfl)) (fun _ _ _ h => h) (Or.inl ⟨by rfl, ?_⟩) hHeld ?_ ?_; rotate_left
       ·rintro w' ⟨s0, s1, s2, s3, s4, s5, s6, s7, s8⟩; go_simp; with_reducible rfl
       rotate_left
       ·simp only [Act.put, List.setIfInBounds_toArray, List.set_cons_zero, List.set_cons_succ, i64_w, i32_w]; rfl
       refine pure_ (i := 3) (N := some 14) (v := ?_) (a' := ?_) #[true, true, true, true, false, false, false, false, false, false, false, false, false, false, false, false] rfl rfl (any_of HT_.out (by kernel_rfl)) (fun _ _ _ h => h) (Or.inl ⟨by rfl, ?_⟩) ?_ ?_; rotate_left
       ·intro w'; go_simp; with_reducible rfl
       rotate_left
       ·simp only [Act.put, List.setIfInBounds_toArray, List.set_cons_zero, List.set_cons_succ, i64_w, i32_w]; rfl
       refine pure_ (i := 4) (N := some 15) (v := ?_) (a' := ?_) #[true, true, true, true, true, false, false, false, false, false, false, false, false, false, false, false] rfl rfl (any_of HT_.out (by kernel_rfl)) (fun _ _ _ h => h) (Or.inl ⟨by rfl, ?_⟩) ?_ ?_; rotate_left
       ·intro w'; go_simp; with_reducible rfl
       rotate_left
       ·simp only [Act.put, List.setIfInBounds_toArray, List.set_cons_zero, List.set_cons_succ, i64_w, i32_w]; rfl
       refine pure_ (i := 5) (N := some 16) (v := ?_) (a' := ?_) #[true, true, true, true, true, true, false, false, false, false, false, false, false, false, false, false] rfl rfl (any_of HT_.out (by kernel_rfl)) (fun _ _ _ h => h) (Or.inl ⟨by rfl, ?_⟩) ?_ ?_; rotate_left
       ·intro w'; go_simp; with_reducible rfl
       rotate_left
       ·simp only [Act.put, List.setIfInBounds_toArray, List.set_cons_zero, List.set_cons_succ, i64_w, i32_w]; rfl
       refine pure_ (i := 6) (N := some 17) (v := ?_) (a' := ?_) #[true, true, true, true, true, true, true, false, false, false, false, false, false, false, false, false] rfl rfl (any_of HT_.out (by kernel_rfl)) (fun _ _ _ h => h) (Or.inl ⟨by rfl, ?_⟩) ?_ ?_; rotate_left
       ·intro w'; go_simp; with_reducible rfl
       rotate_left
       ·simp only [Act.put, List.setIfInBounds_toArray, List.set_cons_zero, List.set_cons_succ, i64_w, i32_w]; rfl
       refine pure_ (i := 8) (N := some 19) (v := ?_) (a' := ?_) #[true, true, true, true, true, true, true, false, true, false, false, false, false, false, false, false] rfl rfl (any_of HT_.out (by kernel_rfl)) (fun _ _ _ h => h) (Or.inl ⟨by rfl, ?_⟩) ?_ ?_; rotate_left
       ·intro w'; go_simp; with_reducible rfl
       rotate_left
       ·simp only [Act.put, List.setIfInBounds_toArray, List.set_cons_zero, List.set_cons_succ, i64_w, i32_w]; rfl
       refine pure_ (i := 12) (N := some 23) (v := ?_) (a' := ?_) #[true, true, true, true, true, true, true, false, true, false, false, false, true, false, false, false] rfl rfl (any_of HT_.out (by kernel_rfl)) (fun _ _ _ h => h) (Or.inl ⟨by rfl, ?_⟩) ?_ ?_; rotate_left
       ·intro w'; go_simp; with_reducible rfl
       rotate_left
       ·simp only [Act.put, List.setIfInBounds_toArray, List.set_cons_zero, List.set_cons_succ, i64_w, i32_w]; rfl
       refine take_ (i := 7) (N := some 18) (v := ?_) (a' := ?_) #[true, true, true, true, true, true, true, true, true, false, false, false, true, false, false, false] rfl rfl (take_ofW HT_.out HW_.out (by kernel_rfl)) (fun _ _ _ h => h) (Or.inl ⟨by rfl, ?_⟩) hHeld ?_ ?_; rotate_left
       ·rintro w' ⟨s0, s1, s2, s3, s4, s5, s6, s7, s8⟩; go_simp; with_reducible rfl
       rotate_left
       ·simp only [Act.put, List.setIfInBounds_toArray, List.set_cons_zero, List.set_cons_succ, i64_w, i32_w]; rfl
       refine pure_ (i := 9) (N := some 20) (v := ?_) (a' := ?_) #[true, true, true, true, true, true, true, true, true, true, false, false, true, false, false, false] rfl rfl (any_of HT_.out (by kernel_rfl)) (fun _ _ _ h => h) (Or.inl ⟨by rfl, ?_⟩) ?_ ?_; rotate_left
       ·intro w'; go_simp; with_reducible rfl
       rotate_left
       ·simp only [Act.put, List.setIfInBounds_toArray, List.set_cons_zero, List.set_cons_succ, i64_w, i32_w]; rfl
       refine pure_ (i := 10) (N := some 21) (v := ?_) (a' := ?_) #[true, true, true, true, true, true, true, true, true, true, true, false, true, false, false, false] rfl rfl (any_of HT_.out (by kernel_rfl)) (fun _ _ _ h => h) (Or.inl ⟨by rfl, ?_⟩) ?_ ?_; rotate_left
       ·intro w'; go_simp; with_reducible rfl
       rotate_left
       ·simp only [Act.put, List.setIfInBounds_toArray, List.set_cons_zero, List.set_cons_succ, i64_w, i32_w]; rfl
       refine take_ (i := 11) (N := some 22) (v := ?_) (a' := ?_) #[true, true, true, true, true, true, true, true, true, true, true, true, true, false, false, false] rfl rfl (take_ofW HT_.out HW_.out (by kernel_rfl)) (fun _ _ _ h => h) (Or.inl ⟨by rfl, ?_⟩) hHeld ?_ ?_; rotate_left
       ·rintro w' ⟨s0, s1, s2, s3, s4, s5, s6, s7, s8⟩; go_simp; with_reducible rfl
       rotate_left
       ·simp only [Act.put, List.setIfInBounds_toArray, List.set_cons_zero, List.set_cons_succ, i64_w, i32_w]; rfl
       refine take_ (i := 13) (N := some 24) (v := ?_) (a' := ?_) #[true, true, true, true, true, true, true, true, true, true, true, true, true, true, false, false] rfl rfl (take_ofW HT_.out HW_.out (by kernel_rfl)) (fun _ _ _ h => h) (Or.inl ⟨by rfl, ?_⟩) hHeld ?_ ?_; rotate_left
       ·rintro w' ⟨s0, s1, s2, s3, s4, s5, s6, s7, s8⟩; go_simp; with_reducible rfl
       rotate_left
       ·simp only [Act.put, List.setIfInBounds_toArray, List.set_cons_zero, List.set_cons_succ, i64_w, i32_w]; rfl
       refine pure_ (i := 14) (N := some 25) (v := ?_) (a' := ?_) #[true, true, true, true, true, true, true, true, true, true, true, true, true, true, true, false] rfl rfl (any_of HT_.out (by kernel_rfl)) (fun _ _ _ h => h) (Or.inl ⟨by rfl, ?_⟩) ?_ ?_; rotate_left
       ·intro w'; go_simp; with_reducible rfl
       rotate_left
       ·simp only [Act.put, List.setIfInBounds_toArray, List.set_cons_zero, List.set_cons_succ, i64_w, i32_w]; rfl
       refine pure_ (i := 15) (N := some 26) (v := ?_) (a' := ?_) #[true, true, true, true, true, true, true, true, true, true, true, true, true, true, true, true] rfl rfl (any_of HT_.out (by kernel_rfl)) (fun _ _ _ h => h) (Or.inl ⟨by rfl, ?_⟩) ?_ ?_; rotate_left
       ·intro w'; go_simp; with_reducible rfl
       rotate_left
       ·simp only [Act.put, List.setIfInBounds_toArray, List.set_cons_zero, List.set_cons_succ, i64_w, i32_w]; rfl
       refine done_ (done_of HT_.out (by kernel_rfl)) ?_
       try go_wp2
       go_roundg k1
       case measure => have := HK1.out; omega
       case rel => exact ⟨(wrap64 (x6_1 + 1)), zr, H', ⟨by have := HK1.out; omega⟩, ⟨zb BK420⟩, ⟨zb BK421⟩, ⟨zb BK422⟩, ⟨zB HB⟩⟩
      ·rw [if_neg c14] at H; have c14b0 : decide (((rd_T33 l0_0 x6_1).f1) ≤ a1_1) = false := decide_eq_false c14; clear c14; have c16b0 := eq_true (of_decide_eq_true za : 0 ≤ x6_1)
       by_cases c17 : x6_1 ≤ (l0_0.length : Int)
       ·rw [if_pos c17] at H; have c17b0 := eq_true c17; have c17b1 : decide (x6_1 ≤ (l0_0.length : Int)) = true := decide_eq_true c17; clear c17; obtain ⟨y425, hy425⟩ : ∃ y_ : List (S33), y_ = (l0_0.take (x6_1 : Int).toNat) := ⟨_, rfl⟩
        replace H : ((spec_copyParams.f y425).bind fun t429 => ((some (([(⟨a1_0, a1_1, a1_2, a1_3⟩ : S33)] : List (S33)) : List (S33))).bind fun y432 => (if t429.length + y432.length < 3518437208883 then ((some (t429 ++ y432 : List (S33))).bind fun y435 => ((some (l0_0.drop (x6_1 : Int).toNat : List (S33))).bind fun y438 => (if y435.length + y438.length < 3518437208883 then ((spec_checkedSignature.f k1 (y435 ++ y438)).bind fun bt445 => (some (bt445.1, bt445.2))) else (none)))) else (none)))) = some (r1, r2) := by first | (rw [hy425]; with_reducible exact H) | (have H2_ := (Option.bind_some _ _).symm.trans H; rw [hy425]; with_reducible exact H2_) | (have H2_ := (Option.bind_some _ _).symm.trans H; with_reducible exact H2_) | with_reducible exact H | (rw [hy425]; exact H) | exact H
        have Ny425 := Aside0.mk hy425; clear hy425; replace H := Option.bind_eq_some_iff.mp H; obtain ⟨t429, A180, H⟩ := H
        (try dsimp only at H)
        have A18 := Aside0.mk A180; clear A180; obtain ⟨y432, hy432⟩ : ∃ y_ : List (S33), y_ = (([(⟨a1_0, a1_1, a1_2, a1_3⟩ : S33)] : List (S33))) := ⟨_, rfl⟩
        replace H : (if t429.length + y432.length < 3518437208883 then ((some (t429 ++ y432 : List (S33))).bind fun y435 => ((some (l0_0.drop (x6_1 : Int).toNat : List (S33))).bind fun y438 => (if y435.length + y438.length < 3518437208883 then ((spec_checkedSignature.f k1 (y435 ++ y438)).bind fun bt445 => (some (bt445.1, bt445.2))) else (none)))) else (none)) = some (r1, r2) := by first | (rw [hy432]; with_reducible exact H) | (have H2_ := (Option.bind_some _ _).symm.trans H; rw [hy432]; with_reducible exact H2_) | (have H2_ := (Option.bind_some _ _).symm.trans H; with_reducible exact H2_) | with_reducible exact H | (rw [hy432]; exact H) | exact H
        have Ny432 := Aside0.mk hy432; clear hy432
        by_cases c19 : t429.length + y432.length < 3518437208883
        ·rw [if_pos c19] at H; have LMc19 := Aside0.mk c19; clear c19; obtain ⟨y435, hy435⟩ : ∃ y_ : List (S33), y_ = (t429 ++ y432) := ⟨_, rfl⟩
         replace H : ((some (l0_0.drop (x6_1 : Int).toNat : List (S33))).bind fun y438 => (if y435.length + y438.length < 3518437208883 then ((spec_checkedSignature.f k1 (y435 ++ y438)).bind fun bt445 => (some (bt445.1, bt445.2))) else (none))) = some (r1, r2) := by first | (rw [hy435]; with_reducible exact H) | (have H2_ := (Option.bind_some _ _).symm.trans H; rw [hy435]; with_reducible exact H2_) | (have H2_ := (Option.bind_some _ _).symm.trans H; with_reducible exact H2_) | with_reducible exact H | (rw [hy435]; exact H) | exact H
         have Ny435 := Aside0.mk hy435; clear hy435; have c20b0 := eq_true (of_decide_eq_true za : 0 ≤ x6_1); have c21b0 := eq_true (of_decide_eq_true za : x6_1 ≤ (l0_0.length : Int)); obtain ⟨y438, hy438⟩ : ∃ y_ : List (S33), y_ = (l0_0.drop (x6_1 : Int).toNat) := ⟨_, rfl⟩
         replace H : (if y435.length + y438.length < 3518437208883 then ((spec_checkedSignature.f k1 (y435 ++ y438)).bind fun bt445 => (some (bt445.1, bt445.2))) else (none)) = some (r1, r2) := by first | (rw [hy438]; with_reducible exact H) | (have H2_ := (Option.bind_some _ _).symm.trans H; rw [hy438]; with_reducible exact H2_) | (have H2_ := (Option.bind_some _ _).symm.trans H; with_reducible exact H2_) | with_reducible exact H | (rw [hy438]; exact H) | exact H
         have Ny438 := Aside0.mk hy438; clear hy438
         by_cases c22 : y435.length + y438.length < 3518437208883
         ·rw [if_pos c22] at H; have LMc22 := Aside0.mk c22; clear c22; obtain ⟨y442, hy442⟩ : ∃ y_ : List (S33), y_ = (y435 ++ y438) := ⟨_, rfl⟩
          replace H : ((spec_checkedSignature.f k1 y442).bind fun bt445 => (some (bt445.1, bt445.2))) = some (r1, r2) := by first | (rw [hy442]; with_reducible exact H) | (have H2_ := (Option.bind_some _ _).symm.trans H; rw [hy442]; with_reducible exact H2_) | (have H2_ := (Option.bind_some _ _).symm.trans H; with_reducible exact H2_) | with_reducible exact H | (rw [hy442]; exact H) | exact H
          have Ny442 := Aside0.mk hy442; clear hy442; replace H := Option.bind_eq_some_iff.mp H; obtain ⟨⟨t445, t448⟩, A230, H⟩ := H
          (try dsimp only at H)
          have A23 := Aside0.mk A230; clear A230; simp only [Option.some.injEq, Prod.mk.injEq] at H; obtain ⟨rfl, rfl⟩ := H
          try go_wp2
          replace BK420 := Aside0.mk (blk_drew BK420.out); replace BK421 := Aside0.mk (blk_drew BK421.out); replace BK422 := Aside0.mk (blk_drew BK422.out); replace HB := Aside0.mk (below_drew1 HB.out); have p424 : 0 ≤ (x6_1 : Int) := of_decide_eq_true za; have q424 : x6_1 < (l0_0.length : Int) := of_decide_eq_true za; obtain ⟨ad424, e424, hx424_0, hx424_1, hx424_2, hx424_3⟩ := at_T33 HR0_0.out x6_1 p424 q424; have hw424_3 := hx424_3; have hw424_2 := hx424_2; have hw424_1 := hx424_1; have hw424_0 := hx424_0
          cases e424
          replace hx424_0 := (HB.out.cell (World.block_lt_of_cell? w _ hx424_0)).trans hx424_0; replace hx424_1 := (HB.out.cell (World.block_lt_of_cell? w _ hx424_1)).trans hx424_1; replace hx424_2 := (HB.out.cell (World.block_lt_of_cell? w _ hx424_2)).trans hx424_2; replace hx424_3 := (HB.out.cell (World.block_lt_of_cell? w _ hx424_3)).trans hx424_3; replace p424 := eq_true p424; replace q424 := eq_true q424; refine start_ (n := 16) (S := fun w' => w'.cell? ⟨gb420, 0, none⟩ = some (.slice (some ad424) l0_0.length c0_0) ∧ w'.cell? ⟨gb421, 0, none⟩ = some (.string a1_0) ∧ w'.cell? ⟨gb421, 1, none⟩ = some (.int .i64 a1_1) ∧ w'.cell? ⟨gb421, 2, none⟩ = some (.bool a1_2) ∧ w'.cell? ⟨gb421, 3, none⟩ = some (.int .i64 a1_3) ∧ w'.cell? (ad424.add ((x6_1).toNat * 4)) = some (.string ((rd_T33 l0_0 x6_1).f0)) ∧ w'.cell? ⟨(ad424.add ((x6_1).toNat * 4)).block, (ad424.add ((x6_1).toNat * 4)).off + 1, none⟩ = some (.int .i64 ((rd_T33 l0_0 x6_1).f1)) ∧ w'.cell? ⟨(ad424.add ((x6_1).toNat * 4)).block, (ad424.add ((x6_1).toNat * 4)).off + 2, none⟩ = some (.bool ((rd_T33 l0_0 x6_1).f2)) ∧ w'.cell? ⟨(ad424.add ((x6_1).toNat * 4)).block, (ad424.add ((x6_1).toNat * 4)).off + 3, none⟩ = some (.int .i64 ((rd_T33 l0_0 x6_1).f3))) (ds := []) #[false, false, false, false, false, false, false, false, false, false, false, false, false, false, false, false] (by kernel_rfl) rfl rfl ⟨(blk_cell BK420.out 0).trans rfl, (blk_cell BK421.out 0).trans rfl, (blk_cell BK421.out 1).trans rfl, (blk_cell BK421.out 2).trans rfl, (blk_cell BK421.out 3).trans rfl, ((HB.out.cell (World.block_lt_of_cell? w _ hw424_0)).trans hw424_0), ((HB.out.cell (World.block_lt_of_cell? w _ hw424_1)).trans hw424_1), ((HB.out.cell (World.block_lt_of_cell? w _ hw424_2)).trans hw424_2), ((HB.out.cell (World.block_lt_of_cell? w _ hw424_3)).trans hw424_3)⟩ (fun hHeld => ?_); refine with_tabW spec_AddParam.tab4 spec_AddParam.bits4 (fun HT_ HW_ => ?_); generalize wr.drew = w24 at BK420 BK421 BK422 HB hx424_0 hx424_1 hx424_2 hx424_3 hHeld ⊢; refine pure_ (i := 0) (N := some 11) (v := ?_) (a' := ?_) #[true, false, false, false, false, false, false, false, false, false, false, false, false, false, false, false] rfl rfl (any_of HT_.out (by kernel_rfl)) (fun _ _ _ h => h) (Or.inl ⟨by rfl, ?_⟩) ?_ ?_; rotate_left
          ·intro w'; go_simp; with_reducible rfl
          rotate_left
          ·simp only [Act.put, List.setIfInBounds_toArray, List.set_cons_zero, List.set_cons_succ, i64_w, i32_w]; rfl
          refine pure_ (i := 1) (N := some 12) (v := ?_) (a' := ?_) #[true, true, false, false, false, false, false, false, false, false, false, false, false, false, false, false] rfl rfl (any_of HT_.out (by kernel_rfl)) (fun _ _ _ h => h) (Or.inl ⟨by rfl, ?_⟩) ?_ ?_; rotate_left
          ·intro w'; go_simp; with_reducible rfl
          rotate_left
          ·simp only [Act.put, List.setIfInBounds_toArray, List.set_cons_zero, List.set_cons_succ, i64_w, i32_w]; rfl
          refine take_ (i := 2) (N := some 13) (v := ?_) (a' := ?_) #[true, true, true, false, false, false, false, false, false, false, false, false, false, false, false, false] rfl rfl (take_ofW HT_.out HW_.out (by kernel_rfl)) (fun _ _ _ h => h) (Or.inl ⟨by rfl, ?_⟩) hHeld ?_ ?_; rotate_left
          ·rintro w' ⟨s0, s1, s2, s3, s4, s5, s6, s7, s8⟩; go_simp; with_reducible rfl
          rotate_left
          ·simp only [Act.put, List.setIfInBounds_toArray, List.set_cons_zero, List.set_cons_succ, i64_w, i32_w]; rfl
          refine pure_ (i := 3) (N := some 14) (v := ?_) (a' := ?_) #[true, true, true, true, false, false, false, false, false, false, false, false, false, false, false, false] rfl rfl (any_of HT_.out (by kernel_rfl)) (fun _ _ _ h => h) (Or.inl ⟨by rfl, ?_⟩) ?_ ?_; rotate_left
          ·intro w'; go_simp; with_reducible rfl
          rotate_left
          ·simp only [Act.put, List.setIfInBounds_toArray, List.set_cons_zero, List.set_cons_succ, i64_w, i32_w]; rfl
          refine pure_ (i := 4) (N := some 15) (v := ?_) (a' := ?_) #[true, true, true, true, true, false, false, false, false, false, false, false, false, false, false, false] rfl rfl (any_of HT_.out (by kernel_rfl)) (fun _ _ _ h => h) (Or.inl ⟨by rfl, ?_⟩) ?_ ?_; rotate_left
          ·intro w'; go_simp; with_reducible rfl
          rotate_left
          ·simp only [Act.put, List.setIfInBounds_toArray, List.set_cons_zero, List.set_cons_succ, i64_w, i32_w]; rfl
          refine pure_ (i := 5) (N := some 16) (v := ?_) (a' := ?_) #[true, true, true, true, true, true, false, false, false, false, false, false, false, false, false, false] rfl rfl (any_of HT_.out (by kernel_rfl)) (fun _ _ _ h => h) (Or.inl ⟨by rfl, ?_⟩) ?_ ?_; rotate_left
          ·intro w'; go_simp; with_reducible rfl
          rotate_left
          ·simp only [Act.put, List.setIfInBounds_toArray, List.set_cons_zero, List.set_cons_succ, i64_w, i32_w]; rfl
          refine pure_ (i := 6) (N := some 17) (v := ?_) (a' := ?_) #[true, true, true, true, true, true, true, false, false, false, false, false, false, false, false, false] rfl rfl (any_of HT_.out (by kernel_rfl)) (fun _ _ _ h => h) (Or.inl ⟨by rfl, ?_⟩) ?_ ?_; rotate_left
          ·intro w'; go_simp; with_reducible rfl
          rotate_left
          ·simp only [Act.put, List.setIfInBounds_toArray, List.set_cons_zero, List.set_cons_succ, i64_w, i32_w]; rfl
          refine pure_ (i := 8) (N := some 19) (v := ?_) (a' := ?_) #[true, true, true, true, true, true, true, false, true, false, false, false, false, false, false, false] rfl rfl (any_of HT_.out (by kernel_rfl)) (fun _ _ _ h => h) (Or.inl ⟨by rfl, ?_⟩) ?_ ?_; rotate_left
          ·intro w'; go_simp; with_reducible rfl
          rotate_left
          ·simp only [Act.put, List.setIfInBounds_toArray, List.set_cons_zero, List.set_cons_succ, i64_w, i32_w]; rfl
          refine pure_ (i := 12) (N := some 23) (v := ?_) (a' := ?_) #[true, true, true, true, true, true, true, false, true, false, false, false, true, false, false, false] rfl rfl (any_of HT_.out (by kernel_rfl)) (fun _ _ _ h => h) (Or.inl ⟨by rfl, ?_⟩) ?_ ?_; rotate_left
          ·intro w'; go_simp; with_reducible rfl
          rotate_left
          ·simp only [Act.put, List.setIfInBounds_toArray, List.set_cons_zero, List.set_cons_succ, i64_w, i32_w]; rfl
          refine take_ (i := 7) (N := some 18) (v := ?_) (a' := ?_) #[true, true, true, true, true, true, true, true, true, false, false, false, true, false, false, false] rfl rfl (take_ofW HT_.out HW_.out (by kernel_rfl)) (fun _ _ _ h => h) (Or.inl ⟨by rfl, ?_⟩) hHeld ?_ ?_; rotate_left
          ·rintro w' ⟨s0, s1, s2, s3, s4, s5, s6, s7, s8⟩; go_simp; with_reducible rfl
          rotate_left
          ·simp only [Act.put, List.setIfInBounds_toArray, List.set_cons_zero, List.set_cons_succ, i64_w, i32_w]; rfl
          refine pure_ (i := 9) (N := some 20) (v := ?_) (a' := ?_) #[true, true, true, true, true, true, true, true, true, true, false, false, true, false, false, false] rfl rfl (any_of HT_.out (by kernel_rfl)) (fun _ _ _ h => h) (Or.inl ⟨by rfl, ?_⟩) ?_ ?_; rotate_left
          ·intro w'; go_simp; with_reducible rfl
          rotate_left
          ·simp only [Act.put, List.setIfInBounds_toArray, List.set_cons_zero, List.set_cons_succ, i64_w, i32_w]; rfl
          refine pure_ (i := 10) (N := some 21) (v := ?_) (a' := ?_) #[true, true, true, true, true, true, true, true, true, true, true, false, true, false, false, false] rfl rfl (any_of HT_.out (by kernel_rfl)) (fun _ _ _ h => h) (Or.inl ⟨by rfl, ?_⟩) ?_ ?_; rotate_left
          ·intro w'; go_simp; with_reducible rfl
          rotate_left
          ·simp only [Act.put, List.setIfInBounds_toArray, List.set_cons_zero, List.set_cons_succ, i64_w, i32_w]; rfl
          refine take_ (i := 11) (N := some 22) (v := ?_) (a' := ?_) #[true, true, true, true, true, true, true, true, true, true, true, true, true, false, false, false] rfl rfl (take_ofW HT_.out HW_.out (by kernel_rfl)) (fun _ _ _ h => h) (Or.inl ⟨by rfl, ?_⟩) hHeld ?_ ?_; rotate_left
          ·rintro w' ⟨s0, s1, s2, s3, s4, s5, s6, s7, s8⟩; go_simp; with_reducible rfl
          rotate_left
          ·simp only [Act.put, List.setIfInBounds_toArray, List.set_cons_zero, List.set_cons_succ, i64_w, i32_w]; rfl
          refine take_ (i := 13) (N := some 24) (v := ?_) (a' := ?_) #[true, true, true, true, true, true, true, true, true, true, true, true, true, true, false, false] rfl rfl (take_ofW HT_.out HW_.out (by kernel_rfl)) (fun _ _ _ h => h) (Or.inl ⟨by rfl, ?_⟩) hHeld ?_ ?_; rotate_left
          ·rintro w' ⟨s0, s1, s2, s3, s4, s5, s6, s7, s8⟩; go_simp; with_reducible rfl
          rotate_left
          ·simp only [Act.put, List.setIfInBounds_toArray, List.set_cons_zero, List.set_cons_succ, i64_w, i32_w]; rfl
          refine pure_ (i := 14) (N := some 25) (v := ?_) (a' := ?_) #[true, true, true, true, true, true, true, true, true, true, true, true, true, true, true, false] rfl rfl (any_of HT_.out (by kernel_rfl)) (fun _ _ _ h => h) (Or.inl ⟨by rfl, ?_⟩) ?_ ?_; rotate_left
          ·intro w'; go_simp; with_reducible rfl
          rotate_left
          ·simp only [Act.put, List.setIfInBounds_toArray, List.set_cons_zero, List.set_cons_succ, i64_w, i32_w]; rfl
          refine pure_ (i := 15) (N := some 26) (v := ?_) (a' := ?_) #[true, true, true, true, true, true, true, true, true, true, true, true, true, true, true, true] rfl rfl (any_of HT_.out (by kernel_rfl)) (fun _ _ _ h => h) (Or.inl ⟨by rfl, ?_⟩) ?_ ?_; rotate_left
          ·intro w'; go_simp; with_reducible rfl
          rotate_left
          ·simp only [Act.put, List.setIfInBounds_toArray, List.set_cons_zero, List.set_cons_succ, i64_w, i32_w]; rfl
          refine done_ (done_of HT_.out (by kernel_rfl)) ?_
          try go_wp2
          replace BK420 := Aside0.mk (blk_drew BK420.out); replace BK421 := Aside0.mk (blk_drew BK421.out); replace BK422 := Aside0.mk (blk_drew BK422.out); replace HB := Aside0.mk (below_drew1 HB.out); have q26 : (x6_1 : Int) ≤ ((l0_0.length : Int) : Int) := of_decide_eq_true za; obtain ⟨i026, hi026, _, hsz26, _⟩ := info_parts info33; have hroom26 : l0_0.length ≤ c0_0 := HC0_0.out; have hC26 : Kd.C k33 _ (some ad424) l0_0.length l0_0 := HR0_0.out; have hcut26 := cut_to (P := Try.prog) 23 33 .i64 Try.underlying23 hi026 (some ad424) l0_0.length c0_0 x6_1 (of_decide_eq_true za) q26 hroom26; have hr26 := Kd.C_take (m := (x6_1 : Int).toNat) hC26 (by omega); have hy26 : y425.length = (x6_1 : Int).toNat := (by rw [Ny425.out, List.length_take]; omega)
          rw [← Ny425.out] at hr26; rw [← hy26] at hcut26; have HR428 := Aside0.mk hr26; have HC428 := Aside0.mk (show y425.length ≤ c0_0 from by omega); clear hr26 hC26 hroom26 hi026 hsz26; have KY26 := Aside0.mk hy26; clear hy26; replace q26 := eq_true q26; have q27 : (x6_1 : Int) ≤ ((l0_0.length : Int) : Int) := of_decide_eq_true za; obtain ⟨i027, hi027, _, hsz27, _⟩ := info_parts info33; have hroom27 : l0_0.length ≤ c0_0 := HC0_0.out; have hC27 : Kd.C k33 _ (some ad424) l0_0.length l0_0 := HR0_0.out; have q027 : (0 : Int) ≤ (x6_1 : Int) := of_decide_eq_true za; have hcut27 := cut_from (P := Try.prog) 23 33 .i64 Try.underlying23 hi027 4 hsz27 (some ad424) l0_0.length c0_0 x6_1 q027 q27; have hr27 := Kd.C_drop (m := (x6_1 : Int).toNat) (c := c0_0) hC27 (by omega) hroom27; obtain ⟨A27, hA27⟩ : ∃ A1, A1 = (if c0_0 = (x6_1 : Int).toNat then (some ad424) else ((some ad424) : Option Addr).map (·.add ((x6_1 : Int).toNat * 4))) := ⟨_, rfl⟩
          obtain ⟨c27, hc27⟩ : ∃ c1, c1 = c0_0 - (x6_1 : Int).toNat := ⟨_, rfl⟩
          have hy27 : y438.length = l0_0.length - (x6_1 : Int).toNat := (by rw [Ny438.out, List.length_drop] <;> omega)
          rw [show (l0_0).drop (x6_1 : Int).toNat = y438 from Ny438.out.symm] at hr27; replace hr27 : Kd.C k33 _ A27 y438.length y438 := (by rw [hA27]; exact hr27)
          rw [← hy27, ← hA27, ← hc27] at hcut27; have HR441 := Aside0.mk hr27; have HC441 := Aside0.mk (show y438.length ≤ c27 from by rw [hy27, hc27]; exact Nat.sub_le_sub_right hroom27 _); clear hr27 hC27 hroom27 hi027 hsz27 hc27; have KY27 := Aside0.mk hy27; have KA27 := Aside0.mk hA27; clear hy27 hA27; replace q27 := eq_true q27; refine start_ (n := 18) (S := fun w' => w'.cell? ⟨gb420, 0, none⟩ = some (.slice (some ad424) l0_0.length c0_0) ∧ w'.cell? ⟨gb421, 0, none⟩ = some (.string a1_0) ∧ w'.cell? ⟨gb421, 1, none⟩ = some (.int .i64 a1_1) ∧ w'.cell? ⟨gb421, 2, none⟩ = some (.bool a1_2) ∧ w'.cell? ⟨gb421, 3, none⟩ = some (.int .i64 a1_3)) (ds := []) #[false, false, false, false, false, false, false, false, false, false, false, false, false, false, false, false, false, false] (by kernel_rfl) rfl rfl ⟨(blk_cell BK420.out 0).trans rfl, (blk_cell BK421.out 0).trans rfl, (blk_cell BK421.out 1).trans rfl, (blk_cell BK421.out 2).trans rfl, (blk_cell BK421.out 3).trans rfl⟩ (fun hHeld => ?_); refine with_tabW spec_AddParam.tab6 spec_AddParam.bits6 (fun HT_ HW_ => ?_); generalize w24.drew = w25 at BK420 BK421 BK422 HB HR428 HR441 hHeld ⊢; refine pure_ (i := 0) (N := some 29) (v := ?_) (a' := ?_) #[true, false, false, false, false, false, false, false, false, false, false, false, false, false, false, false, false, false] rfl rfl (any_of HT_.out (by kernel_rfl)) (fun _ _ _ h => h) (Or.inl ⟨by rfl, ?_⟩) ?_ ?_; rotate_left
          ·intro w'; go_simp; with_reducible rfl
          rotate_left
          ·simp only [Act.put, List.setIfInBounds_toArray, List.set_cons_zero, List.set_cons_succ, i64_w, i32_w]; rfl
          refine pure_ (i := 2) (N := some 31) (v := ?_) (a' := ?_) #[true, false, true, false, false, false, false, false, false, false, false, false, false, false, false, false, false, false] rfl rfl (any_of HT_.out (by kernel_rfl)) (fun _ _ _ h => h) (Or.inl ⟨by rfl, ?_⟩) ?_ ?_; rotate_left
          ·intro w'; go_simp; with_reducible rfl
          rotate_left
          ·simp only [Act.put, List.setIfInBounds_toArray, List.set_cons_zero, List.set_cons_succ, i64_w, i32_w]; rfl
          refine pure_ (i := 8) (N := some 37) (v := ?_) (a' := ?_) #[true, false, true, false, false, false, false, false, true, false, false, false, false, false, false, false, false, false] rfl rfl (any_of HT_.out (by kernel_rfl)) (fun _ _ _ h => h) (Or.inl ⟨by rfl, ?_⟩) ?_ ?_; rotate_left
          ·intro w'; go_simp; with_reducible rfl
          rotate_left
          ·simp only [Act.put, List.setIfInBounds_toArray, List.set_cons_zero, List.set_cons_succ, i64_w, i32_w]; rfl
          refine pure_ (i := 10) (N := some 39) (v := ?_) (a' := ?_) #[true, false, true, false, false, false, false, false, true, false, true, false, false, false, false, false, false, false] rfl rfl (any_of HT_.out (by kernel_rfl)) (fun _ _ _ h => h) (Or.inl ⟨by rfl, ?_⟩) ?_ ?_; rotate_left
          ·intro w'; go_simp; with_reducible rfl
          rotate_left
          ·simp only [Act.put, List.setIfInBounds_toArray, List.set_cons_zero, List.set_cons_succ, i64_w, i32_w]; rfl
          refine take_ (i := 1) (N := some 30) (v := ?_) (a' := ?_) #[true, true, true, false, false, false, false, false, true, false, true, false, false, false, false, false, false, false] rfl rfl (take_ofW HT_.out HW_.out (by kernel_rfl)) (fun _ _ _ h => h) (Or.inl ⟨by rfl, ?_⟩) hHeld ?_ ?_; rotate_left
          ·rintro w' ⟨s0, s1, s2, s3, s4⟩; go_simp; with_reducible rfl
          rotate_left
          ·simp only [Act.put, List.setIfInBounds_toArray, List.set_cons_zero, List.set_cons_succ, i64_w, i32_w]; rfl
          refine pure_ (i := 3) (N := some 32) (v := ?_) (a' := ?_) #[true, true, true, true, false, false, false, false, true, false, true, false, false, false, false, false, false, false] rfl rfl (any_of HT_.out (by kernel_rfl)) (fun _ _ _ h => h) (Or.inl ⟨by rfl, ?_⟩) ?_ ?_; rotate_left
          ·intro w'; go_simp; with_reducible rfl
          rotate_left
          ·simp only [Act.put, List.setIfInBounds_toArray, List.set_cons_zero, List.set_cons_succ, i64_w, i32_w]; rfl
          refine take_ (i := 5) (N := some 34) (v := ?_) (a' := ?_) #[true, true, true, true, false, true, false, false, true, false, true, false, false, false, false, false, false, false] rfl rfl (take_ofW HT_.out HW_.out (by kernel_rfl)) (fun _ _ _ h => h) (Or.inl ⟨by rfl, ?_⟩) hHeld ?_ ?_; rotate_left
          ·rintro w' ⟨s0, s1, s2, s3, s4⟩; go_simp; with_reducible rfl
          rotate_left
          ·simp only [Act.put, List.setIfInBounds_toArray, List.set_cons_zero, List.set_cons_succ, i64_w, i32_w]; rfl
          refine take_ (i := 9) (N := some 38) (v := ?_) (a' := ?_) #[true, true, true, true, false, true, false, false, true, true, true, false, false, false, false, false, false, false] rfl rfl (take_ofW HT_.out HW_.out (by kernel_rfl)) (fun _ _ _ h => h) (Or.inl ⟨by rfl, ?_⟩) hHeld ?_ ?_; rotate_left
          ·rintro w' ⟨s0, s1, s2, s3, s4⟩; go_simp; with_reducible rfl
          rotate_left
          ·simp only [Act.put, List.setIfInBounds_toArray, List.set_cons_zero, List.set_cons_succ, i64_w, i32_w]; rfl
          refine pure_ (i := 11) (N := some 40) (v := ?_) (a' := ?_) #[true, true, true, true, false, true, false, false, true, true, true, true, false, false, false, false, false, false] rfl rfl (any_of HT_.out (by kernel_rfl)) (fun _ _ _ h => h) (Or.inl ⟨by rfl, ?_⟩) ?_ ?_; rotate_left
          ·intro w'; go_simp; with_reducible rfl
          rotate_left
          ·simp only [Act.put, List.setIfInBounds_toArray, List.set_cons_zero, List.set_cons_succ, i64_w, i32_w]; rfl
          refine join_ (σ := Value × Value) 7 #[true, true, true, true, true, true, true, false, true, true, true, true, false, false, false, false, false, false] (fun s_ => [(33, s_.1), (35, s_.2)]) (fun s_ w' => (w'.cell? ⟨gb420, 0, none⟩ = some (.slice (some ad424) l0_0.length c0_0) ∧ w'.cell? ⟨gb421, 0, none⟩ = some (.string a1_0) ∧ w'.cell? ⟨gb421, 1, none⟩ = some (.int .i64 a1_1) ∧ w'.cell? ⟨gb421, 2, none⟩ = some (.bool a1_2) ∧ w'.cell? ⟨gb421, 3, none⟩ = some (.int .i64 a1_3)) ∧ (Kd.R k33 33 w' w.heap.size (fun k_ => some k_ ≠ (s_.2 : Value).ownBlock ∧ k_ ≠ gb421) s_.1 t429) ∧ (Kd.R k33 33 w' w.heap.size (fun k_ => some k_ ≠ (s_.1 : Value).ownBlock ∧ k_ ≠ gb421) s_.2 y432) ∧ (w'.heap[gb420]? = some (.cells #[.slice (some ad424) l0_0.length c0_0] 25 (0, 0))) ∧ (w'.heap[gb421]? = some (.cells #[.string a1_0, .int .i64 a1_1, .bool a1_2, .int .i64 a1_3] 33 (0, 0))) ∧ (w'.heap[gb422]? = some (.cells #[.slice none 0 0] 25 (0, 0))) ∧ (Below w.heap.size w w')) ?_ ?_; rotate_left
          ·intro hCont; refine two_ (i := 4) (j := 6) (Ni := some 33) (Nj := some 35) #[true, true, true, true, true, true, false, false, true, true, true, true, false, false, false, false, false, false] #[true, true, true, true, false, true, true, false, true, true, true, true, false, false, false, false, false, false] rfl rfl rfl rfl (two_of HT_.out (by kernel_rfl)) (by decide) (by decide) (fun K hK => ?_) (fun K hK => ?_)
           ·skip
            refine goes_ Try.func57 (by kernel_rfl) rfl #[.slice (some ad424) y425.length c0_0] (by rfl) rfl rfl zl ?_; with_reducible refine (spec_copyParams.calls _ _ y425 t429 _ ?side1 ?side2 A18.out).mono ?_
            (case side1 => repeat (first | exact (Kd.C_below HR428.out HB.out) | (with_reducible refine Kd.C_alloc ?_ _) | (with_reducible refine Kd.C_drewN ?_ _) | (with_reducible refine Kd.C_drew ?_)))
            (case side2 => exact HC428.out)
            rintro e w28 ⟨v430, rfl, ho0, hb⟩; refine ⟨_, rfl, ?_⟩; have HO431 := Aside0.mk (Kd.R_lower (Kd.R_newB ho0 (g := gb421) (o := .cells #[.string a1_0, .int .i64 a1_1, .bool a1_2, .int .i64 a1_3] 33 (0, 0)) (zb BK421)) (below_size (zB HB))); replace BK420 := Aside0.mk (blk_below (g := gb420) (o := .cells #[.slice (some ad424) l0_0.length c0_0] 25 (0, 0)) (zb BK420) hb); replace BK421 := Aside0.mk (blk_below (g := gb421) (o := .cells #[.string a1_0, .int .i64 a1_1, .bool a1_2, .int .i64 a1_3] 33 (0, 0)) (zb BK421) hb); replace BK422 := Aside0.mk (blk_below (g := gb422) (o := .cells #[.slice none 0 0] 25 (0, 0)) (zb BK422) hb); replace HB := Aside0.mk (below_step (zB HB) hb); (try clear hb); (try clear hb2); (try clear hk); (try clear hi); (try clear ho0); refine hK.out _ _ ⟨(blk_cell BK420.out 0).trans rfl, (blk_cell BK421.out 0).trans rfl, (blk_cell BK421.out 1).trans rfl, (blk_cell BK421.out 2).trans rfl, (blk_cell BK421.out 3).trans rfl⟩ (fun hHeld => ?_); clear hK K; refine norm_ (a' := ?_) ?_ ?_; rotate_left
            ·show Act.put _ (some 33) _ = _
             simp only [Act.put, List.setIfInBounds_toArray, List.set_cons_zero, List.set_cons_succ, i64_w, i32_w]; rfl
            refine one_ (i := 6) (N := some 35) #[true, true, true, true, true, true, true, false, true, true, true, true, false, false, false, false, false, false] rfl rfl (one_of HT_.out (by kernel_rfl)) (by decide) (fun K hK => ?_); refine Kd.R_lit_step k33 _ 33 ?hg (N := 35) ?hd (xs := ([(⟨a1_0, a1_1, a1_2, a1_3⟩ : S33)] : List (S33))) (inner := [.string a1_0, .int .i64 a1_1, .bool a1_2, .int .i64 a1_3]) (ok := fun _ => True) (okp := fun _ => True) ?hr ?hp (fun _ hk => hk) trivial (Below.refl _ _) (Nat.le_refl _) (by simp) ?_; (case hd => rfl); (case hg => rfl); (case hr => first | (go_simp; done) | (go_simp; rfl)); (case hp => exact (Reps.c4 (show Kd.M k33 _ _ _ (⟨a1_0, a1_1, a1_2, a1_3⟩ : S33) [.string a1_0, .int .i64 a1_1, .bool a1_2, .int .i64 a1_3] from (k33_mkM _ _ _ (⟨a1_0, a1_1, a1_2, a1_3⟩ : S33) )) (Reps.none _ _))); intro v433 w29 ho30 hb hg_ hnew_; clear hg_ hnew_
            (first | rw [← Ny432.out] at ho30 | (simp only [Int.reduceToNat] at ho30; rw [← Ny432.out] at ho30))
            have HO434 := Aside0.mk (Kd.R_lower (Kd.R_newB (Kd.R_new' ho30 (Kd.R_lt (zo HO431))) (g := gb421) (o := .cells #[.string a1_0, .int .i64 a1_1, .bool a1_2, .int .i64 a1_3] 33 (0, 0)) (zb BK421)) (below_size (zB HB))); replace HO431 := Aside0.mk (Kd.R_elder' (zo HO431) (Kd.R_base ho30) hb); replace BK420 := Aside0.mk (blk_below (g := gb420) (o := .cells #[.slice (some ad424) l0_0.length c0_0] 25 (0, 0)) (zb BK420) hb); replace BK421 := Aside0.mk (blk_below (g := gb421) (o := .cells #[.string a1_0, .int .i64 a1_1, .bool a1_2, .int .i64 a1_3] 33 (0, 0)) (zb BK421) hb); replace BK422 := Aside0.mk (blk_below (g := gb422) (o := .cells #[.slice none 0 0] 25 (0, 0)) (zb BK422) hb); replace HB := Aside0.mk (below_step (zB HB) hb); clear hb ho30; refine hK.out _ _ ⟨(blk_cell BK420.out 0).trans rfl, (blk_cell BK421.out 0).trans rfl, (blk_cell BK421.out 1).trans rfl, (blk_cell BK421.out 2).trans rfl, (blk_cell BK421.out 3).trans rfl⟩ (fun hHeld => ?_); clear hK K; refine norm_ (a' := ?_) ?_ ?_; rotate_left
            ·show Act.put _ (some 35) _ = _
             simp only [Act.put, List.setIfInBounds_toArray, List.set_cons_zero, List.set_cons_succ, i64_w, i32_w]; rfl
            exact norm_ zn (hCont (v430, v433) _ ⟨hHeld, (zmR HO431 (fun _ hk => ⟨hk.2, hk.1.2⟩)), (zmR HO434 (fun _ hk => ⟨hk.1.2, hk.2⟩)), (zb BK420), (zb BK421), (zb BK422), (zB HB)⟩)
           ·skip
            refine Kd.R_lit_step k33 _ 33 ?hg (N := 35) ?hd (xs := ([(⟨a1_0, a1_1, a1_2, a1_3⟩ : S33)] : List (S33))) (inner := [.string a1_0, .int .i64 a1_1, .bool a1_2, .int .i64 a1_3]) (ok := fun _ => True) (okp := fun _ => True) ?hr ?hp (fun _ hk => hk) trivial (Below.refl _ _) (Nat.le_refl _) (by simp) ?_; (case hd => rfl); (case hg => rfl); (case hr => first | (go_simp; done) | (go_simp; rfl)); (case hp => exact (Reps.c4 (show Kd.M k33 _ _ _ (⟨a1_0, a1_1, a1_2, a1_3⟩ : S33) [.string a1_0, .int .i64 a1_1, .bool a1_2, .int .i64 a1_3] from (k33_mkM _ _ _ (⟨a1_0, a1_1, a1_2, a1_3⟩ : S33) )) (Reps.none _ _))); intro v433 w28 ho29 hb hg_ hnew_; clear hg_ hnew_
            (first | rw [← Ny432.out] at ho29 | (simp only [Int.reduceToNat] at ho29; rw [← Ny432.out] at ho29))
            have HO434 := Aside0.mk (Kd.R_lower (Kd.R_newB ho29 (g := gb421) (o := .cells #[.string a1_0, .int .i64 a1_1, .bool a1_2, .int .i64 a1_3] 33 (0, 0)) (zb BK421)) (below_size (zB HB))); replace BK420 := Aside0.mk (blk_below (g := gb420) (o := .cells #[.slice (some ad424) l0_0.length c0_0] 25 (0, 0)) (zb BK420) hb); replace BK421 := Aside0.mk (blk_below (g := gb421) (o := .cells #[.string a1_0, .int .i64 a1_1, .bool a1_2, .int .i64 a1_3] 33 (0, 0)) (zb BK421) hb); replace BK422 := Aside0.mk (blk_below (g := gb422) (o := .cells #[.slice none 0 0] 25 (0, 0)) (zb BK422) hb); replace HB := Aside0.mk (below_step (zB HB) hb); clear hb ho29; refine hK.out _ _ ⟨(blk_cell BK420.out 0).trans rfl, (blk_cell BK421.out 0).trans rfl, (blk_cell BK421.out 1).trans rfl, (blk_cell BK421.out 2).trans rfl, (blk_cell BK421.out 3).trans rfl⟩ (fun hHeld => ?_); clear hK K; refine norm_ (a' := ?_) ?_ ?_; rotate_left
            ·show Act.put _ (some 35) _ = _
             simp only [Act.put, List.setIfInBounds_toArray, List.set_cons_zero, List.set_cons_succ, i64_w, i32_w]; rfl
            refine one_ (i := 4) (N := some 33) #[true, true, true, true, true, true, true, false, true, true, true, true, false, false, false, false, false, false] rfl rfl (one_of HT_.out (by kernel_rfl)) (by decide) (fun K hK => ?_); refine goes_ Try.func57 (by kernel_rfl) rfl #[.slice (some ad424) y425.length c0_0] (by rfl) rfl rfl zl ?_; with_reducible refine (spec_copyParams.calls _ _ y425 t429 _ ?side1 ?side2 A18.out).mono ?_
            (case side1 => repeat (first | exact (Kd.C_below HR428.out HB.out) | (with_reducible refine Kd.C_alloc ?_ _) | (with_reducible refine Kd.C_drewN ?_ _) | (with_reducible refine Kd.C_drew ?_)))
            (case side2 => exact HC428.out)
            rintro e w30 ⟨v430, rfl, ho0, hb⟩; refine ⟨_, rfl, ?_⟩; have HO431 := Aside0.mk (Kd.R_lower (Kd.R_newB (Kd.R_new' ho0 (Kd.R_lt (zo HO434))) (g := gb421) (o := .cells #[.string a1_0, .int .i64 a1_1, .bool a1_2, .int .i64 a1_3] 33 (0, 0)) (zb BK421)) (below_size (zB HB))); replace HO434 := Aside0.mk (Kd.R_elder' (zo HO434) (Kd.R_base ho0) hb); replace BK420 := Aside0.mk (blk_below (g := gb420) (o := .cells #[.slice (some ad424) l0_0.length c0_0] 25 (0, 0)) (zb BK420) hb); replace BK421 := Aside0.mk (blk_below (g := gb421) (o := .cells #[.string a1_0, .int .i64 a1_1, .bool a1_2, .int .i64 a1_3] 33 (0, 0)) (zb BK421) hb); replace BK422 := Aside0.mk (blk_below (g := gb422) (o := .cells #[.slice none 0 0] 25 (0, 0)) (zb BK422) hb); replace HB := Aside0.mk (below_step (zB HB) hb); (try clear hb); (try clear hb2); (try clear hk); (try clear hi); (try clear ho0); refine hK.out _ _ ⟨(blk_cell BK420.out 0).trans rfl, (blk_cell BK421.out 0).trans rfl, (blk_cell BK421.out 1).trans rfl, (blk_cell BK421.out 2).trans rfl, (blk_cell BK421.out 3).trans rfl⟩ (fun hHeld => ?_); clear hK K; refine norm_ (a' := ?_) ?_ ?_; rotate_left
            ·show Act.put _ (some 33) _ = _
             simp only [Act.put, List.setIfInBounds_toArray, List.set_cons_zero, List.set_cons_succ, i64_w, i32_w]; rfl
            exact norm_ zn (hCont (v430, v433) _ ⟨hHeld, (zmR HO431 (fun _ hk => ⟨hk.1.2, hk.2⟩)), (zmR HO434 (fun _ hk => ⟨hk.2, hk.1.2⟩)), (zb BK420), (zb BK421), (zb BK422), (zB HB)⟩)
          rintro ⟨v430, v433⟩ w31 ⟨hS_, h0_, h1_, h2_, h3_, h4_, h5_⟩; have n0_ : Aside0 (Kd.R k33 33 w31 w.heap.size (fun k_ => some k_ ≠ (v433 : Value).ownBlock ∧ k_ ≠ gb421) v430 t429) := ⟨h0_⟩
          have n1_ : Aside0 (Kd.R k33 33 w31 w.heap.size (fun k_ => some k_ ≠ (v430 : Value).ownBlock ∧ k_ ≠ gb421) v433 y432) := ⟨h1_⟩
          have n2_ : Aside0 (w31.heap[gb420]? = some (.cells #[.slice (some ad424) l0_0.length c0_0] 25 (0, 0))) := ⟨h2_⟩
          have n3_ : Aside0 (w31.heap[gb421]? = some (.cells #[.string a1_0, .int .i64 a1_1, .bool a1_2, .int .i64 a1_3] 33 (0, 0))) := ⟨h3_⟩
          have n4_ : Aside0 (w31.heap[gb422]? = some (.cells #[.slice none 0 0] 25 (0, 0))) := ⟨h4_⟩
          have n5_ : Aside0 (Below w.heap.size w w31) := ⟨h5_⟩
          clear BK420; clear BK421; clear BK422; clear HB; clear h0_ h1_ h2_ h3_ h4_ h5_; have HO431 := n0_; have HO434 := n1_; have BK420 := n2_; have BK421 := n3_; have BK422 := n4_; have HB := n5_; clear n0_ n1_ n2_ n3_ n4_ n5_; have hHeld : w31.cell? ⟨gb420, 0, none⟩ = some (.slice (some ad424) l0_0.length c0_0) ∧ w31.cell? ⟨gb421, 0, none⟩ = some (.string a1_0) ∧ w31.cell? ⟨gb421, 1, none⟩ = some (.int .i64 a1_1) ∧ w31.cell? ⟨gb421, 2, none⟩ = some (.bool a1_2) ∧ w31.cell? ⟨gb421, 3, none⟩ = some (.int .i64 a1_3) := hS_; obtain ⟨Ao33, co33, eo33⟩ := Kd.R_slice HO434.out
          (first | subst eo33 | (injection eo33 with f1_ f2_ f3_; have f4_ := f1_.symm; have f5_ := f3_.symm; clear f1_ f2_ f3_; subst f4_; subst f5_))
          refine norm_ (a' := ?_) ?_ ?_; rotate_left
          ·simp only [putAll, Act.put, List.setIfInBounds_toArray, List.set_cons_zero, List.set_cons_succ]; rfl
          refine one_ (i := 7) (N := some 36) #[true, true, true, true, true, true, true, true, true, true, true, true, false, false, false, false, false, false] rfl rfl (one_of HT_.out (by kernel_rfl)) (by decide) (fun K hK => ?_); refine Kd.R_append_rows_step k33 (w0 := w) w.heap.size (by rfl) (.tmp 33) (.tmp 35) 23 33 (.agg #[(.string ⟨#[]⟩), (.int .i64 0), (.bool false), (.int .i64 0)]) 40 rfl Try.underlying23 info33 rfl (by decide) (by omega) v430 t429 y432 _ _ _ (fun k_ => some k_ ≠ (.slice Ao33 y432.length co33 : Value).ownBlock ∧ k_ ≠ gb421) (fun _ => False) rfl rfl ?aO ?aR (fun _ _ h => h) (fun _ h => h.elim) ?aF ?aB ?aS ?aL ?_
          (case aR => repeat (first | exact (Kd.R_reads' HO434.out).2.2 | (with_reducible refine Kd.C_alloc ?_ _) | (with_reducible refine Kd.C_drewN ?_ _) | (with_reducible refine Kd.C_drew ?_)))
          (case aB => exact (zB HB))
          (case aF => exact (fun k_ hk => ⟨Kd.fresh' (Kd.R_lt (zo HO434)) k_ hk, Kd.freshB (g := gb421) (o := .cells #[.string a1_0, .int .i64 a1_1, .bool a1_2, .int .i64 a1_3] 33 (0, 0)) (zb BK421) k_ hk⟩))
          (case aO => exact (zo HO431))
          (case aS => exact (below_size (zB HB)))
          (case aL => have := LMc19.out; omega)
          intro v436 w32 ho hb hg hat; rw [← Ny435.out] at ho; have n0_ := Aside0.mk (blk_grown (g := gb420) (o := .cells #[.slice (some ad424) l0_0.length c0_0] 25 (0, 0)) (zb BK420) hg (Kd.R_ne HO431.out BK420.out (by decide))); have n1_ := Aside0.mk (blk_grown (g := gb421) (o := .cells #[.string a1_0, .int .i64 a1_1, .bool a1_2, .int .i64 a1_3] 33 (0, 0)) (zb BK421) hg (Kd.R_away HO431.out (fun _ hk => hk.2))); have n2_ := Aside0.mk (blk_grown (g := gb422) (o := .cells #[.slice none 0 0] 25 (0, 0)) (zb BK422) hg (Kd.R_ne HO431.out BK422.out (by decide))); have n3_ := Aside0.mk (Kd.R_after (ok := (fun k_ => k_ ≠ gb421)) (zmR HO434 (fun _ hk => ⟨hk.2, hk.1⟩)) hg hat); have n4_ := Aside0.mk (hb); have n5_ := Aside0.mk (ho); clear BK420; clear BK421; clear BK422; clear HO434; clear HB; clear HO431; have BK420 := n0_; have BK421 := n1_; have BK422 := n2_; have HO434 := n3_; have HB := n4_; have HO437 := n5_; clear n0_ n1_ n2_ n3_ n4_ n5_; clear ho hb hg hat; refine hK.out _ _ ⟨(blk_cell BK420.out 0).trans rfl, (blk_cell BK421.out 0).trans rfl, (blk_cell BK421.out 1).trans rfl, (blk_cell BK421.out 2).trans rfl, (blk_cell BK421.out 3).trans rfl⟩ (fun hHeld => ?_); clear hK K; refine norm_ (a' := ?_) ?_ ?_; rotate_left
          ·show Act.put _ (some 36) _ = _
           simp only [Act.put, List.setIfInBounds_toArray, List.set_cons_zero, List.set_cons_succ, i64_w, i32_w]; rfl
          refine one_ (i := 12) (N := some 41) #[true, true, true, true, true, true, true, true, true, true, true, true, true, false, false, false, false, false] rfl rfl (one_of HT_.out (by kernel_rfl)) (by decide) (fun K hK => ?_); refine Kd.R_append_rows_step k33 (w0 := w) w.heap.size (by rfl) (.tmp 36) (.tmp 40) 23 33 (.agg #[(.string ⟨#[]⟩), (.int .i64 0), (.bool false), (.int .i64 0)]) 40 rfl Try.underlying23 info33 rfl (by decide) (by omega) v436 y435 y438 _ _ _ (fun k_ => some k_ ≠ (.slice Ao33 y432.length co33 : Value).ownBlock ∧ k_ ≠ gb421) (fun _ => False) rfl rfl ?aO ?aR (fun _ _ h => h) (fun _ h => h.elim) ?aF ?aB ?aS ?aL ?_
          (case aR => repeat (first | exact (Kd.C_below HR441.out HB.out) | (with_reducible refine Kd.C_alloc ?_ _) | (with_reducible refine Kd.C_drewN ?_ _) | (with_reducible refine Kd.C_drew ?_)))
          (case aB => exact (zB HB))
          (case aF => exact (fun k_ hk => ⟨Kd.fresh' (Kd.R_lt (zo HO434)) k_ hk, Kd.freshB (g := gb421) (o := .cells #[.string a1_0, .int .i64 a1_1, .bool a1_2, .int .i64 a1_3] 33 (0, 0)) (zb BK421) k_ hk⟩))
          (case aO => exact (zo HO437))
          (case aS => exact (below_size (zB HB)))
          (case aL => have := LMc22.out; omega)
          intro v443 w34 ho hb hg hat; rw [← Ny442.out] at ho; have n0_ := Aside0.mk (blk_grown (g := gb420) (o := .cells #[.slice (some ad424) l0_0.length c0_0] 25 (0, 0)) (zb BK420) hg (Kd.R_ne HO437.out BK420.out (by decide))); have n1_ := Aside0.mk (blk_grown (g := gb421) (o := .cells #[.string a1_0, .int .i64 a1_1, .bool a1_2, .int .i64 a1_3] 33 (0, 0)) (zb BK421) hg (Kd.R_away HO437.out (fun _ hk => hk.2))); have n2_ := Aside0.mk (blk_grown (g := gb422) (o := .cells #[.slice none 0 0] 25 (0, 0)) (zb BK422) hg (Kd.R_ne HO437.out BK422.out (by decide))); have n3_ := Aside0.mk (Kd.R_after (ok := (fun k_ => k_ ≠ gb421)) (zo HO434) hg hat); have n4_ := Aside0.mk (hb); have n5_ := Aside0.mk (ho); clear BK420; clear BK421; clear BK422; clear HO434; clear HB; clear HO437; have BK420 := n0_; have BK421 := n1_; have BK422 := n2_; have HO434 := n3_; have HB := n4_; have HO444 := n5_; clear n0_ n1_ n2_ n3_ n4_ n5_; clear ho hb hg hat; obtain ⟨Ao35, co35, eo35⟩ := Kd.R_slice HO444.out
          (first | subst eo35 | (injection eo35 with f1_ f2_ f3_; have f4_ := f1_.symm; have f5_ := f3_.symm; clear f1_ f2_ f3_; subst f4_; subst f5_))
          refine hK.out _ _ ⟨(blk_cell BK420.out 0).trans rfl, (blk_cell BK421.out 0).trans rfl, (blk_cell BK421.out 1).trans rfl, (blk_cell BK421.out 2).trans rfl, (blk_cell BK421.out 3).trans rfl⟩ (fun hHeld => ?_); clear hK K; refine norm_ (a' := ?_) ?_ ?_; rotate_left
          ·show Act.put _ (some 41) _ = _
           simp only [Act.put, List.setIfInBounds_toArray, List.set_cons_zero, List.set_cons_succ, i64_w, i32_w]; rfl
          refine one_ (i := 13) (N := some 42) #[true, true, true, true, true, true, true, true, true, true, true, true, true, true, false, false, false, false] rfl rfl (one_of HT_.out (by kernel_rfl)) (by decide) (fun K hK => ?_); refine goes_ Try.func69 (by kernel_rfl) rfl #[.slice Ao35 y442.length co35] (by rfl) rfl rfl zl ?_; with_reducible refine (spec_checkedSignature.calls k1 (fun k_ => some k_ = (.slice Ao35 y442.length co35 : Value).ownBlock) (.slice Ao35 y442.length co35) y442 t445 t448 w _ ?side1 ?side2 A23.out).mono ?_
          (case side1 => exact zB HB)
          (case side2 => exact Kd.R_tight rfl HO444.out)
          rintro e w36 ⟨v446, rfl, ho0, hb, hkp⟩; refine ⟨_, rfl, ?_⟩; have n0_ := Aside0.mk (blk_kept (zb BK420) hkp (fun hs_ => (fun e_ => (Kd.R_ne HO444.out BK420.out (by decide)) e_) hs_)); have n1_ := Aside0.mk (blk_kept (zb BK421) hkp (fun hs_ => (fun e_ => (Kd.R_away HO444.out (fun _ hk => hk.2)) e_) hs_)); have n2_ := Aside0.mk (blk_kept (zb BK422) hkp (fun hs_ => (fun e_ => (Kd.R_ne HO444.out BK422.out (by decide)) e_) hs_)); have n3_ := Aside0.mk (Kd.R_mono (ok' := fun k_ => k_ ≠ gb421 ∧ some k_ ≠ (v446 : Value).ownBlock) (Kd.R_keptB (HO434.out) hkp (fun k_ hk_ hs_ => (hk_.2) hs_)) (fun k_ hk_ => ⟨hk_.1.1, fun e_ => Or.elim (ho0.1 k_ e_.symm) (fun hs_ => hk_.2.1 hs_) (fun hn_ => Nat.not_le.2 hk_.2.2 hn_)⟩)); have n4_ := Aside0.mk (Kd.R_mono (ok' := fun k_ => some k_ ≠ (.slice Ao33 y432.length co33 : Value).ownBlock ∧ k_ ≠ gb421) ho0 (fun k_ hk_ => ⟨Or.elim hk_ (fun hs_ => fun e_ => (((HO434.out).1 k_ e_.symm).2) hs_) (fun hn_ => (Kd.fresh' (Kd.R_lt (zo HO434)) k_ hn_)), Or.elim hk_ (fun hs_ => fun e_ => (Kd.R_away HO444.out (fun _ hk => hk.2)) (by rw [← e_]; exact hs_)) (fun hn_ => (Kd.freshB (g := gb421) (o := .cells #[.string a1_0, .int .i64 a1_1, .bool a1_2, .int .i64 a1_3] 33 (0, 0)) (zb BK421) k_ hn_))⟩)); have n5_ := Aside0.mk (hb); clear BK420; clear BK421; clear BK422; clear HO434; clear HB; clear HO444; have BK420 := n0_; have BK421 := n1_; have BK422 := n2_; have HO434 := n3_; have HO447 := n4_; have HB := n5_; clear n0_ n1_ n2_ n3_ n4_ n5_; (try clear hb); (try clear hkp); (try clear ho0); obtain ⟨Ao37, co37, eo37⟩ := Kd.R_slice HO447.out
          (first | subst eo37 | (injection eo37 with f1_ f2_ f3_; have f4_ := f1_.symm; have f5_ := f3_.symm; clear f1_ f2_ f3_; subst f4_; subst f5_))
          refine hK.out _ _ ⟨(blk_cell BK420.out 0).trans rfl, (blk_cell BK421.out 0).trans rfl, (blk_cell BK421.out 1).trans rfl, (blk_cell BK421.out 2).trans rfl, (blk_cell BK421.out 3).trans rfl⟩ (fun hHeld => ?_); clear hK K; refine norm_ (a' := ?_) ?_ ?_; rotate_left
          ·show Act.put _ (some 42) _ = _
           simp only [Act.put, List.setIfInBounds_toArray, List.set_cons_zero, List.set_cons_succ, i64_w, i32_w]; rfl
          refine pure_ (i := 14) (N := some 43) (v := ?_) (a' := ?_) #[true, true, true, true, true, true, true, true, true, true, true, true, true, true, true, false, false, false] rfl rfl (any_of HT_.out (by kernel_rfl)) (fun _ _ _ h => h) (Or.inl ⟨by rfl, ?_⟩) ?_ ?_; rotate_left
          ·intro w'; go_simp; with_reducible rfl
          rotate_left
          ·simp only [Act.put, List.setIfInBounds_toArray, List.set_cons_zero, List.set_cons_succ, i64_w, i32_w]; rfl
          refine pure_ (i := 15) (N := some 44) (v := ?_) (a' := ?_) #[true, true, true, true, true, true, true, true, true, true, true, true, true, true, true, true, false, false] rfl rfl (any_of HT_.out (by kernel_rfl)) (fun _ _ _ h => h) (Or.inl ⟨by rfl, ?_⟩) ?_ ?_; rotate_left
          ·intro w'; go_simp; with_reducible rfl
          rotate_left
          ·simp only [Act.put, List.setIfInBounds_toArray, List.set_cons_zero, List.set_cons_succ, i64_w, i32_w]; rfl
          refine one_ (i := 16) (N := none) #[true, true, true, true, true, true, true, true, true, true, true, true, true, true, true, true, true, false] rfl rfl (one_of HT_.out (by kernel_rfl)) (by decide) (fun K hK => ?_); have hs38 : w36.cell? ⟨gb422, 0, none⟩ = some (.slice none 0 0) := (blk_cell BK422.out 0).trans rfl; have hfs38 := blk_frozen BK422.out 0; have hns38_0 := NB420_422.out; have hns38_1 := NB421_422.out; have hms38_0 := NB422_420.out; have hms38_1 := NB422_421.out; refine skip_ (w1 := ?_) (by rfl) rfl ?_ ?_; rotate_left
          ·go_simp; rfl
          refine hK.out _ _ ⟨((cell_far (p := ⟨gb422, _, none⟩) NB420_422.out _).trans (hHeld.1)), ((cell_far (p := ⟨gb422, _, none⟩) NB421_422.out _).trans (hHeld.2.1)), ((cell_far (p := ⟨gb422, _, none⟩) NB421_422.out _).trans (hHeld.2.2.1)), ((cell_far (p := ⟨gb422, _, none⟩) NB421_422.out _).trans (hHeld.2.2.2.1)), ((cell_far (p := ⟨gb422, _, none⟩) NB421_422.out _).trans (hHeld.2.2.2.2))⟩ (fun hHeld => ?_); clear hK K; refine pure_ (i := 17) (N := some 5) (v := ?_) (a' := ?_) #[true, true, true, true, true, true, true, true, true, true, true, true, true, true, true, true, true, true] rfl rfl (any_of HT_.out (by kernel_rfl)) (fun _ _ _ h => h) (Or.inl ⟨by rfl, ?_⟩) ?_ ?_; rotate_left
          ·intro w'; go_simp; with_reducible rfl
          rotate_left
          ·simp only [Act.put, List.setIfInBounds_toArray, List.set_cons_zero, List.set_cons_succ, i64_w, i32_w]; rfl
          refine done_ (done_of HT_.out (by kernel_rfl)) ?_
          try go_wp2
          refine bodyPost_ret (results_ct rfl _ _ gb422 25 #[.slice Ao37 t445.length co37] (0, 0) _ rfl (by (with_reducible repeat (first | refine blk_drewN ?_ _ | refine blk_drew ?_ | refine blk_alloc ?_ _)); refine blk_put (cs := #[.slice none 0 0]) ?_ 0 _ rfl; (with_reducible repeat (first | refine blk_drewN ?_ _ | refine blk_drew ?_ | refine blk_alloc ?_ _)); exact BK422.out) Try.underlying25 rfl (by kernel_rfl)) rfl ?_; exact ⟨_, by first | rfl | (simp [errW_none, errW_some] <;> rfl) | (simp [*, errW_none, errW_some] <;> rfl), by (with_reducible repeat (first | apply Kd.R_alloc | apply Kd.R_drewN | apply Kd.R_drew)); exact Kd.R_mono (Kd.R_far (p := ⟨gb422, 0, none⟩) (Kd.R_types HO447.out BK422.out (by decide)) (fun _ hk => hk.2) (.slice Ao37 t445.length co37)) (fun _ hk => trivial), zB HB⟩
         ·rw [if_neg c22] at H; exact absurd H (by simp)
        ·rw [if_neg c19] at H; exact absurd H (by simp)
       ·rw [if_neg c17] at H; exact absurd H (by simp)
     ·rw [if_neg c13] at H; exact absurd H (by simp)
    ·rw [if_neg c12] at H; have c12b0 : decide (x6_1 < (l0_0.length : Int)) = false := decide_eq_false c12; clear c12
     by_cases c39 : 0 ≤ x6_1
     ·rw [if_pos c39] at H; have c39b0 := eq_true c39; have c39b1 : decide (0 ≤ x6_1) = true := decide_eq_true c39; clear c39
      by_cases c40 : x6_1 ≤ (l0_0.length : Int)
      ·rw [if_pos c40] at H; have c40b0 := eq_true c40; have c40b1 : decide (x6_1 ≤ (l0_0.length : Int)) = true := decide_eq_true c40; clear c40; obtain ⟨y449, hy449⟩ : ∃ y_ : List (S33), y_ = (l0_0.take (x6_1 : Int).toNat) := ⟨_, rfl⟩
       replace H : ((spec_copyParams.f y449).bind fun t453 => ((some (([(⟨a1_0, a1_1, a1_2, a1_3⟩ : S33)] : List (S33)) : List (S33))).bind fun y456 => (if t453.length + y456.length < 3518437208883 then ((some (t453 ++ y456 : List (S33))).bind fun y459 => ((some (l0_0.drop (x6_1 : Int).toNat : List (S33))).bind fun y462 => (if y459.length + y462.length < 3518437208883 then ((spec_checkedSignature.f k1 (y459 ++ y462)).bind fun bt469 => (some (bt469.1, bt469.2))) else (none)))) else (none)))) = some (r1, r2) := by first | (rw [hy449]; with_reducible exact H) | (have H2_ := (Option.bind_some _ _).symm.trans H; rw [hy449]; with_reducible exact H2_) | (have H2_ := (Option.bind_some _ _).symm.trans H; with_reducible exact H2_) | with_reducible exact H | (rw [hy449]; exact H) | exact H
       have Ny449 := Aside0.mk hy449; clear hy449; replace H := Option.bind_eq_some_iff.mp H; obtain ⟨t453, A410, H⟩ := H
       (try dsimp only at H)
       have A41 := Aside0.mk A410; clear A410; obtain ⟨y456, hy456⟩ : ∃ y_ : List (S33), y_ = (([(⟨a1_0, a1_1, a1_2, a1_3⟩ : S33)] : List (S33))) := ⟨_, rfl⟩
       replace H : (if t453.length + y456.length < 3518437208883 then ((some (t453 ++ y456 : List (S33))).bind fun y459 => ((some (l0_0.drop (x6_1 : Int).toNat : List (S33))).bind fun y462 => (if y459.length + y462.length < 3518437208883 then ((spec_checkedSignature.f k1 (y459 ++ y462)).bind fun bt469 => (some (bt469.1, bt469.2))) else (none)))) else (none)) = some (r1, r2) := by first | (rw [hy456]; with_reducible exact H) | (have H2_ := (Option.bind_some _ _).symm.trans H; rw [hy456]; with_reducible exact H2_) | (have H2_ := (Option.bind_some _ _).symm.trans H; with_reducible exact H2_) | with_reducible exact H | (rw [hy456]; exact H) | exact H
       have Ny456 := Aside0.mk hy456; clear hy456
       by_cases c42 : t453.length + y456.length < 3518437208883
       ·rw [if_pos c42] at H; have LMc42 := Aside0.mk c42; clear c42; obtain ⟨y459, hy459⟩ : ∃ y_ : List (S33), y_ = (t453 ++ y456) := ⟨_, rfl⟩
        replace H : ((some (l0_0.drop (x6_1 : Int).toNat : List (S33))).bind fun y462 => (if y459.length + y462.length < 3518437208883 then ((spec_checkedSignature.f k1 (y459 ++ y462)).bind fun bt469 => (some (bt469.1, bt469.2))) else (none))) = some (r1, r2) := by first | (rw [hy459]; with_reducible exact H) | (have H2_ := (Option.bind_some _ _).symm.trans H; rw [hy459]; with_reducible exact H2_) | (have H2_ := (Option.bind_some _ _).symm.trans H; with_reducible exact H2_) | with_reducible exact H | (rw [hy459]; exact H) | exact H
        have Ny459 := Aside0.mk hy459; clear hy459; have c43b0 := eq_true (of_decide_eq_true za : 0 ≤ x6_1); have c44b0 := eq_true (of_decide_eq_true za : x6_1 ≤ (l0_0.length : Int)); obtain ⟨y462, hy462⟩ : ∃ y_ : List (S33), y_ = (l0_0.drop (x6_1 : Int).toNat) := ⟨_, rfl⟩
        replace H : (if y459.length + y462.length < 3518437208883 then ((spec_checkedSignature.f k1 (y459 ++ y462)).bind fun bt469 => (some (bt469.1, bt469.2))) else (none)) = some (r1, r2) := by first | (rw [hy462]; with_reducible exact H) | (have H2_ := (Option.bind_some _ _).symm.trans H; rw [hy462]; with_reducible exact H2_) | (have H2_ := (Option.bind_some _ _).symm.trans H; with_reducible exact H2_) | with_reducible exact H | (rw [hy462]; exact H) | exact H
        have Ny462 := Aside0.mk hy462; clear hy462
        by_cases c45 : y459.length + y462.length < 3518437208883
        ·rw [if_pos c45] at H; have LMc45 := Aside0.mk c45; clear c45; obtain ⟨y466, hy466⟩ : ∃ y_ : List (S33), y_ = (y459 ++ y462) := ⟨_, rfl⟩
         replace H : ((spec_checkedSignature.f k1 y466).bind fun bt469 => (some (bt469.1, bt469.2))) = some (r1, r2) := by first | (rw [hy466]; with_reducible exact H) | (have H2_ := (Option.bind_some _ _).symm.trans H; rw [hy466]; with_reducible exact H2_) | (have H2_ := (Option.bind_some _ _).symm.trans H; with_reducible exact H2_) | with_reducible exact H | (rw [hy466]; exact H) | exact H
         have Ny466 := Aside0.mk hy466; clear hy466; replace H := Option.bind_eq_some_iff.mp H; obtain ⟨⟨t469, t472⟩, A460, H⟩ := H
         (try dsimp only at H)
         have A46 := Aside0.mk A460; clear A460; simp only [Option.some.injEq, Prod.mk.injEq] at H; obtain ⟨rfl, rfl⟩ := H
         try go_wp2
         replace BK420 := Aside0.mk (blk_drew BK420.out); replace BK421 := Aside0.mk (blk_drew BK421.out); replace BK422 := Aside0.mk (blk_drew BK422.out); replace HB := Aside0.mk (below_drew1 HB.out); refine start_ (n := 16) (S := fun w' => w'.cell? ⟨gb420, 0, none⟩ = some (.slice A0_0 l0_0.length c0_0)) (ds := []) #[false, false, false, false, false, false, false, false, false, false, false, false, false, false, false, false] (by kernel_rfl) rfl rfl ((blk_cell BK420.out 0).trans rfl) (fun hHeld => ?_); refine with_tabW spec_AddParam.tab4 spec_AddParam.bits4 (fun HT_ HW_ => ?_); generalize wr.drew = w47 at BK420 BK421 BK422 HB hHeld ⊢; refine pure_ (i := 0) (N := some 11) (v := ?_) (a' := ?_) #[true, false, false, false, false, false, false, false, false, false, false, false, false, false, false, false] rfl rfl (any_of HT_.out (by kernel_rfl)) (fun _ _ _ h => h) (Or.inl ⟨by rfl, ?_⟩) ?_ ?_; rotate_left
         ·intro w'; go_simp; with_reducible rfl
         rotate_left
         ·simp only [Act.put, List.setIfInBounds_toArray, List.set_cons_zero, List.set_cons_succ, i64_w, i32_w]; rfl
         refine pure_ (i := 1) (N := some 12) (v := ?_) (a' := ?_) #[true, true, false, false, false, false, false, false, false, false, false, false, false, false, false, false] rfl rfl (any_of HT_.out (by kernel_rfl)) (fun _ _ _ h => h) (Or.inl ⟨by rfl, ?_⟩) ?_ ?_; rotate_left
         ·intro w'; go_simp; with_reducible rfl
         rotate_left
         ·simp only [Act.put, List.setIfInBounds_toArray, List.set_cons_zero, List.set_cons_succ, i64_w, i32_w]; rfl
         refine take_ (i := 2) (N := some 13) (v := ?_) (a' := ?_) #[true, true, true, false, false, false, false, false, false, false, false, false, false, false, false, false] rfl rfl (take_ofW HT_.out HW_.out (by kernel_rfl)) (fun _ _ _ h => h) (Or.inl ⟨by rfl, ?_⟩) hHeld ?_ ?_; rotate_left
         ·intro w' s0; go_simp; with_reducible rfl
         rotate_left
         ·simp only [Act.put, List.setIfInBounds_toArray, List.set_cons_zero, List.set_cons_succ, i64_w, i32_w]; rfl
         refine pure_ (i := 3) (N := some 14) (v := ?_) (a' := ?_) #[true, true, true, true, false, false, false, false, false, false, false, false, false, false, false, false] rfl rfl (any_of HT_.out (by kernel_rfl)) (fun _ _ _ h => h) (Or.inl ⟨by rfl, ?_⟩) ?_ ?_; rotate_left
         ·intro w'; go_simp; with_reducible rfl
         rotate_left
         ·simp only [Act.put, List.setIfInBounds_toArray, List.set_cons_zero, List.set_cons_succ, i64_w, i32_w]; rfl
         refine pure_ (i := 4) (N := some 15) (v := ?_) (a' := ?_) #[true, true, true, true, true, false, false, false, false, false, false, false, false, false, false, false] rfl rfl (any_of HT_.out (by kernel_rfl)) (fun _ _ _ h => h) (Or.inl ⟨by rfl, ?_⟩) ?_ ?_; rotate_left
         ·intro w'; go_simp; with_reducible rfl
         rotate_left
         ·simp only [Act.put, List.setIfInBounds_toArray, List.set_cons_zero, List.set_cons_succ, i64_w, i32_w]; rfl
         refine pure_ (i := 5) (N := some 16) (v := ?_) (a' := ?_) #[true, true, true, true, true, true, false, false, false, false, false, false, false, false, false, false] rfl rfl (any_of HT_.out (by kernel_rfl)) (fun _ _ _ h => h) (Or.inl ⟨by rfl, ?_⟩) ?_ ?_; rotate_left
         ·intro w'; go_simp; with_reducible rfl
         rotate_left
         ·simp only [Act.put, List.setIfInBounds_toArray, List.set_cons_zero, List.set_cons_succ, i64_w, i32_w]; rfl
         refine pure_ (i := 6) (N := some 17) (v := undef) (a' := ?_) #[true, true, true, true, true, true, true, false, false, false, false, false, false, false, false, false] rfl rfl (any_of HT_.out (by kernel_rfl)) (fun _ _ _ h => h) (Or.inr ⟨by rfl, rfl⟩) ?_ ?_; rotate_left
         ·simp only [Act.put, List.setIfInBounds_toArray, List.set_cons_zero, List.set_cons_succ, i64_w, i32_w]; rfl
         refine pure_ (i := 7) (N := some 18) (v := undef) (a' := ?_) #[true, true, true, true, true, true, true, true, false, false, false, false, false, false, false, false] rfl rfl (any_of HT_.out (by kernel_rfl)) (fun _ _ _ h => h) (Or.inr ⟨by rfl, rfl⟩) ?_ ?_; rotate_left
         ·simp only [Act.put, List.setIfInBounds_toArray, List.set_cons_zero, List.set_cons_succ, i64_w, i32_w]; rfl
         refine pure_ (i := 8) (N := some 19) (v := undef) (a' := ?_) #[true, true, true, true, true, true, true, true, true, false, false, false, false, false, false, false] rfl rfl (any_of HT_.out (by kernel_rfl)) (fun _ _ _ h => h) (Or.inr ⟨by rfl, rfl⟩) ?_ ?_; rotate_left
         ·simp only [Act.put, List.setIfInBounds_toArray, List.set_cons_zero, List.set_cons_succ, i64_w, i32_w]; rfl
         refine pure_ (i := 9) (N := some 20) (v := undef) (a' := ?_) #[true, true, true, true, true, true, true, true, true, true, false, false, false, false, false, false] rfl rfl (any_of HT_.out (by kernel_rfl)) (fun _ _ _ h => h) (Or.inr ⟨by rfl, rfl⟩) ?_ ?_; rotate_left
         ·simp only [Act.put, List.setIfInBounds_toArray, List.set_cons_zero, List.set_cons_succ, i64_w, i32_w]; rfl
         refine pure_ (i := 10) (N := some 21) (v := undef) (a' := ?_) #[true, true, true, true, true, true, true, true, true, true, true, false, false, false, false, false] rfl rfl (any_of HT_.out (by kernel_rfl)) (fun _ _ _ h => h) (Or.inr ⟨by rfl, rfl⟩) ?_ ?_; rotate_left
         ·simp only [Act.put, List.setIfInBounds_toArray, List.set_cons_zero, List.set_cons_succ, i64_w, i32_w]; rfl
         refine pure_ (i := 11) (N := some 22) (v := undef) (a' := ?_) #[true, true, true, true, true, true, true, true, true, true, true, true, false, false, false, false] rfl rfl (any_of HT_.out (by kernel_rfl)) (fun _ _ _ h => h) (Or.inr ⟨by rfl, rfl⟩) ?_ ?_; rotate_left
         ·simp only [Act.put, List.setIfInBounds_toArray, List.set_cons_zero, List.set_cons_succ, i64_w, i32_w]; rfl
         refine pure_ (i := 12) (N := some 23) (v := undef) (a' := ?_) #[true, true, true, true, true, true, true, true, true, true, true, true, true, false, false, false] rfl rfl (any_of HT_.out (by kernel_rfl)) (fun _ _ _ h => h) (Or.inr ⟨by rfl, rfl⟩) ?_ ?_; rotate_left
         ·simp only [Act.put, List.setIfInBounds_toArray, List.set_cons_zero, List.set_cons_succ, i64_w, i32_w]; rfl
         refine pure_ (i := 13) (N := some 24) (v := undef) (a' := ?_) #[true, true, true, true, true, true, true, true, true, true, true, true, true, true, false, false] rfl rfl (any_of HT_.out (by kernel_rfl)) (fun _ _ _ h => h) (Or.inr ⟨by rfl, rfl⟩) ?_ ?_; rotate_left
         ·simp only [Act.put, List.setIfInBounds_toArray, List.set_cons_zero, List.set_cons_succ, i64_w, i32_w]; rfl
         refine pure_ (i := 14) (N := some 25) (v := undef) (a' := ?_) #[true, true, true, true, true, true, true, true, true, true, true, true, true, true, true, false] rfl rfl (any_of HT_.out (by kernel_rfl)) (fun _ _ _ h => h) (Or.inr ⟨by rfl, rfl⟩) ?_ ?_; rotate_left
         ·simp only [Act.put, List.setIfInBounds_toArray, List.set_cons_zero, List.set_cons_succ, i64_w, i32_w]; rfl
         refine pure_ (i := 15) (N := some 26) (v := ?_) (a' := ?_) #[true, true, true, true, true, true, true, true, true, true, true, true, true, true, true, true] rfl rfl (any_of HT_.out (by kernel_rfl)) (fun _ _ _ h => h) (Or.inl ⟨by rfl, ?_⟩) ?_ ?_; rotate_left
         ·intro w'; go_simp; with_reducible rfl
         rotate_left
         ·simp only [Act.put, List.setIfInBounds_toArray, List.set_cons_zero, List.set_cons_succ, i64_w, i32_w]; rfl
         refine done_ (done_of HT_.out (by kernel_rfl)) ?_
         try go_wp2
         replace BK420 := Aside0.mk (blk_drew BK420.out); replace BK421 := Aside0.mk (blk_drew BK421.out); replace BK422 := Aside0.mk (blk_drew BK422.out); replace HB := Aside0.mk (below_drew1 HB.out); have q49 : (x6_1 : Int) ≤ ((l0_0.length : Int) : Int) := of_decide_eq_true za; obtain ⟨i049, hi049, _, hsz49, _⟩ := info_parts info33; have hroom49 : l0_0.length ≤ c0_0 := HC0_0.out; have hC49 : Kd.C k33 _ A0_0 l0_0.length l0_0 := HR0_0.out; have hcut49 := cut_to (P := Try.prog) 23 33 .i64 Try.underlying23 hi049 A0_0 l0_0.length c0_0 x6_1 (of_decide_eq_true za) q49 hroom49; have hr49 := Kd.C_take (m := (x6_1 : Int).toNat) hC49 (by omega); have hy49 : y449.length = (x6_1 : Int).toNat := (by rw [Ny449.out, List.length_take]; omega)
         rw [← Ny449.out] at hr49; rw [← hy49] at hcut49; have HR452 := Aside0.mk hr49; have HC452 := Aside0.mk (show y449.length ≤ c0_0 from by omega); clear hr49 hC49 hroom49 hi049 hsz49; have KY49 := Aside0.mk hy49; clear hy49; replace q49 := eq_true q49; have q50 : (x6_1 : Int) ≤ ((l0_0.length : Int) : Int) := of_decide_eq_true za; obtain ⟨i050, hi050, _, hsz50, _⟩ := info_parts info33; have hroom50 : l0_0.length ≤ c0_0 := HC0_0.out; have hC50 : Kd.C k33 _ A0_0 l0_0.length l0_0 := HR0_0.out; have q050 : (0 : Int) ≤ (x6_1 : Int) := of_decide_eq_true za; have hcut50 := cut_from (P := Try.prog) 23 33 .i64 Try.underlying23 hi050 4 hsz50 A0_0 l0_0.length c0_0 x6_1 q050 q50; have hr50 := Kd.C_drop (m := (x6_1 : Int).toNat) (c := c0_0) hC50 (by omega) hroom50; obtain ⟨A50, hA50⟩ : ∃ A1, A1 = (if c0_0 = (x6_1 : Int).toNat then A0_0 else (A0_0 : Option Addr).map (·.add ((x6_1 : Int).toNat * 4))) := ⟨_, rfl⟩
         obtain ⟨c50, hc50⟩ : ∃ c1, c1 = c0_0 - (x6_1 : Int).toNat := ⟨_, rfl⟩
         have hy50 : y462.length = l0_0.length - (x6_1 : Int).toNat := (by rw [Ny462.out, List.length_drop] <;> omega)
         rw [show (l0_0).drop (x6_1 : Int).toNat = y462 from Ny462.out.symm] at hr50; replace hr50 : Kd.C k33 _ A50 y462.length y462 := (by rw [hA50]; exact hr50)
         rw [← hy50, ← hA50, ← hc50] at hcut50; have HR465 := Aside0.mk hr50; have HC465 := Aside0.mk (show y462.length ≤ c50 from by rw [hy50, hc50]; exact Nat.sub_le_sub_right hroom50 _); clear hr50 hC50 hroom50 hi050 hsz50 hc50; have KY50 := Aside0.mk hy50; have KA50 := Aside0.mk hA50; clear hy50 hA50; replace q50 := eq_true q50; refine start_ (n := 18) (S := fun w' => w'.cell? ⟨gb420, 0, none⟩ = some (.slice A0_0 l0_0.length c0_0) ∧ w'.cell? ⟨gb421, 0, none⟩ = some (.string a1_0) ∧ w'.cell? ⟨gb421, 1, none⟩ = some (.int .i64 a1_1) ∧ w'.cell? ⟨gb421, 2, none⟩ = some (.bool a1_2) ∧ w'.cell? ⟨gb421, 3, none⟩ = some (.int .i64 a1_3)) (ds := []) #[false, false, false, false, false, false, false, false, false, false, false, false, false, false, false, false, false, false] (by kernel_rfl) rfl rfl ⟨(blk_cell BK420.out 0).trans rfl, (blk_cell BK421.out 0).trans rfl, (blk_cell BK421.out 1).trans rfl, (blk_cell BK421.out 2).trans rfl, (blk_cell BK421.out 3).trans rfl⟩ (fun hHeld => ?_); refine with_tabW spec_AddParam.tab6 spec_AddParam.bits6 (fun HT_ HW_ => ?_); generalize w47.drew = w48 at BK420 BK421 BK422 HB HR452 HR465 hHeld ⊢; refine pure_ (i := 0) (N := some 29) (v := ?_) (a' := ?_) #[true, false, false, false, false, false, false, false, false, false, false, false, false, false, false, false, false, false] rfl rfl (any_of HT_.out (by kernel_rfl)) (fun _ _ _ h => h) (Or.inl ⟨by rfl, ?_⟩) ?_ ?_; rotate_left
         ·intro w'; go_simp; with_reducible rfl
         rotate_left
         ·simp only [Act.put, List.setIfInBounds_toArray, List.set_cons_zero, List.set_cons_succ, i64_w, i32_w]; rfl
         refine pure_ (i := 2) (N := some 31) (v := ?_) (a' := ?_) #[true, false, true, false, false, false, false, false, false, false, false, false, false, false, false, false, false, false] rfl rfl (any_of HT_.out (by kernel_rfl)) (fun _ _ _ h => h) (Or.inl ⟨by rfl, ?_⟩) ?_ ?_; rotate_left
         ·intro w'; go_simp; with_reducible rfl
         rotate_left
         ·simp only [Act.put, List.setIfInBounds_toArray, List.set_cons_zero, List.set_cons_succ, i64_w, i32_w]; rfl
         refine pure_ (i := 8) (N := some 37) (v := ?_) (a' := ?_) #[true, false, true, false, false, false, false, false, true, false, false, false, false, false, false, false, false, false] rfl rfl (any_of HT_.out (by kernel_rfl)) (fun _ _ _ h => h) (Or.inl ⟨by rfl, ?_⟩) ?_ ?_; rotate_left
         ·intro w'; go_simp; with_reducible rfl
         rotate_left
         ·simp only [Act.put, List.setIfInBounds_toArray, List.set_cons_zero, List.set_cons_succ, i64_w, i32_w]; rfl
         refine pure_ (i := 10) (N := some 39) (v := ?_) (a' := ?_) #[true, false, true, false, false, false, false, false, true, false, true, false, false, false, false, false, false, false] rfl rfl (any_of HT_.out (by kernel_rfl)) (fun _ _ _ h => h) (Or.inl ⟨by rfl, ?_⟩) ?_ ?_; rotate_left
         ·intro w'; go_simp; with_reducible rfl
         rotate_left
         ·simp only [Act.put, List.setIfInBounds_toArray, List.set_cons_zero, List.set_cons_succ, i64_w, i32_w]; rfl
         refine take_ (i := 1) (N := some 30) (v := ?_) (a' := ?_) #[true, true, true, false, false, false, false, false, true, false, true, false, false, false, false, false, false, false] rfl rfl (take_ofW HT_.out HW_.out (by kernel_rfl)) (fun _ _ _ h => h) (Or.inl ⟨by rfl, ?_⟩) hHeld ?_ ?_; rotate_left
         ·rintro w' ⟨s0, s1, s2, s3, s4⟩; go_simp; with_reducible rfl
         rotate_left
         ·simp only [Act.put, List.setIfInBounds_toArray, List.set_cons_zero, List.set_cons_succ, i64_w, i32_w]; rfl
         refine pure_ (i := 3) (N := some 32) (v := ?_) (a' := ?_) #[true, true, true, true, false, false, false, false, true, false, true, false, false, false, false, false, false, false] rfl rfl (any_of HT_.out (by kernel_rfl)) (fun _ _ _ h => h) (Or.inl ⟨by rfl, ?_⟩) ?_ ?_; rotate_left
         ·intro w'; go_simp; with_reducible rfl
         rotate_left
         ·simp only [Act.put, List.setIfInBounds_toArray, List.set_cons_zero, List.set_cons_succ, i64_w, i32_w]; rfl
         refine take_ (i := 5) (N := some 34) (v := ?_) (a' := ?_) #[true, true, true, true, false, true, false, false, true, false, true, false, false, false, false, false, false, false] rfl rfl (take_ofW HT_.out HW_.out (by kernel_rfl)) (fun _ _ _ h => h) (Or.inl ⟨by rfl, ?_⟩) hHeld ?_ ?_; rotate_left
         ·rintro w' ⟨s0, s1, s2, s3, s4⟩; go_simp; with_reducible rfl
         rotate_left
         ·simp only [Act.put, List.setIfInBounds_toArray, List.set_cons_zero, List.set_cons_succ, i64_w, i32_w]; rfl
         refine take_ (i := 9) (N := some 38) (v := ?_) (a' := ?_) #[true, true, true, true, false, true, false, false, true, true, true, false, false, false, false, false, false, false] rfl rfl (take_ofW HT_.out HW_.out (by kernel_rfl)) (fun _ _ _ h => h) (Or.inl ⟨by rfl, ?_⟩) hHeld ?_ ?_; rotate_left
         ·rintro w' ⟨s0, s1, s2, s3, s4⟩; go_simp; with_reducible rfl
         rotate_left
         ·simp only [Act.put, List.setIfInBounds_toArray, List.set_cons_zero, List.set_cons_succ, i64_w, i32_w]; rfl
         refine pure_ (i := 11) (N := some 40) (v := ?_) (a' := ?_) #[true, true, true, true, false, true, false, false, true, true, true, true, false, false, false, false, false, false] rfl rfl (any_of HT_.out (by kernel_rfl)) (fun _ _ _ h => h) (Or.inl ⟨by rfl, ?_⟩) ?_ ?_; rotate_left
         ·intro w'; go_simp; with_reducible rfl
         rotate_left
         ·simp only [Act.put, List.setIfInBounds_toArray, List.set_cons_zero, List.set_cons_succ, i64_w, i32_w]; rfl
         refine join_ (σ := Value × Value) 7 #[true, true, true, true, true, true, true, false, true, true, true, true, false, false, false, false, false, false] (fun s_ => [(33, s_.1), (35, s_.2)]) (fun s_ w' => (w'.cell? ⟨gb420, 0, none⟩ = some (.slice A0_0 l0_0.length c0_0) ∧ w'.cell? ⟨gb421, 0, none⟩ = some (.string a1_0) ∧ w'.cell? ⟨gb421, 1, none⟩ = some (.int .i64 a1_1) ∧ w'.cell? ⟨gb421, 2, none⟩ = some (.bool a1_2) ∧ w'.cell? ⟨gb421, 3, none⟩ = some (.int .i64 a1_3)) ∧ (Kd.R k33 33 w' w.heap.size (fun k_ => some k_ ≠ (s_.2 : Value).ownBlock ∧ k_ ≠ gb421) s_.1 t453) ∧ (Kd.R k33 33 w' w.heap.size (fun k_ => some k_ ≠ (s_.1 : Value).ownBlock ∧ k_ ≠ gb421) s_.2 y456) ∧ (w'.heap[gb420]? = some (.cells #[.slice A0_0 l0_0.length c0_0] 25 (0, 0))) ∧ (w'.heap[gb421]? = some (.cells #[.string a1_0, .int .i64 a1_1, .bool a1_2, .int .i64 a1_3] 33 (0, 0))) ∧ (w'.heap[gb422]? = some (.cells #[.slice none 0 0] 25 (0, 0))) ∧ (Below w.heap.size w w')) ?_ ?_; rotate_left
         ·intro hCont; refine two_ (i := 4) (j := 6) (Ni := some 33) (Nj := some 35) #[true, true, true, true, true, true, false, false, true, true, true, true, false, false, false, false, false, false] #[true, true, true, true, false, true, true, false, true, true, true, true, false, false, false, false, false, false] rfl rfl rfl rfl (two_of HT_.out (by kernel_rfl)) (by decide) (by decide) (fun K hK => ?_) (fun K hK => ?_)
          ·skip
           refine goes_ Try.func57 (by kernel_rfl) rfl #[.slice A0_0 y449.length c0_0] (by rfl) rfl rfl zl ?_; with_reducible refine (spec_copyParams.calls _ _ y449 t453 _ ?side1 ?side2 A41.out).mono ?_
           (case side1 => repeat (first | exact (Kd.C_below HR452.out HB.out) | (with_reducible refine Kd.C_alloc ?_ _) | (with_reducible refine Kd.C_drewN ?_ _) | (with_reducible refine Kd.C_drew ?_)))
           (case side2 => exact HC452.out)
           rintro e w51 ⟨v454, rfl, ho0, hb⟩; refine ⟨_, rfl, ?_⟩; have HO455 := Aside0.mk (Kd.R_lower (Kd.R_newB ho0 (g := gb421) (o := .cells #[.string a1_0, .int .i64 a1_1, .bool a1_2, .int .i64 a1_3] 33 (0, 0)) (zb BK421)) (below_size (zB HB))); replace BK420 := Aside0.mk (blk_below (g := gb420) (o := .cells #[.slice A0_0 l0_0.length c0_0] 25 (0, 0)) (zb BK420) hb); replace BK421 := Aside0.mk (blk_below (g := gb421) (o := .cells #[.string a1_0, .int .i64 a1_1, .bool a1_2, .int .i64 a1_3] 33 (0, 0)) (zb BK421) hb); replace BK422 := Aside0.mk (blk_below (g := gb422) (o := .cells #[.slice none 0 0] 25 (0, 0)) (zb BK422) hb); replace HB := Aside0.mk (below_step (zB HB) hb); (try clear hb); (try clear hb2); (try clear hk); (try clear hi); (try clear ho0); refine hK.out _ _ ⟨(blk_cell BK420.out 0).trans rfl, (blk_cell BK421.out 0).trans rfl, (blk_cell BK421.out 1).trans rfl, (blk_cell BK421.out 2).trans rfl, (blk_cell BK421.out 3).trans rfl⟩ (fun hHeld => ?_); clear hK K; refine norm_ (a' := ?_) ?_ ?_; rotate_left
           ·show Act.put _ (some 33) _ = _
            simp only [Act.put, List.setIfInBounds_toArray, List.set_cons_zero, List.set_cons_succ, i64_w, i32_w]; rfl
           refine one_ (i := 6) (N := some 35) #[true, true, true, true, true, true, true, false, true, true, true, true, false, false, false, false, false, false] rfl rfl (one_of HT_.out (by kernel_rfl)) (by decide) (fun K hK => ?_); refine Kd.R_lit_step k33 _ 33 ?hg (N := 35) ?hd (xs := ([(⟨a1_0, a1_1, a1_2, a1_3⟩ : S33)] : List (S33))) (inner := [.string a1_0, .int .i64 a1_1, .bool a1_2, .int .i64 a1_3]) (ok := fun _ => True) (okp := fun _ => True) ?hr ?hp (fun _ hk => hk) trivial (Below.refl _ _) (Nat.le_refl _) (by simp) ?_; (case hd => rfl); (case hg => rfl); (case hr => first | (go_simp; done) | (go_simp; rfl)); (case hp => exact (Reps.c4 (show Kd.M k33 _ _ _ (⟨a1_0, a1_1, a1_2, a1_3⟩ : S33) [.string a1_0, .int .i64 a1_1, .bool a1_2, .int .i64 a1_3] from (k33_mkM _ _ _ (⟨a1_0, a1_1, a1_2, a1_3⟩ : S33) )) (Reps.none _ _))); intro v457 w52 ho53 hb hg_ hnew_; clear hg_ hnew_
           (first | rw [← Ny456.out] at ho53 | (simp only [Int.reduceToNat] at ho53; rw [← Ny456.out] at ho53))
           have HO458 := Aside0.mk (Kd.R_lower (Kd.R_newB (Kd.R_new' ho53 (Kd.R_lt (zo HO455))) (g := gb421) (o := .cells #[.string a1_0, .int .i64 a1_1, .bool a1_2, .int .i64 a1_3] 33 (0, 0)) (zb BK421)) (below_size (zB HB))); replace HO455 := Aside0.mk (Kd.R_elder' (zo HO455) (Kd.R_base ho53) hb); replace BK420 := Aside0.mk (blk_below (g := gb420) (o := .cells #[.slice A0_0 l0_0.length c0_0] 25 (0, 0)) (zb BK420) hb); replace BK421 := Aside0.mk (blk_below (g := gb421) (o := .cells #[.string a1_0, .int .i64 a1_1, .bool a1_2, .int .i64 a1_3] 33 (0, 0)) (zb BK421) hb); replace BK422 := Aside0.mk (blk_below (g := gb422) (o := .cells #[.slice none 0 0] 25 (0, 0)) (zb BK422) hb); replace HB := Aside0.mk (below_step (zB HB) hb); clear hb ho53; refine hK.out _ _ ⟨(blk_cell BK420.out 0).trans rfl, (blk_cell BK421.out 0).trans rfl, (blk_cell BK421.out 1).trans rfl, (blk_cell BK421.out 2).trans rfl, (blk_cell BK421.out 3).trans rfl⟩ (fun hHeld => ?_); clear hK K; refine norm_ (a' := ?_) ?_ ?_; rotate_left
           ·show Act.put _ (some 35) _ = _
            simp only [Act.put, List.setIfInBounds_toArray, List.set_cons_zero, List.set_cons_succ, i64_w, i32_w]; rfl
           exact norm_ zn (hCont (v454, v457) _ ⟨hHeld, (zmR HO455 (fun _ hk => ⟨hk.2, hk.1.2⟩)), (zmR HO458 (fun _ hk => ⟨hk.1.2, hk.2⟩)), (zb BK420), (zb BK421), (zb BK422), (zB HB)⟩)
          ·skip
           refine Kd.R_lit_step k33 _ 33 ?hg (N := 35) ?hd (xs := ([(⟨a1_0, a1_1, a1_2, a1_3⟩ : S33)] : List (S33))) (inner := [.string a1_0, .int .i64 a1_1, .bool a1_2, .int .i64 a1_3]) (ok := fun _ => True) (okp := fun _ => True) ?hr ?hp (fun _ hk => hk) trivial (Below.refl _ _) (Nat.le_refl _) (by simp) ?_; (case hd => rfl); (case hg => rfl); (case hr => first | (go_simp; done) | (go_simp; rfl)); (case hp => exact (Reps.c4 (show Kd.M k33 _ _ _ (⟨a1_0, a1_1, a1_2, a1_3⟩ : S33) [.string a1_0, .int .i64 a1_1, .bool a1_2, .int .i64 a1_3] from (k33_mkM _ _ _ (⟨a1_0, a1_1, a1_2, a1_3⟩ : S33) )) (Reps.none _ _))); intro v457 w51 ho52 hb hg_ hnew_; clear hg_ hnew_
           (first | rw [← Ny456.out] at ho52 | (simp only [Int.reduceToNat] at ho52; rw [← Ny456.out] at ho52))
           have HO458 := Aside0.mk (Kd.R_lower (Kd.R_newB ho52 (g := gb421) (o := .cells #[.string a1_0, .int .i64 a1_1, .bool a1_2, .int .i64 a1_3] 33 (0, 0)) (zb BK421)) (below_size (zB HB))); replace BK420 := Aside0.mk (blk_below (g := gb420) (o := .cells #[.slice A0_0 l0_0.length c0_0] 25 (0, 0)) (zb BK420) hb); replace BK421 := Aside0.mk (blk_below (g := gb421) (o := .cells #[.string a1_0, .int .i64 a1_1, .bool a1_2, .int .i64 a1_3] 33 (0, 0)) (zb BK421) hb); replace BK422 := Aside0.mk (blk_below (g := gb422) (o := .cells #[.slice none 0 0] 25 (0, 0)) (zb BK422) hb); replace HB := Aside0.mk (below_step (zB HB) hb); clear hb ho52; refine hK.out _ _ ⟨(blk_cell BK420.out 0).trans rfl, (blk_cell BK421.out 0).trans rfl, (blk_cell BK421.out 1).trans rfl, (blk_cell BK421.out 2).trans rfl, (blk_cell BK421.out 3).trans rfl⟩ (fun hHeld => ?_); clear hK K; refine norm_ (a' := ?_) ?_ ?_; rotate_left
           ·show Act.put _ (some 35) _ = _
            simp only [Act.put, List.setIfInBounds_toArray, List.set_cons_zero, List.set_cons_succ, i64_w, i32_w]; rfl
           refine one_ (i := 4) (N := some 33) #[true, true, true, true, true, true, true, false, true, true, true, true, false, false, false, false, false, false] rfl rfl (one_of HT_.out (by kernel_rfl)) (by decide) (fun K hK => ?_); refine goes_ Try.func57 (by kernel_rfl) rfl #[.slice A0_0 y449.length c0_0] (by rfl) rfl rfl zl ?_; with_reducible refine (spec_copyParams.calls _ _ y449 t453 _ ?side1 ?side2 A41.out).mono ?_
           (case side1 => repeat (first | exact (Kd.C_below HR452.out HB.out) | (with_reducible refine Kd.C_alloc ?_ _) | (with_reducible refine Kd.C_drewN ?_ _) | (with_reducible refine Kd.C_drew ?_)))
           (case side2 => exact HC452.out)
           rintro e w53 ⟨v454, rfl, ho0, hb⟩; refine ⟨_, rfl, ?_⟩; have HO455 := Aside0.mk (Kd.R_lower (Kd.R_newB (Kd.R_new' ho0 (Kd.R_lt (zo HO458))) (g := gb421) (o := .cells #[.string a1_0, .int .i64 a1_1, .bool a1_2, .int .i64 a1_3] 33 (0, 0)) (zb BK421)) (below_size (zB HB))); replace HO458 := Aside0.mk (Kd.R_elder' (zo HO458) (Kd.R_base ho0) hb); replace BK420 := Aside0.mk (blk_below (g := gb420) (o := .cells #[.slice A0_0 l0_0.length c0_0] 25 (0, 0)) (zb BK420) hb); replace BK421 := Aside0.mk (blk_below (g := gb421) (o := .cells #[.string a1_0, .int .i64 a1_1, .bool a1_2, .int .i64 a1_3] 33 (0, 0)) (zb BK421) hb); replace BK422 := Aside0.mk (blk_below (g := gb422) (o := .cells #[.slice none 0 0] 25 (0, 0)) (zb BK422) hb); replace HB := Aside0.mk (below_step (zB HB) hb); (try clear hb); (try clear hb2); (try clear hk); (try clear hi); (try clear ho0); refine hK.out _ _ ⟨(blk_cell BK420.out 0).trans rfl, (blk_cell BK421.out 0).trans rfl, (blk_cell BK421.out 1).trans rfl, (blk_cell BK421.out 2).trans rfl, (blk_cell BK421.out 3).trans rfl⟩ (fun hHeld => ?_); clear hK K; refine norm_ (a' := ?_) ?_ ?_; rotate_left
           ·show Act.put _ (some 33) _ = _
            simp only [Act.put, List.setIfInBounds_toArray, List.set_cons_zero, List.set_cons_succ, i64_w, i32_w]; rfl
           exact norm_ zn (hCont (v454, v457) _ ⟨hHeld, (zmR HO455 (fun _ hk => ⟨hk.1.2, hk.2⟩)), (zmR HO458 (fun _ hk => ⟨hk.2, hk.1.2⟩)), (zb BK420), (zb BK421), (zb BK422), (zB HB)⟩)
         rintro ⟨v454, v457⟩ w54 ⟨hS_, h0_, h1_, h2_, h3_, h4_, h5_⟩; have n0_ : Aside0 (Kd.R k33 33 w54 w.heap.size (fun k_ => some k_ ≠ (v457 : Value).ownBlock ∧ k_ ≠ gb421) v454 t453) := ⟨h0_⟩
         have n1_ : Aside0 (Kd.R k33 33 w54 w.heap.size (fun k_ => some k_ ≠ (v454 : Value).ownBlock ∧ k_ ≠ gb421) v457 y456) := ⟨h1_⟩
         have n2_ : Aside0 (w54.heap[gb420]? = some (.cells #[.slice A0_0 l0_0.length c0_0] 25 (0, 0))) := ⟨h2_⟩
         have n3_ : Aside0 (w54.heap[gb421]? = some (.cells #[.string a1_0, .int .i64 a1_1, .bool a1_2, .int .i64 a1_3] 33 (0, 0))) := ⟨h3_⟩
         have n4_ : Aside0 (w54.heap[gb422]? = some (.cells #[.slice none 0 0] 25 (0, 0))) := ⟨h4_⟩
         have n5_ : Aside0 (Below w.heap.size w w54) := ⟨h5_⟩
         clear BK420; clear BK421; clear BK422; clear HB; clear h0_ h1_ h2_ h3_ h4_ h5_; have HO455 := n0_; have HO458 := n1_; have BK420 := n2_; have BK421 := n3_; have BK422 := n4_; have HB := n5_; clear n0_ n1_ n2_ n3_ n4_ n5_; have hHeld : w54.cell? ⟨gb420, 0, none⟩ = some (.slice A0_0 l0_0.length c0_0) ∧ w54.cell? ⟨gb421, 0, none⟩ = some (.string a1_0) ∧ w54.cell? ⟨gb421, 1, none⟩ = some (.int .i64 a1_1) ∧ w54.cell? ⟨gb421, 2, none⟩ = some (.bool a1_2) ∧ w54.cell? ⟨gb421, 3, none⟩ = some (.int .i64 a1_3) := hS_; obtain ⟨Ao56, co56, eo56⟩ := Kd.R_slice HO458.out
         (first | subst eo56 | (injection eo56 with f1_ f2_ f3_; have f4_ := f1_.symm; have f5_ := f3_.symm; clear f1_ f2_ f3_; subst f4_; subst f5_))
         refine norm_ (a' := ?_) ?_ ?_; rotate_left
         ·simp only [putAll, Act.put, List.setIfInBounds_toArray, List.set_cons_zero, List.set_cons_succ]; rfl
         refine one_ (i := 7) (N := some 36) #[true, true, true, true, true, true, true, true, true, true, true, true, false, false, false, false, false, false] rfl rfl (one_of HT_.out (by kernel_rfl)) (by decide) (fun K hK => ?_); refine Kd.R_append_rows_step k33 (w0 := w) w.heap.size (by rfl) (.tmp 33) (.tmp 35) 23 33 (.agg #[(.string ⟨#[]⟩), (.int .i64 0), (.bool false), (.int .i64 0)]) 40 rfl Try.underlying23 info33 rfl (by decide) (by omega) v454 t453 y456 _ _ _ (fun k_ => some k_ ≠ (.slice Ao56 y456.length co56 : Value).ownBlock ∧ k_ ≠ gb421) (fun _ => False) rfl rfl ?aO ?aR (fun _ _ h => h) (fun _ h => h.elim) ?aF ?aB ?aS ?aL ?_
         (case aR => repeat (first | exact (Kd.R_reads' HO458.out).2.2 | (with_reducible refine Kd.C_alloc ?_ _) | (with_reducible refine Kd.C_drewN ?_ _) | (with_reducible refine Kd.C_drew ?_)))
         (case aB => exact (zB HB))
         (case aF => exact (fun k_ hk => ⟨Kd.fresh' (Kd.R_lt (zo HO458)) k_ hk, Kd.freshB (g := gb421) (o := .cells #[.string a1_0, .int .i64 a1_1, .bool a1_2, .int .i64 a1_3] 33 (0, 0)) (zb BK421) k_ hk⟩))
         (case aO => exact (zo HO455))
         (case aS => exact (below_size (zB HB)))
         (case aL => have := LMc42.out; omega)
         intro v460 w55 ho hb hg hat; rw [← Ny459.out] at ho; have n0_ := Aside0.mk (blk_grown (g := gb420) (o := .cells #[.slice A0_0 l0_0.length c0_0] 25 (0, 0)) (zb BK420) hg (Kd.R_ne HO455.out BK420.out (by decide))); have n1_ := Aside0.mk (blk_grown (g := gb421) (o := .cells #[.string a1_0, .int .i64 a1_1, .bool a1_2, .int .i64 a1_3] 33 (0, 0)) (zb BK421) hg (Kd.R_away HO455.out (fun _ hk => hk.2))); have n2_ := Aside0.mk (blk_grown (g := gb422) (o := .cells #[.slice none 0 0] 25 (0, 0)) (zb BK422) hg (Kd.R_ne HO455.out BK422.out (by decide))); have n3_ := Aside0.mk (Kd.R_after (ok := (fun k_ => k_ ≠ gb421)) (zmR HO458 (fun _ hk => ⟨hk.2, hk.1⟩)) hg hat); have n4_ := Aside0.mk (hb); have n5_ := Aside0.mk (ho); clear BK420; clear BK421; clear BK422; clear HO458; clear HB; clear HO455; have BK420 := n0_; have BK421 := n1_; have BK422 := n2_; have HO458 := n3_; have HB := n4_; have HO461 := n5_; clear n0_ n1_ n2_ n3_ n4_ n5_; clear ho hb hg hat; refine hK.out _ _ ⟨(blk_cell BK420.out 0).trans rfl, (blk_cell BK421.out 0).trans rfl, (blk_cell BK421.out 1).trans rfl, (blk_cell BK421.out 2).trans rfl, (blk_cell BK421.out 3).trans rfl⟩ (fun hHeld => ?_); clear hK K; refine norm_ (a' := ?_) ?_ ?_; rotate_left
         ·show Act.put _ (some 36) _ = _
          simp only [Act.put, List.setIfInBounds_toArray, List.set_cons_zero, List.set_cons_succ, i64_w, i32_w]; rfl
         refine one_ (i := 12) (N := some 41) #[true, true, true, true, true, true, true, true, true, true, true, true, true, false, false, false, false, false] rfl rfl (one_of HT_.out (by kernel_rfl)) (by decide) (fun K hK => ?_); refine Kd.R_append_rows_step k33 (w0 := w) w.heap.size (by rfl) (.tmp 36) (.tmp 40) 23 33 (.agg #[(.string ⟨#[]⟩), (.int .i64 0), (.bool false), (.int .i64 0)]) 40 rfl Try.underlying23 info33 rfl (by decide) (by omega) v460 y459 y462 _ _ _ (fun k_ => some k_ ≠ (.slice Ao56 y456.length co56 : Value).ownBlock ∧ k_ ≠ gb421) (fun _ => False) rfl rfl ?aO ?aR (fun _ _ h => h) (fun _ h => h.elim) ?aF ?aB ?aS ?aL ?_
         (case aR => repeat (first | exact (Kd.C_below HR465.out HB.out) | (with_reducible refine Kd.C_alloc ?_ _) | (with_reducible refine Kd.C_drewN ?_ _) | (with_reducible refine Kd.C_drew ?_)))
         (case aB => exact (zB HB))
         (case aF => exact (fun k_ hk => ⟨Kd.fresh' (Kd.R_lt (zo HO458)) k_ hk, Kd.freshB (g := gb421) (o := .cells #[.string a1_0, .int .i64 a1_1, .bool a1_2, .int .i64 a1_3] 33 (0, 0)) (zb BK421) k_ hk⟩))
         (case aO => exact (zo HO461))
         (case aS => exact (below_size (zB HB)))
         (case aL => have := LMc45.out; omega)
         intro v467 w57 ho hb hg hat; rw [← Ny466.out] at ho; have n0_ := Aside0.mk (blk_grown (g := gb420) (o := .cells #[.slice A0_0 l0_0.length c0_0] 25 (0, 0)) (zb BK420) hg (Kd.R_ne HO461.out BK420.out (by decide))); have n1_ := Aside0.mk (blk_grown (g := gb421) (o := .cells #[.string a1_0, .int .i64 a1_1, .bool a1_2, .int .i64 a1_3] 33 (0, 0)) (zb BK421) hg (Kd.R_away HO461.out (fun _ hk => hk.2))); have n2_ := Aside0.mk (blk_grown (g := gb422) (o := .cells #[.slice none 0 0] 25 (0, 0)) (zb BK422) hg (Kd.R_ne HO461.out BK422.out (by decide))); have n3_ := Aside0.mk (Kd.R_after (ok := (fun k_ => k_ ≠ gb421)) (zo HO458) hg hat); have n4_ := Aside0.mk (hb); have n5_ := Aside0.mk (ho); clear BK420; clear BK421; clear BK422; clear HO458; clear HB; clear HO461; have BK420 := n0_; have BK421 := n1_; have BK422 := n2_; have HO458 := n3_; have HB := n4_; have HO468 := n5_; clear n0_ n1_ n2_ n3_ n4_ n5_; clear ho hb hg hat; obtain ⟨Ao58, co58, eo58⟩ := Kd.R_slice HO468.out
         (first | subst eo58 | (injection eo58 with f1_ f2_ f3_; have f4_ := f1_.symm; have f5_ := f3_.symm; clear f1_ f2_ f3_; subst f4_; subst f5_))
         refine hK.out _ _ ⟨(blk_cell BK420.out 0).trans rfl, (blk_cell BK421.out 0).trans rfl, (blk_cell BK421.out 1).trans rfl, (blk_cell BK421.out 2).trans rfl, (blk_cell BK421.out 3).trans rfl⟩ (fun hHeld => ?_); clear hK K; refine norm_ (a' := ?_) ?_ ?_; rotate_left
         ·show Act.put _ (some 41) _ = _
          simp only [Act.put, List.setIfInBounds_toArray, List.set_cons_zero, List.set_cons_succ, i64_w, i32_w]; rfl
         refine one_ (i := 13) (N := some 42) #[true, true, true, true, true, true, true, true, true, true, true, true, true, true, false, false, false, false] rfl rfl (one_of HT_.out (by kernel_rfl)) (by decide) (fun K hK => ?_); refine goes_ Try.func69 (by kernel_rfl) rfl #[.slice Ao58 y466.length co58] (by rfl) rfl rfl zl ?_; with_reducible refine (spec_checkedSignature.calls k1 (fun k_ => some k_ = (.slice Ao58 y466.length co58 : Value).ownBlock) (.slice Ao58 y466.length co58) y466 t469 t472 w _ ?side1 ?side2 A46.out).mono ?_
         (case side1 => exact zB HB)
         (case side2 => exact Kd.R_tight rfl HO468.out)
         rintro e w59 ⟨v470, rfl, ho0, hb, hkp⟩; refine ⟨_, rfl, ?_⟩; have n0_ := Aside0.mk (blk_kept (zb BK420) hkp (fun hs_ => (fun e_ => (Kd.R_ne HO468.out BK420.out (by decide)) e_) hs_)); have n1_ := Aside0.mk (blk_kept (zb BK421) hkp (fun hs_ => (fun e_ => (Kd.R_away HO468.out (fun _ hk => hk.2)) e_) hs_)); have n2_ := Aside0.mk (blk_kept (zb BK422) hkp (fun hs_ => (fun e_ => (Kd.R_ne HO468.out BK422.out (by decide)) e_) hs_)); have n3_ := Aside0.mk (Kd.R_mono (ok' := fun k_ => k_ ≠ gb421 ∧ some k_ ≠ (v470 : Value).ownBlock) (Kd.R_keptB (HO458.out) hkp (fun k_ hk_ hs_ => (hk_.2) hs_)) (fun k_ hk_ => ⟨hk_.1.1, fun e_ => Or.elim (ho0.1 k_ e_.symm) (fun hs_ => hk_.2.1 hs_) (fun hn_ => Nat.not_le.2 hk_.2.2 hn_)⟩)); have n4_ := Aside0.mk (Kd.R_mono (ok' := fun k_ => some k_ ≠ (.slice Ao56 y456.length co56 : Value).ownBlock ∧ k_ ≠ gb421) ho0 (fun k_ hk_ => ⟨Or.elim hk_ (fun hs_ => fun e_ => (((HO458.out).1 k_ e_.symm).2) hs_) (fun hn_ => (Kd.fresh' (Kd.R_lt (zo HO458)) k_ hn_)), Or.elim hk_ (fun hs_ => fun e_ => (Kd.R_away HO468.out (fun _ hk => hk.2)) (by rw [← e_]; exact hs_)) (fun hn_ => (Kd.freshB (g := gb421) (o := .cells #[.string a1_0, .int .i64 a1_1, .bool a1_2, .int .i64 a1_3] 33 (0, 0)) (zb BK421) k_ hn_))⟩)); have n5_ := Aside0.mk (hb); clear BK420; clear BK421; clear BK422; clear HO458; clear HB; clear HO468; have BK420 := n0_; have BK421 := n1_; have BK422 := n2_; have HO458 := n3_; have HO471 := n4_; have HB := n5_; clear n0_ n1_ n2_ n3_ n4_ n5_; (try clear hb); (try clear hkp); (try clear ho0); obtain ⟨Ao60, co60, eo60⟩ := Kd.R_slice HO471.out
         (first | subst eo60 | (injection eo60 with f1_ f2_ f3_; have f4_ := f1_.symm; have f5_ := f3_.symm; clear f1_ f2_ f3_; subst f4_; subst f5_))
         refine hK.out _ _ ⟨(blk_cell BK420.out 0).trans rfl, (blk_cell BK421.out 0).trans rfl, (blk_cell BK421.out 1).trans rfl, (blk_cell BK421.out 2).trans rfl, (blk_cell BK421.out 3).trans rfl⟩ (fun hHeld => ?_); clear hK K; refine norm_ (a' := ?_) ?_ ?_; rotate_left
         ·show Act.put _ (some 42) _ = _
          simp only [Act.put, List.setIfInBounds_toArray, List.set_cons_zero, List.set_cons_succ, i64_w, i32_w]; rfl
         refine pure_ (i := 14) (N := some 43) (v := ?_) (a' := ?_) #[true, true, true, true, true, true, true, true, true, true, true, true, true, true, true, false, false, false] rfl rfl (any_of HT_.out (by kernel_rfl)) (fun _ _ _ h => h) (Or.inl ⟨by rfl, ?_⟩) ?_ ?_; rotate_left
         ·intro w'; go_simp; with_reducible rfl
         rotate_left
         ·simp only [Act.put, List.setIfInBounds_toArray, List.set_cons_zero, List.set_cons_succ, i64_w, i32_w]; rfl
         refine pure_ (i := 15) (N := some 44) (v := ?_) (a' := ?_) #[true, true, true, true, true, true, true, true, true, true, true, true, true, true, true, true, false, false] rfl rfl (any_of HT_.out (by kernel_rfl)) (fun _ _ _ h => h) (Or.inl ⟨by rfl, ?_⟩) ?_ ?_; rotate_left
         ·intro w'; go_simp; with_reducible rfl
         rotate_left
         ·simp only [Act.put, List.setIfInBounds_toArray, List.set_cons_zero, List.set_cons_succ, i64_w, i32_w]; rfl
         refine one_ (i := 16) (N := none) #[true, true, true, true, true, true, true, true, true, true, true, true, true, true, true, true, true, false] rfl rfl (one_of HT_.out (by kernel_rfl)) (by decide) (fun K hK => ?_); have hs61 : w59.cell? ⟨gb422, 0, none⟩ = some (.slice none 0 0) := (blk_cell BK422.out 0).trans rfl; have hfs61 := blk_frozen BK422.out 0; have hns61_0 := NB420_422.out; have hns61_1 := NB421_422.out; have hms61_0 := NB422_420.out; have hms61_1 := NB422_421.out; refine skip_ (w1 := ?_) (by rfl) rfl ?_ ?_; rotate_left
         ·go_simp; rfl
         refine hK.out _ _ ⟨((cell_far (p := ⟨gb422, _, none⟩) NB420_422.out _).trans (hHeld.1)), ((cell_far (p := ⟨gb422, _, none⟩) NB421_422.out _).trans (hHeld.2.1)), ((cell_far (p := ⟨gb422, _, none⟩) NB421_422.out _).trans (hHeld.2.2.1)), ((cell_far (p := ⟨gb422, _, none⟩) NB421_422.out _).trans (hHeld.2.2.2.1)), ((cell_far (p := ⟨gb422, _, none⟩) NB421_422.out _).trans (hHeld.2.2.2.2))⟩ (fun hHeld => ?_); clear hK K; refine pure_ (i := 17) (N := some 5) (v := ?_) (a' := ?_) #[true, true, true, true, true, true, true, true, true, true, true, true, true, true, true, true, true, true] rfl rfl (any_of HT_.out (by kernel_rfl)) (fun _ _ _ h => h) (Or.inl ⟨by rfl, ?_⟩) ?_ ?_; rotate_left
         ·intro w'; go_simp; with_reducible rfl
         rotate_left
         ·simp only [Act.put, List.setIfInBounds_toArray, List.set_cons_zero, List.set_cons_succ, i64_w, i32_w]; rfl
         refine done_ (done_of HT_.out (by kernel_rfl)) ?_
         try go_wp2
         refine bodyPost_ret (results_ct rfl _ _ gb422 25 #[.slice Ao60 t469.length co60] (0, 0) _ rfl (by (with_reducible repeat (first | refine blk_drewN ?_ _ | refine blk_drew ?_ | refine blk_alloc ?_ _)); refine blk_put (cs := #[.slice none 0 0]) ?_ 0 _ rfl; (with_reducible repeat (first | refine blk_drewN ?_ _ | refine blk_drew ?_ | refine blk_alloc ?_ _)); exact BK422.out) Try.underlying25 rfl (by kernel_rfl)) rfl ?_; exact ⟨_, by first | rfl | (simp [errW_none, errW_some] <;> rfl) | (simp [*, errW_none, errW_some] <;> rfl), by (with_reducible repeat (first | apply Kd.R_alloc | apply Kd.R_drewN | apply Kd.R_drew)); exact Kd.R_mono (Kd.R_far (p := ⟨gb422, 0, none⟩) (Kd.R_types HO471.out BK422.out (by decide)) (fun _ hk => hk.2) (.slice Ao60 t469.length co60)) (fun _ hk => trivial), zB HB⟩
        ·rw [if_neg c45] at H; exact absurd H (by simp)
       ·rw [if_neg c42] at H; exact absurd H (by simp)
      ·rw [if_neg c40] at H; exact absurd H (by simp)
     ·rw [if_neg c39] at H; exact absurd H (by simp)
 ·replace c4 := Bool.eq_false_iff.mpr c4; subst c4; rw [if_neg (show ¬ (false = true) by decide)] at H; simp only [Option.some.injEq, Prod.mk.injEq] at H; obtain ⟨rfl, rfl⟩ := H; go_enter Try.func23, Try.ntmps23; go_wp2_with (first | ((with_reducible refine gate_dst (N := 2) rfl ?_); refine zx (N := 2) (cs := #[.slice A0_0 l0_0.length c0_0]) (t := 25) ?_; intro gb420 hg w62 hbox hb; have BK420 := Aside0.mk (hbox); have GW420 := Aside0.mk ((by rw [hg]; exact (below_size (zB HB)) : w.heap.size ≤ gb420)); have GE420 := GW420; replace HB := Aside0.mk (below_step (zB HB) hb); clear hb hbox hg) | ((with_reducible refine gate_dst (N := 3) rfl ?_); refine zx (N := 3) (cs := #[.string a1_0, .int .i64 a1_1, .bool a1_2, .int .i64 a1_3]) (t := 33) ?_; intro gb421 hg w63 hbox hb; have BK421 := Aside0.mk (hbox); have GW421 := Aside0.mk ((by rw [hg]; exact (below_size (zB HB)) : w.heap.size ≤ gb421)); have GE421 := GW421; replace HB := Aside0.mk (below_step (zB HB) hb); have NB420_421 := Aside0.mk ((by rw [hg]; exact Nat.ne_of_lt (blk_lt (g := gb420) (o := .cells #[.slice A0_0 l0_0.length c0_0] 25 (0, 0)) (zb BK420)) : gb420 ≠ gb421)); have NB421_420 := Aside0.mk NB420_421.out.symm; replace BK420 := Aside0.mk (blk_below (g := gb420) (o := .cells #[.slice A0_0 l0_0.length c0_0] 25 (0, 0)) (zb BK420) hb); clear hb hbox hg) | ((with_reducible refine gate_dst (N := 4) rfl ?_); refine zx (N := 4) (cs := #[.slice none 0 0]) (t := 25) ?_; intro gb422 hg w64 hbox hb; have BK422 := Aside0.mk (hbox); have GW422 := Aside0.mk ((by rw [hg]; exact (below_size (zB HB)) : w.heap.size ≤ gb422)); have GE422 := GW422; replace HB := Aside0.mk (below_step (zB HB) hb); have NB420_422 := Aside0.mk ((by rw [hg]; exact Nat.ne_of_lt (blk_lt (g := gb420) (o := .cells #[.slice A0_0 l0_0.length c0_0] 25 (0, 0)) (zb BK420)) : gb420 ≠ gb422)); have NB422_420 := Aside0.mk NB420_422.out.symm; replace BK420 := Aside0.mk (blk_below (g := gb420) (o := .cells #[.slice A0_0 l0_0.length c0_0] 25 (0, 0)) (zb BK420) hb); have NB421_422 := Aside0.mk ((by rw [hg]; exact Nat.ne_of_lt (blk_lt (g := gb421) (o := .cells #[.string a1_0, .int .i64 a1_1, .bool a1_2, .int .i64 a1_3] 33 (0, 0)) (zb BK421)) : gb421 ≠ gb422)); have NB422_421 := Aside0.mk NB421_422.out.symm; replace BK421 := Aside0.mk (blk_below (g := gb421) (o := .cells #[.string a1_0, .int .i64 a1_1, .bool a1_2, .int .i64 a1_3] 33 (0, 0)) (zb BK421) hb); clear hb hbox hg; have hnb65 := NB420_421.out; have hnc65 := NB421_420.out; have hnb66 := NB420_422.out; have hnc66 := NB422_420.out; have hcz67_0 : w64.cell? ⟨gb420, 0, none⟩ = some (.slice A0_0 l0_0.length c0_0) := (blk_cell BK420.out 0).trans rfl; have hfz67_0 := blk_frozen BK420.out 0) | ((with_reducible refine gate_callee (f := 56) rfl ?_); refine goesL_ (some 8) rfl rfl Try.func56 (by kernel_rfl) rfl #[.agg #[.slice A0_0 l0_0.length c0_0]] rfl zl ?_; (with_reducible refine (spec_validSignature.calls k _ _ l0_0 false _ ?side1 ?side2 A3.out).mono ?_); (case side1 => repeat (first | exact (Kd.C_below HR0_0.out HB.out) | (with_reducible refine Kd.C_alloc ?_ _) | (with_reducible refine Kd.C_drewN ?_ _) | (with_reducible refine Kd.C_drew ?_))); (case side2 => exact HC0_0.out); rintro e w68 ⟨rfl, hb⟩; refine ⟨_, rfl, ?_⟩; replace BK420 := Aside0.mk (blk_below (g := gb420) (o := .cells #[.slice A0_0 l0_0.length c0_0] 25 (0, 0)) (zb BK420) hb); replace BK421 := Aside0.mk (blk_below (g := gb421) (o := .cells #[.string a1_0, .int .i64 a1_1, .bool a1_2, .int .i64 a1_3] 33 (0, 0)) (zb BK421) hb); replace BK422 := Aside0.mk (blk_below (g := gb422) (o := .cells #[.slice none 0 0] 25 (0, 0)) (zb BK422) hb); replace HB := Aside0.mk (below_step (zB HB) hb); (try clear hb); (try clear hb2); (try clear hk); (try clear hi); have hnb69 := NB422_421.out; have hnc69 := NB421_422.out; have hcz70_0 : w68.cell? ⟨gb422, 0, none⟩ = some (.slice none 0 0) := (blk_cell BK422.out 0).trans rfl; have hfz70_0 := blk_frozen BK422.out 0)); refine bodyPost_ret (results_ct rfl _ _ gb422 25 #[.slice none 0 0] (0, 0) _ rfl (by (with_reducible repeat (first | refine blk_drewN ?_ _ | refine blk_drew ?_ | refine blk_alloc ?_ _)); refine blk_put (cs := #[.slice none 0 0]) ?_ 0 _ rfl; (with_reducible repeat (first | refine blk_drewN ?_ _ | refine blk_drew ?_ | refine blk_alloc ?_ _)); exact BK422.out) Try.underlying25 rfl (by kernel_rfl)) rfl ?_; exact ⟨_, by first | rfl | (simp [errW_none, errW_some] <;> rfl) | (simp [*, errW_none, errW_some] <;> rfl), by first | exact Kd.R_nil _ _ _ _ _ | exact Kd.N_nil _ _ _ _ _ | exact Kd.V_nil _ _ _ _ _ | exact Kd.Q_nil _ _ _ _ _ | exact Kd.S_nil _ _ _ _ _, zB HB⟩

end Go.Proofs.Ytlpmggokgcphiaa.Q
