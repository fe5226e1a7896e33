-- written by px.py and merge.py (programs of this claim's), over the kit's print. Not trusted: Lean checks it.
import Derived.Test.YtlpmggokgcphiaaQ0
import Derived.Test.YtlpmggokgcphiaaM2FnNeededParams
import Derived.Test.YtlpmggokgcphiaaM1FnNeededParams
import Derived.Test.YtlpmggokgcphiaaM0FnNeededParams
namespace Go.Proofs.Ytlpmggokgcphiaa.Q
open Go.RowKit Go.Proofs.YtlpmggokgcphiaaL.PrintWords Go.Proofs.YtlpmggokgcphiaaL.PrintLast Go.Proofs.YtlpmggokgcphiaaL.PrintMore
attribute [local go_sem] max2_int min2_int max_two min_two max_three min_three max_four min_four   -- for this text's walks alone
set_option linter.unusedVariables false
set_option linter.unusedSimpArgs false

/-! ### spec_validSignature: function 56 -/
def spec_validSignature.f (k : Nat) (l0_0 : List (S33)) : Option (Bool) := (spec_validParams.f k l0_0).bind fun t305 => (some t305)
theorem spec_validSignature.mono : ∀ a0 k, LeO (spec_validSignature.f k a0) (spec_validSignature.f (k + 1) a0) := by
 intro a0 k; unfold spec_validSignature.f
 repeat' first
   | (with_reducible exact spec_validParams.mono _ _)
   | (with_reducible exact LeO.refl _)
   | (with_reducible exact LeO.none _)
   | (with_reducible refine LeO.ite ?_ ?_)
   | (with_reducible refine LeO.bind ?_ (fun _ => ?_))
   | exact spec_validParams.mono _ _
   | exact LeO.none _
   | refine LeO.ite ?_ ?_
   | refine LeO.bind ?_ (fun _ => ?_)
set_option maxHeartbeats 8000000 in
set_option maxRecDepth 100000 in
theorem spec_validSignature.calls (k : Nat) (A0_0 : Option Addr) (c0_0 : Nat) (l0_0 : List (S33)) (r : Bool) (w : World) (hr0_0 : Kd.C k33 w A0_0 l0_0.length l0_0) (hc0_0 : l0_0.length ≤ c0_0) (h : spec_validSignature.f k l0_0 = some r) :
  Calls Try.prog 56 #[.agg #[.slice A0_0 l0_0.length c0_0]] w fun e w' => e = .returned (.bool r) ∧ Below w.heap.size w w' := by
 have hu25 := Try.underlying25; have HR0_0 := Aside0.mk hr0_0; have HC0_0 := Aside0.mk hc0_0; clear hr0_0 hc0_0; have HB := Aside0.mk (Below.refl w.heap.size w); have H : ((spec_validParams.f k l0_0).bind fun t305 => (some t305)) = some r := h; clear h; replace H := Option.bind_eq_some_iff.mp H; obtain ⟨t305, A20, H⟩ := H
 (try dsimp only at H)
 have A2 := Aside0.mk A20; clear A20; obtain rfl := Option.some.inj H; go_enter Try.func56, Try.ntmps56; go_wp2_with (first | ((with_reducible refine gate_dst (N := 1) rfl ?_); refine zx (N := 1) (cs := #[.slice A0_0 l0_0.length c0_0]) (t := 25) ?_; intro gb304 hg w3 hbox hb; have BK304 := Aside0.mk (hbox); have GW304 := Aside0.mk ((by rw [hg]; exact (below_size (zB HB)) : w.heap.size ≤ gb304)); have GE304 := GW304; replace HB := Aside0.mk (below_step (zB HB) hb); clear hb hbox hg; have hcz4_0 : w3.cell? ⟨gb304, 0, none⟩ = some (.slice A0_0 l0_0.length c0_0) := (blk_cell BK304.out 0).trans rfl; have hfz4_0 := blk_frozen BK304.out 0) | ((with_reducible refine gate_callee (f := 102) rfl ?_); refine goesL_ (some 5) rfl rfl Try.func102 (by kernel_rfl) rfl #[.slice A0_0 l0_0.length c0_0] rfl zl ?_; (with_reducible refine (spec_validParams.calls k _ _ l0_0 t305 _ ?side1 ?side2 A2.out).mono ?_); (case side1 => repeat (first | exact (Kd.C_below HR0_0.out HB.out) | (with_reducible refine Kd.C_alloc ?_ _) | (with_reducible refine Kd.C_drewN ?_ _) | (with_reducible refine Kd.C_drew ?_))); (case side2 => exact HC0_0.out); rintro e w5 ⟨rfl, hb⟩; refine ⟨_, rfl, ?_⟩; replace BK304 := Aside0.mk (blk_below (g := gb304) (o := .cells #[.slice A0_0 l0_0.length c0_0] 25 (0, 0)) (zb BK304) hb); replace HB := Aside0.mk (below_step (zB HB) hb); (try clear hb); (try clear hb2); (try clear hk); (try clear hi))); go_ret; exact ⟨by first | rfl | (simp [errW_none, errW_some] <;> rfl) | (simp [*, errW_none, errW_some] <;> rfl), zB HB⟩

end Go.Proofs.Ytlpmggokgcphiaa.Q

namespace Go.Proofs.Ytlpmggokgcphiaa.Q
open Go.RowKit Go.Proofs.YtlpmggokgcphiaaL.PrintWords Go.Proofs.YtlpmggokgcphiaaL.PrintLast Go.Proofs.YtlpmggokgcphiaaL.PrintMore
attribute [local go_sem] max2_int min2_int max_two min_two max_three min_three max_four min_four   -- for this text's walks alone
set_option linter.unusedVariables false
set_option linter.unusedSimpArgs false

/-! ### spec_NeededParams: function 45 -/
def spec_NeededParams.l0 : Nat → List ByteArray → Int → List (S33) → Option (List ByteArray)
 | 0, _, _, _ => none
 | k + 1, x3, x4, x1095000 => if x4 < (x1095000.length : Int) then (if 0 ≤ x4 then ((spec_isSingle.f ((rd_T33 x1095000 x4).f0) ((rd_T33 x1095000 x4).f1) ((rd_T33 x1095000 x4).f2) ((rd_T33 x1095000 x4).f3)).bind fun t1100 => (if t1100 = true then (if ((rd_T33 x1095000 x4).f2 = true) then (spec_NeededParams.l0 k x3 (wrap64 (x4 + 1)) x1095000) else (if x3.length < 8796093022208 then (spec_NeededParams.l0 k (x3 ++ [(rd_T33 x1095000 x4).f0]) (wrap64 (x4 + 1)) x1095000) else (none))) else (spec_NeededParams.l0 k x3 (wrap64 (x4 + 1)) x1095000))) else (none)) else (some x3)
def spec_NeededParams.f (k : Nat) (l0_0 : List (S33)) : Option (List ByteArray) := (spec_validSignature.f k l0_0).bind fun t1095 => (if t1095 = true then (spec_NeededParams.l0 k (([] : List ByteArray)) 0 l0_0) else (some ([] : List ByteArray)))
theorem spec_NeededParams.mono_l : ∀ k, (∀ y0 y1 y2, LeO (spec_NeededParams.l0 k y0 y1 y2) (spec_NeededParams.l0 (k + 1) y0 y1 y2))
 | 0 => fun _ _ _ r h => by simp [spec_NeededParams.l0] at h
 | k + 1 => by
  have ih0 := spec_NeededParams.mono_l k
  ·intro y0 y1 y2; unfold spec_NeededParams.l0
   repeat' first
   | (with_reducible exact ih0 _ _ _)
   | (with_reducible exact spec_validSignature.mono _ _)
   | (with_reducible exact LeO.refl _)
   | (with_reducible exact LeO.none _)
   | (with_reducible refine LeO.ite ?_ ?_)
   | (with_reducible refine LeO.bind ?_ (fun _ => ?_))
   | exact ih0 _ _ _
   | exact spec_validSignature.mono _ _
   | exact LeO.none _
   | refine LeO.ite ?_ ?_
   | refine LeO.bind ?_ (fun _ => ?_)
theorem spec_NeededParams.mono : ∀ a0 k, LeO (spec_NeededParams.f k a0) (spec_NeededParams.f (k + 1) a0) := by
 intro a0 k; have ih0 := spec_NeededParams.mono_l k; unfold spec_NeededParams.f
 repeat' first
   | (with_reducible exact ih0 _ _ _)
   | (with_reducible exact spec_validSignature.mono _ _)
   | (with_reducible exact LeO.refl _)
   | (with_reducible exact LeO.none _)
   | (with_reducible refine LeO.ite ?_ ?_)
   | (with_reducible refine LeO.bind ?_ (fun _ => ?_))
   | exact ih0 _ _ _
   | exact spec_validSignature.mono _ _
   | exact LeO.none _
   | refine LeO.ite ?_ ?_
   | refine LeO.bind ?_ (fun _ => ?_)
set_option maxHeartbeats 8000000 in
set_option maxRecDepth 100000 in
theorem spec_NeededParams.calls (k : Nat) (A0_0 : Option Addr) (c0_0 : Nat) (l0_0 : List (S33)) (r : List ByteArray) (w : World) (hr0_0 : Kd.C k33 w A0_0 l0_0.length l0_0) (hc0_0 : l0_0.length ≤ c0_0) (h : spec_NeededParams.f k l0_0 = some r) :
  Calls Try.prog 45 #[.agg #[.slice A0_0 l0_0.length c0_0]] w fun e w' => ∃ v0_ : Value, e = .returned (v0_) ∧ Kd.R Kd.string 9 w' w.heap.size (fun _ => True) v0_ r ∧ Below w.heap.size w w' := by
 have hu25 := Try.underlying25; have hu33 := Try.underlying33; have HR0_0 := Aside0.mk hr0_0; have HC0_0 := Aside0.mk hc0_0; clear hr0_0 hc0_0; have HB := Aside0.mk (Below.refl w.heap.size w); have H : ((spec_validSignature.f k l0_0).bind fun t1095 => (if t1095 = true then (spec_NeededParams.l0 k (([] : List ByteArray)) 0 l0_0) else (some ([] : List ByteArray)))) = some r := h; clear h; replace H := Option.bind_eq_some_iff.mp H; obtain ⟨t1095, A20, H⟩ := H
 (try dsimp only at H)
 have A2 := Aside0.mk A20; clear A20
 by_cases c3 : t1095 = true
 ·subst c3; rw [if_pos rfl] at H; obtain ⟨y1096, hy1096⟩ : ∃ y_ : List ByteArray, y_ = (([] : List ByteArray)) := ⟨_, rfl⟩
  replace H : (spec_NeededParams.l0 k y1096 0 l0_0) = some r := by first | (rw [hy1096]; with_reducible exact H) | (have H2_ := (Option.bind_some _ _).symm.trans H; rw [hy1096]; with_reducible exact H2_) | (have H2_ := (Option.bind_some _ _).symm.trans H; with_reducible exact H2_) | with_reducible exact H | (rw [hy1096]; exact H) | exact H
  have Ny1096 := Aside0.mk hy1096; clear hy1096; have H' := Aside0.mk H; clear H; go_enter Try.func45, Try.ntmps45; go_wp2_with (first | ((with_reducible refine gate_dst (N := 1) rfl ?_); refine zx (N := 1) (cs := #[.slice A0_0 l0_0.length c0_0]) (t := 25) ?_; intro gb1094 hg w4 hbox hb; have BK1094 := Aside0.mk (hbox); have GW1094 := Aside0.mk ((by rw [hg]; exact (below_size (zB HB)) : w.heap.size ≤ gb1094)); have GE1094 := GW1094; replace HB := Aside0.mk (below_step (zB HB) hb); clear hb hbox hg; have hcz5_0 : w4.cell? ⟨gb1094, 0, none⟩ = some (.slice A0_0 l0_0.length c0_0) := (blk_cell BK1094.out 0).trans rfl; have hfz5_0 := blk_frozen BK1094.out 0) | ((with_reducible refine gate_callee (f := 56) rfl ?_); refine goesL_ (some 6) rfl rfl Try.func56 (by kernel_rfl) rfl #[.agg #[.slice A0_0 l0_0.length c0_0]] rfl zl ?_; (with_reducible refine (spec_validSignature.calls k _ _ l0_0 true _ ?side1 ?side2 A2.out).mono ?_); (case side1 => repeat (first | exact (Kd.C_below HR0_0.out HB.out) | (with_reducible refine Kd.C_alloc ?_ _) | (with_reducible refine Kd.C_drewN ?_ _) | (with_reducible refine Kd.C_drew ?_))); (case side2 => exact HC0_0.out); rintro e w6 ⟨rfl, hb⟩; refine ⟨_, rfl, ?_⟩; replace BK1094 := Aside0.mk (blk_below (g := gb1094) (o := .cells #[.slice A0_0 l0_0.length c0_0] 25 (0, 0)) (zb BK1094) hb); replace HB := Aside0.mk (below_step (zB HB) hb); (try clear hb); (try clear hb2); (try clear hk); (try clear hi)) | ((with_reducible refine gate_dst (N := 8) rfl ?_); refine Kd.R_lit Kd.string _ 9 ?hg (N := 8) ?hd (xs := ([] : List ByteArray)) (inner := []) (ok := fun _ => True) (okp := fun _ => True) ?hr ?hp (fun _ hk => hk) trivial (Below.refl _ _) (Nat.le_refl _) (by simp) ?_; (case hd => rfl); (case hg => rfl); (case hr => first | (go_simp; done) | (go_simp; rfl)); (case hp => exact (Reps.none _ _)); intro v1097 w7 ho8 hb hg_ hnew_; clear hg_ hnew_; (first | rw [← Ny1096.out] at ho8 | (simp only [Int.reduceToNat] at ho8; rw [← Ny1096.out] at ho8)); have HO1098 := Aside0.mk (Kd.R_lower ho8 (below_size (zB HB))); replace BK1094 := Aside0.mk (blk_below (g := gb1094) (o := .cells #[.slice A0_0 l0_0.length c0_0] 25 (0, 0)) (zb BK1094) hb); replace HB := Aside0.mk (below_step (zB HB) hb); clear hb ho8)); go_loopg [3, 4] k (fun kq v3 v4 w' => ∃ (x3_1 : List ByteArray) (x4_1 : Int), v4 = .int .i64 x4_1 ∧ Aside0 (spec_NeededParams.l0 kq x3_1 x4_1 l0_0 = some r) ∧ Aside0 (kq ≤ k) ∧ Aside0 (Kd.R Kd.string 9 w' w.heap.size (fun _ => True) v3 x3_1) ∧ Aside0 (w'.heap[gb1094]? = some (.cells #[(.slice A0_0 l0_0.length c0_0)] 25 (0, 0))) ∧ Aside0 (Below w.heap.size w w'))
  case atStart => exact ⟨(y1096), (0), zr, H', ⟨Nat.le_refl _⟩, ⟨zo HO1098⟩, ⟨zb BK1094⟩, ⟨zB HB⟩⟩
  case round =>
   clear H'; (try clear p2); (try clear c3); (try clear c4); (try clear c5); (try clear hcz5_0); (try clear hfz5_0); obtain ⟨x3_1, x4_1, rfl, HA, HK1, HO_3, BK1094, HB⟩ := hrel
   cases gk with
   | zero => exact absurd HA.out (by simp [spec_NeededParams.l0])
   | succ k1 =>
    have H := HA.out; clear HA; simp only [spec_NeededParams.l0] at H
    by_cases c9 : x4_1 < (l0_0.length : Int)
    ·rw [if_pos c9] at H; have c9b0 : decide (x4_1 < (l0_0.length : Int)) = true := decide_eq_true c9; clear c9
     by_cases c10 : 0 ≤ x4_1
     ·rw [if_pos c10] at H; have c10b0 : decide (0 ≤ x4_1) = true := decide_eq_true c10; clear c10; replace H := Option.bind_eq_some_iff.mp H; obtain ⟨t1100, A110, H⟩ := H
      (try dsimp only at H)
      have A11 := Aside0.mk A110; clear A110
      by_cases c12 : t1100 = true
      ·subst c12; rw [if_pos rfl] at H; obtain ⟨bq13, hbq13⟩ : ∃ b_ : Bool, b_ = ((rd_T33 l0_0 x4_1).f2) := ⟨_, rfl⟩
       replace H : (if (bq13 = true) then (spec_NeededParams.l0 k1 x3_1 (wrap64 (x4_1 + 1)) l0_0) else (if x3_1.length < 8796093022208 then (spec_NeededParams.l0 k1 (x3_1 ++ [(rd_T33 l0_0 x4_1).f0]) (wrap64 (x4_1 + 1)) l0_0) else (none))) = some r := by rw [← hbq13] at H; exact H
       (try rw [← hbq13] at BK1094)
       (try rw [← hbq13] at A2)
       (try rw [← hbq13] at A11)
       have Nbq13 := Aside0.mk hbq13; clear hbq13
       by_cases c14 : (bq13 = true)
       ·subst c14; rw [if_pos rfl] at H; have H' := Aside0.mk H; clear H; have hcz15_0 : wr.cell? ⟨gb1094, 0, none⟩ = some (.slice A0_0 l0_0.length c0_0) := (blk_cell BK1094.out 0).trans rfl; have hfz15_0 := blk_frozen BK1094.out 0; have p1099 : 0 ≤ (x4_1 : Int) := of_decide_eq_true za; have q1099 : x4_1 < (l0_0.length : Int) := of_decide_eq_true za; obtain ⟨ad1099, e1099, hx1099_0, hx1099_1, hx1099_2, hx1099_3⟩ := at_T33 HR0_0.out x4_1 p1099 q1099
        (try rw [← Nbq13.out] at hx1099_2)
        cases e1099
        replace hx1099_0 := (HB.out.cell (World.block_lt_of_cell? w _ hx1099_0)).trans hx1099_0; replace hx1099_1 := (HB.out.cell (World.block_lt_of_cell? w _ hx1099_1)).trans hx1099_1; replace hx1099_2 := (HB.out.cell (World.block_lt_of_cell? w _ hx1099_2)).trans hx1099_2; replace hx1099_3 := (HB.out.cell (World.block_lt_of_cell? w _ hx1099_3)).trans hx1099_3; replace p1099 := eq_true p1099; replace q1099 := eq_true q1099; go_wp2_with (first | ((with_reducible refine gate_callee (f := 91) rfl ?_); refine goesL_ (some 21) rfl rfl Try.func91 (by kernel_rfl) rfl #[.agg #[.string ((rd_T33 l0_0 x4_1).f0), .int .i64 ((rd_T33 l0_0 x4_1).f1), .bool true, .int .i64 ((rd_T33 l0_0 x4_1).f3)]] rfl zl ?_; (with_reducible refine (spec_isSingle.calls ((rd_T33 l0_0 x4_1).f0) ((rd_T33 l0_0 x4_1).f1) true ((rd_T33 l0_0 x4_1).f3) true _ A11.out).mono ?_); rintro e w16 ⟨rfl, hb⟩; refine ⟨_, rfl, ?_⟩; replace HO_3 := Aside0.mk (Kd.R_below (zo HO_3) hb); replace BK1094 := Aside0.mk (blk_below (g := gb1094) (o := .cells #[.slice (some ad1099) l0_0.length c0_0] 25 (0, 0)) (zb BK1094) hb); replace HB := Aside0.mk (below_step (zB HB) hb); (try clear hb); (try clear hb2); (try clear hk); (try clear hi); have hcz17_0 : w16.cell? ⟨gb1094, 0, none⟩ = some (.slice (some ad1099) l0_0.length c0_0) := (blk_cell BK1094.out 0).trans rfl; have hfz17_0 := blk_frozen BK1094.out 0; have p1101 : 0 ≤ (x4_1 : Int) := of_decide_eq_true za; have q1101 : x4_1 < (l0_0.length : Int) := of_decide_eq_true za; obtain ⟨ad1101, e1101, hx1101_0, hx1101_1, hx1101_2, hx1101_3⟩ := at_T33 HR0_0.out x4_1 p1101 q1101; (try rw [← Nbq13.out] at hx1101_2); obtain rfl : ad1099 = ad1101 := (by injection e1101); replace hx1101_0 := (HB.out.cell (World.block_lt_of_cell? w _ hx1101_0)).trans hx1101_0; replace hx1101_1 := (HB.out.cell (World.block_lt_of_cell? w _ hx1101_1)).trans hx1101_1; replace hx1101_2 := (HB.out.cell (World.block_lt_of_cell? w _ hx1101_2)).trans hx1101_2; replace hx1101_3 := (HB.out.cell (World.block_lt_of_cell? w _ hx1101_3)).trans hx1101_3; replace p1101 := eq_true p1101; replace q1101 := eq_true q1101)); go_roundg k1
        case measure => have := HK1.out; omega
        case rel => (try rw [← Nbq13.out]); exact ⟨(x3_1), (wrap64 (x4_1 + 1)), zr, H', ⟨by have := HK1.out; omega⟩, ⟨zo HO_3⟩, ⟨zb BK1094⟩, ⟨zB HB⟩⟩
       ·replace c14 := Bool.eq_false_iff.mpr c14; subst c14; rw [if_neg (show ¬ (false = true) by decide)] at H
        by_cases c18 : x3_1.length < 8796093022208
        ·rw [if_pos c18] at H; have LMc18 := Aside0.mk c18; clear c18; obtain ⟨y1103, hy1103⟩ : ∃ y_ : List ByteArray, y_ = (x3_1 ++ [(rd_T33 l0_0 x4_1).f0]) := ⟨_, rfl⟩
         replace H : (spec_NeededParams.l0 k1 y1103 (wrap64 (x4_1 + 1)) l0_0) = some r := by first | (rw [hy1103]; with_reducible exact H) | (have H2_ := (Option.bind_some _ _).symm.trans H; rw [hy1103]; with_reducible exact H2_) | (have H2_ := (Option.bind_some _ _).symm.trans H; with_reducible exact H2_) | with_reducible exact H | (rw [hy1103]; exact H) | exact H
         have Ny1103 := Aside0.mk hy1103; clear hy1103; have H' := Aside0.mk H; clear H; have hcz19_0 : wr.cell? ⟨gb1094, 0, none⟩ = some (.slice A0_0 l0_0.length c0_0) := (blk_cell BK1094.out 0).trans rfl; have hfz19_0 := blk_frozen BK1094.out 0; have p1099 : 0 ≤ (x4_1 : Int) := of_decide_eq_true za; have q1099 : x4_1 < (l0_0.length : Int) := of_decide_eq_true za; obtain ⟨ad1099, e1099, hx1099_0, hx1099_1, hx1099_2, hx1099_3⟩ := at_T33 HR0_0.out x4_1 p1099 q1099
         (try rw [← Nbq13.out] at hx1099_2)
         cases e1099
         replace hx1099_0 := (HB.out.cell (World.block_lt_of_cell? w _ hx1099_0)).trans hx1099_0; replace hx1099_1 := (HB.out.cell (World.block_lt_of_cell? w _ hx1099_1)).trans hx1099_1; replace hx1099_2 := (HB.out.cell (World.block_lt_of_cell? w _ hx1099_2)).trans hx1099_2; replace hx1099_3 := (HB.out.cell (World.block_lt_of_cell? w _ hx1099_3)).trans hx1099_3; replace p1099 := eq_true p1099; replace q1099 := eq_true q1099; go_wp2_with (first | ((with_reducible refine gate_callee (f := 91) rfl ?_); refine goesL_ (some 21) rfl rfl Try.func91 (by kernel_rfl) rfl #[.agg #[.string ((rd_T33 l0_0 x4_1).f0), .int .i64 ((rd_T33 l0_0 x4_1).f1), .bool false, .int .i64 ((rd_T33 l0_0 x4_1).f3)]] rfl zl ?_; (with_reducible refine (spec_isSingle.calls ((rd_T33 l0_0 x4_1).f0) ((rd_T33 l0_0 x4_1).f1) false ((rd_T33 l0_0 x4_1).f3) true _ A11.out).mono ?_); rintro e w20 ⟨rfl, hb⟩; refine ⟨_, rfl, ?_⟩; replace HO_3 := Aside0.mk (Kd.R_below (zo HO_3) hb); replace BK1094 := Aside0.mk (blk_below (g := gb1094) (o := .cells #[.slice (some ad1099) l0_0.length c0_0] 25 (0, 0)) (zb BK1094) hb); replace HB := Aside0.mk (below_step (zB HB) hb); (try clear hb); (try clear hb2); (try clear hk); (try clear hi); have hcz21_0 : w20.cell? ⟨gb1094, 0, none⟩ = some (.slice (some ad1099) l0_0.length c0_0) := (blk_cell BK1094.out 0).trans rfl; have hfz21_0 := blk_frozen BK1094.out 0; have p1101 : 0 ≤ (x4_1 : Int) := of_decide_eq_true za; have q1101 : x4_1 < (l0_0.length : Int) := of_decide_eq_true za; obtain ⟨ad1101, e1101, hx1101_0, hx1101_1, hx1101_2, hx1101_3⟩ := at_T33 HR0_0.out x4_1 p1101 q1101; (try rw [← Nbq13.out] at hx1101_2); obtain rfl : ad1099 = ad1101 := (by injection e1101); replace hx1101_0 := (HB.out.cell (World.block_lt_of_cell? w _ hx1101_0)).trans hx1101_0; replace hx1101_1 := (HB.out.cell (World.block_lt_of_cell? w _ hx1101_1)).trans hx1101_1; replace hx1101_2 := (HB.out.cell (World.block_lt_of_cell? w _ hx1101_2)).trans hx1101_2; replace hx1101_3 := (HB.out.cell (World.block_lt_of_cell? w _ hx1101_3)).trans hx1101_3; replace p1101 := eq_true p1101; replace q1101 := eq_true q1101; have p1102 : 0 ≤ (x4_1 : Int) := of_decide_eq_true za; have q1102 : x4_1 < (l0_0.length : Int) := of_decide_eq_true za; obtain ⟨ad1102, e1102, hx1102_0, hx1102_1, hx1102_2, hx1102_3⟩ := at_T33 HR0_0.out x4_1 p1102 q1102; (try rw [← Nbq13.out] at hx1102_2); obtain rfl : ad1099 = ad1102 := (by injection e1102); replace hx1102_0 := (HB.out.cell (World.block_lt_of_cell? w _ hx1102_0)).trans hx1102_0; replace hx1102_1 := (HB.out.cell (World.block_lt_of_cell? w _ hx1102_1)).trans hx1102_1; replace hx1102_2 := (HB.out.cell (World.block_lt_of_cell? w _ hx1102_2)).trans hx1102_2; replace hx1102_3 := (HB.out.cell (World.block_lt_of_cell? w _ hx1102_3)).trans hx1102_3; replace p1102 := eq_true p1102; replace q1102 := eq_true q1102) | ((with_reducible refine gate_builtin (b := .append) (xs := #[.tmp 31, .tmp 38]) rfl ?_); at_builtin; refine Kd.R_append Kd.string (w0 := w) w.heap.size rfl (.tmp 31) (.tmp 38) 50 9 (.string ⟨#[]⟩) 16 rfl Try.underlying50 info9 rfl (by decide) (by omega) u3 x3_1 ((rd_T33 l0_0 x4_1).f0) [.string ((rd_T33 l0_0 x4_1).f0)] (fun _ => True) (fun _ => False) rfl rfl ?aP (fun _ hk => hk.elim) ?aF ?aO ?aB ?aS ?aL ?_; (case aP => exact rfl); (case aB => exact (zB HB)); (case aF => exact (fun _ _ => trivial)); (case aO => exact (zo HO_3)); (case aS => exact (below_size (zB HB))); (case aL => have := LMc18.out; omega); intro v1104 w22 ho hb hg hat; rw [← Ny1103.out] at ho; have n0_ := Aside0.mk (blk_grown (g := gb1094) (o := .cells #[.slice (some ad1099) l0_0.length c0_0] 25 (0, 0)) (zb BK1094) hg (Kd.R_ne HO_3.out BK1094.out (by decide))); have n1_ := Aside0.mk (hb); have n2_ := Aside0.mk (ho); clear BK1094; clear HB; clear HO_3; have BK1094 := n0_; have HB := n1_; have HO1105 := n2_; clear n0_ n1_ n2_; clear ho hb hg hat)); go_roundg k1
         case measure => have := HK1.out; omega
         case rel => (try rw [← Nbq13.out]); exact ⟨(y1103), (wrap64 (x4_1 + 1)), zr, H', ⟨by have := HK1.out; omega⟩, ⟨zo HO1105⟩, ⟨zb BK1094⟩, ⟨zB HB⟩⟩
        ·rw [if_neg c18] at H; exact absurd H (by simp)
      ·replace c12 := Bool.eq_false_iff.mpr c12; subst c12; rw [if_neg (show ¬ (false = true) by decide)] at H; have H' := Aside0.mk H; clear H; have hcz23_0 : wr.cell? ⟨gb1094, 0, none⟩ = some (.slice A0_0 l0_0.length c0_0) := (blk_cell BK1094.out 0).trans rfl; have hfz23_0 := blk_frozen BK1094.out 0; have p1099 : 0 ≤ (x4_1 : Int) := of_decide_eq_true za; have q1099 : x4_1 < (l0_0.length : Int) := of_decide_eq_true za; obtain ⟨ad1099, e1099, hx1099_0, hx1099_1, hx1099_2, hx1099_3⟩ := at_T33 HR0_0.out x4_1 p1099 q1099
       cases e1099
       replace hx1099_0 := (HB.out.cell (World.block_lt_of_cell? w _ hx1099_0)).trans hx1099_0; replace hx1099_1 := (HB.out.cell (World.block_lt_of_cell? w _ hx1099_1)).trans hx1099_1; replace hx1099_2 := (HB.out.cell (World.block_lt_of_cell? w _ hx1099_2)).trans hx1099_2; replace hx1099_3 := (HB.out.cell (World.block_lt_of_cell? w _ hx1099_3)).trans hx1099_3; replace p1099 := eq_true p1099; replace q1099 := eq_true q1099; go_wp2_with (first | ((with_reducible refine gate_callee (f := 91) rfl ?_); refine goesL_ (some 21) rfl rfl Try.func91 (by kernel_rfl) rfl #[.agg #[.string ((rd_T33 l0_0 x4_1).f0), .int .i64 ((rd_T33 l0_0 x4_1).f1), .bool ((rd_T33 l0_0 x4_1).f2), .int .i64 ((rd_T33 l0_0 x4_1).f3)]] rfl zl ?_; (with_reducible refine (spec_isSingle.calls ((rd_T33 l0_0 x4_1).f0) ((rd_T33 l0_0 x4_1).f1) ((rd_T33 l0_0 x4_1).f2) ((rd_T33 l0_0 x4_1).f3) false _ A11.out).mono ?_); rintro e w24 ⟨rfl, hb⟩; refine ⟨_, rfl, ?_⟩; replace HO_3 := Aside0.mk (Kd.R_below (zo HO_3) hb); replace BK1094 := Aside0.mk (blk_below (g := gb1094) (o := .cells #[.slice (some ad1099) l0_0.length c0_0] 25 (0, 0)) (zb BK1094) hb); replace HB := Aside0.mk (below_step (zB HB) hb); (try clear hb); (try clear hb2); (try clear hk); (try clear hi))); go_roundg k1
       case measure => have := HK1.out; omega
       case rel => exact ⟨(x3_1), (wrap64 (x4_1 + 1)), zr, H', ⟨by have := HK1.out; omega⟩, ⟨zo HO_3⟩, ⟨zb BK1094⟩, ⟨zB HB⟩⟩
     ·rw [if_neg c10] at H; exact absurd H (by simp)
    ·rw [if_neg c9] at H; have c9b0 : decide (x4_1 < (l0_0.length : Int)) = false := decide_eq_false c9; clear c9; obtain rfl := Option.some.inj H; have hcz25_0 : wr.cell? ⟨gb1094, 0, none⟩ = some (.slice A0_0 l0_0.length c0_0) := (blk_cell BK1094.out 0).trans rfl; have hfz25_0 := blk_frozen BK1094.out 0; go_wp2; go_ret; exact ⟨_, by first | rfl | (simp [errW_none, errW_some] <;> rfl) | (simp [*, errW_none, errW_some] <;> rfl), by (with_reducible repeat (first | apply Kd.R_alloc | apply Kd.R_drewN | apply Kd.R_drew)); exact HO_3.out, zB HB⟩
 ·replace c3 := Bool.eq_false_iff.mpr c3; subst c3; rw [if_neg (show ¬ (false = true) by decide)] at H; obtain rfl := Option.some.inj H; go_enter Try.func45, Try.ntmps45; go_wp2_with (first | ((with_reducible refine gate_dst (N := 1) rfl ?_); refine zx (N := 1) (cs := #[.slice A0_0 l0_0.length c0_0]) (t := 25) ?_; intro gb1094 hg w26 hbox hb; have BK1094 := Aside0.mk (hbox); have GW1094 := Aside0.mk ((by rw [hg]; exact (below_size (zB HB)) : w.heap.size ≤ gb1094)); have GE1094 := GW1094; replace HB := Aside0.mk (below_step (zB HB) hb); clear hb hbox hg; have hcz27_0 : w26.cell? ⟨gb1094, 0, none⟩ = some (.slice A0_0 l0_0.length c0_0) := (blk_cell BK1094.out 0).trans rfl; have hfz27_0 := blk_frozen BK1094.out 0) | ((with_reducible refine gate_callee (f := 56) rfl ?_); refine goesL_ (some 6) rfl rfl Try.func56 (by kernel_rfl) rfl #[.agg #[.slice A0_0 l0_0.length c0_0]] rfl zl ?_; (with_reducible refine (spec_validSignature.calls k _ _ l0_0 false _ ?side1 ?side2 A2.out).mono ?_); (case side1 => repeat (first | exact (Kd.C_below HR0_0.out HB.out) | (with_reducible refine Kd.C_alloc ?_ _) | (with_reducible refine Kd.C_drewN ?_ _) | (with_reducible refine Kd.C_drew ?_))); (case side2 => exact HC0_0.out); rintro e w28 ⟨rfl, hb⟩; refine ⟨_, rfl, ?_⟩; replace BK1094 := Aside0.mk (blk_below (g := gb1094) (o := .cells #[.slice A0_0 l0_0.length c0_0] 25 (0, 0)) (zb BK1094) hb); replace HB := Aside0.mk (below_step (zB HB) hb); (try clear hb); (try clear hb2); (try clear hk); (try clear hi))); go_ret; exact ⟨_, by first | rfl | (simp [errW_none, errW_some] <;> rfl) | (simp [*, errW_none, errW_some] <;> rfl), by first | exact Kd.R_nil _ _ _ _ _ | exact Kd.N_nil _ _ _ _ _ | exact Kd.V_nil _ _ _ _ _ | exact Kd.Q_nil _ _ _ _ _ | exact Kd.S_nil _ _ _ _ _, zB HB⟩

end Go.Proofs.Ytlpmggokgcphiaa.Q

namespace Go.Proofs.Ytlpmggokgcphiaa.Q
open Go.RowKit Go.Proofs.YtlpmggokgcphiaaL.PrintWords Go.Proofs.YtlpmggokgcphiaaL.PrintLast Go.Proofs.YtlpmggokgcphiaaL.PrintMore
attribute [local go_sem] max2_int min2_int max_two min_two max_three min_three max_four min_four   -- for this text's walks alone
set_option linter.unusedVariables false
set_option linter.unusedSimpArgs false

/-! ### slices.IndexFunc at impl.Pair: function 132 -/
set_option maxHeartbeats 8000000 in
set_option maxRecDepth 100000 in
theorem ix132.calls (p : S130 → Bool) (g : Nat) (lb : Array Value) (eg : ∀ args w, (callFunc g args).run Try.prog w = .ok (.enter g args) w) (A0 : Option Addr) (c0 : Nat) (l0 : List (S130)) (w : World)
  (hp : PxPred Try.prog g lb (fun x : S130 => .agg #[.string x.f0, .int .i64 x.f1]) p w) (hr0 : Kd.C k130 w A0 l0.length l0) :
  Calls Try.prog 132 #[.slice A0 l0.length c0, .func (.func g) #[] lb] w fun e w' => e = .returned (.int .i64 (pxIdx p l0)) ∧ Below w.heap.size w w' := by
 have HR := Aside0.mk hr0; clear hr0; have hbig : l0.length ≤ 9223372036854775807 := HR.out.2.1; have hu130 := Try.underlying130; go_enter Try.func132, Try.ntmps132; go_wp2; go_loopg [5, 8] l0.length (fun gg _ s8 wr => ∃ kk : Nat, kk ≤ l0.length ∧ l0.length - kk ≤ gg ∧ s8 = .int .i64 kk ∧ Aside0 (Below w.heap.size w wr) ∧ Aside0 (∀ j, j < kk → p (l0.getD j z130) = false))
 case atStart => exact ⟨0, Nat.zero_le _, by omega, rfl, ⟨Below.refl _ w⟩, ⟨fun j hj => absurd hj (Nat.not_lt_zero _)⟩⟩
 case round =>
  obtain ⟨kk, hkk, hg, rfl, BW, A⟩ := hrel
  by_cases hlt : kk < l0.length
  ·have hltz : (kk : Int) < (l0.length : Int) := by omega
   have hz0 : (0 : Int) ≤ (kk : Int) := by omega
   obtain ⟨ad, e, hx0, hx1⟩ := at_T130 (Kd.C_below HR.out BW.out) (kk : Int) hz0 hltz; simp only [Int.toNat_natCast] at hx0 hx1
   cases e
   have hcall := hp wr (rd_T130 l0 (kk : Int)) BW.out; clear hp; have B := Aside0.mk (show rd_T130 l0 (kk : Int) = l0.getD kk z130 from rfl); generalize hy : rd_T130 l0 (kk : Int) = y at hx0 hx1 hcall B; clear hy
   cases hq : p y with
   | true =>
    rw [hq] at hcall; go_wp2_with fail; refine hcall.mono ?_; rintro e w' ⟨rfl, hb'⟩; clear hcall; go_wp2; go_ret; refine ⟨?_, below_then BW.out BW.out.size hb'⟩; rw [pxIdx_hit p l0 z130 kk hlt (by rw [← B.out]; exact hq) A.out]; rfl
   | false =>
    rw [hq] at hcall; go_wp2_with fail; refine hcall.mono ?_; rintro e w' ⟨rfl, hb'⟩; clear hcall; go_wp2; go_roundg (l0.length - (kk + 1))
    case measure => omega
    case rel =>
     refine ⟨kk + 1, by omega, by omega, by go_num, ⟨below_then BW.out BW.out.size hb'⟩, ⟨fun j hj => ?_⟩⟩
     by_cases e : j = kk
     ·subst e; rw [← B.out]; exact hq
     ·exact A.out j (by omega)
  ·have hltz : ¬ (kk : Int) < (l0.length : Int) := by omega
   have : kk = l0.length := by omega
   subst this; go_wp2; go_ret; refine ⟨?_, BW.out⟩; rw [pxIdx_miss p l0 z130 A.out]; rfl
set_option maxHeartbeats 8000000 in
set_option maxRecDepth 100000 in
theorem impl_pairAt.pred133 (a1 : ByteArray) (B : Nat) (w : World) (hc : w.cell? ⟨B, 0, none⟩ = some (.string a1)) :
  PxPred Try.prog 133 #[.pointer (some ⟨B, 0, none⟩)] (fun x : S130 => .agg #[.string x.f0, .int .i64 x.f1]) (fun x : S130 => x.f0.toList == a1.toList) w := by
 intro W x hb; have hc' := px_cell hb hc; have hB' : B < W.heap.size := World.block_lt_of_cell? W _ hc'; clear hc
 show Calls Try.prog 133 #[.agg #[.string x.f0, .int .i64 x.f1], .pointer (some ⟨B, 0, none⟩)] W _
 have hu130 := Try.underlying130; go_enter Try.func133, Try.ntmps133; go_wp2; go_ret; exact ⟨rfl, px_alloc _ _⟩
/-! ### impl_pairAt: function 123 (a contract of our own) -/
def impl_pairAt.f (l0 : List (S130)) (a1 : ByteArray) : Option (Int) := some (pxIdx (fun x : S130 => x.f0.toList == a1.toList) l0)
set_option maxHeartbeats 8000000 in
set_option maxRecDepth 100000 in
theorem impl_pairAt.calls (A0 : Option Addr) (c0 : Nat) (l0 : List (S130)) (a1 : ByteArray) (r : Int) (w : World) (hr0 : Kd.C k130 w A0 l0.length l0) (hc0 : l0.length ≤ c0) (h : impl_pairAt.f l0 a1 = some r) :
  Calls Try.prog 123 #[.slice A0 l0.length c0, .string a1] w fun e w' => e = .returned (.int .i64 r) ∧ Below w.heap.size w w' := by
 have HR := Aside0.mk hr0; clear hr0; obtain rfl := Option.some.inj h; clear h; have eg := px_enters Try.func133 (by kernel_rfl) rfl; go_enter Try.func123, Try.ntmps123; go_wp2_with fail; refine (ix132.calls (fun x : S130 => x.f0.toList == a1.toList) 133 _ eg A0 c0 l0 _ (impl_pairAt.pred133 a1 w.heap.size _ ?_) ?_).mono ?_
 ·go_simp
 ·exact Kd.C_below HR.out (px_alloc _ _)
 rintro e w' ⟨rfl, hb'⟩; go_wp2; go_ret; exact ⟨rfl, below_then (px_alloc _ _) (by simp) hb'⟩

/-! ### impl_Pair_valid: function 124 -/
def impl_Pair_valid.f (k : Nat) (a0_0 : ByteArray) (a0_1 : Int) : Option (Bool) := (impl_isName.f k a0_0).bind fun t1107 => (if t1107 = true then ((impl_isValue.f a0_1).bind fun t1108 => (some t1108)) else (some false))
theorem impl_Pair_valid.mono : ∀ a0 a1 k, LeO (impl_Pair_valid.f k a0 a1) (impl_Pair_valid.f (k + 1) a0 a1) := by
 intro a0 a1 k; unfold impl_Pair_valid.f
 repeat' first
   | (with_reducible exact impl_isName.mono _ _)
   | (with_reducible exact LeO.refl _)
   | (with_reducible exact LeO.none _)
   | (with_reducible refine LeO.ite ?_ ?_)
   | (with_reducible refine LeO.bind ?_ (fun _ => ?_))
   | exact impl_isName.mono _ _
   | exact LeO.none _
   | refine LeO.ite ?_ ?_
   | refine LeO.bind ?_ (fun _ => ?_)
set_option maxHeartbeats 8000000 in
set_option maxRecDepth 100000 in
theorem impl_Pair_valid.calls (k : Nat) (a0_0 : ByteArray) (a0_1 : Int) (r : Bool) (w : World) (h : impl_Pair_valid.f k a0_0 a0_1 = some r) :
  Calls Try.prog 124 #[.agg #[.string a0_0, .int .i64 a0_1]] w fun e w' => e = .returned (.bool r) ∧ Below w.heap.size w w' := by
 have hu130 := Try.underlying130; have HB := Aside0.mk (Below.refl w.heap.size w); have H : ((impl_isName.f k a0_0).bind fun t1107 => (if t1107 = true then ((impl_isValue.f a0_1).bind fun t1108 => (some t1108)) else (some false))) = some r := h; clear h; replace H := Option.bind_eq_some_iff.mp H; obtain ⟨t1107, A20, H⟩ := H
 (try dsimp only at H)
 have A2 := Aside0.mk A20; clear A20
 by_cases c3 : t1107 = true
 ·subst c3; rw [if_pos rfl] at H; replace H := Option.bind_eq_some_iff.mp H; obtain ⟨t1108, A40, H⟩ := H
  (try dsimp only at H)
  have A4 := Aside0.mk A40; clear A40; obtain rfl := Option.some.inj H; go_enter Try.func124, Try.ntmps124; go_wp2_with (first | ((with_reducible refine gate_dst (N := 1) rfl ?_); refine zx (N := 1) (cs := #[.string a0_0, .int .i64 a0_1]) (t := 130) ?_; intro gb1106 hg w5 hbox hb; have BK1106 := Aside0.mk (hbox); have GW1106 := Aside0.mk ((by rw [hg]; exact (below_size (zB HB)) : w.heap.size ≤ gb1106)); have GE1106 := GW1106; replace HB := Aside0.mk (below_step (zB HB) hb); clear hb hbox hg; have hcz6_0 : w5.cell? ⟨gb1106, 0, none⟩ = some (.string a0_0) := (blk_cell BK1106.out 0).trans rfl; have hcz6_1 : w5.cell? ⟨gb1106, 1, none⟩ = some (.int .i64 a0_1) := (blk_cell BK1106.out 1).trans rfl; have hfz6_0 := blk_frozen BK1106.out 0; have hfz6_1 := blk_frozen BK1106.out 1) | ((with_reducible refine gate_callee (f := 59) rfl ?_); refine goesL_ (some 5) rfl rfl Try.func59 (by kernel_rfl) rfl #[.string a0_0] rfl zl ?_; (with_reducible refine (impl_isName.calls k a0_0 true _ A2.out).mono ?_); rintro e w' ⟨rfl, ⟨nd, rfl⟩⟩; refine ⟨_, rfl, ?_⟩) | (go_at_call 61; (with_reducible refine (impl_isValue.calls a0_1 t1108 _ A4.out).mono ?_); rintro e w' ⟨rfl, ⟨nd, rfl⟩⟩)); go_ret; exact ⟨by first | rfl | (simp [errW_none, errW_some] <;> rfl) | (simp [*, errW_none, errW_some] <;> rfl), zB HB⟩
 ·replace c3 := Bool.eq_false_iff.mpr c3; subst c3; rw [if_neg (show ¬ (false = true) by decide)] at H; obtain rfl := Option.some.inj H; go_enter Try.func124, Try.ntmps124; go_wp2_with (first | ((with_reducible refine gate_dst (N := 1) rfl ?_); refine zx (N := 1) (cs := #[.string a0_0, .int .i64 a0_1]) (t := 130) ?_; intro gb1106 hg w7 hbox hb; have BK1106 := Aside0.mk (hbox); have GW1106 := Aside0.mk ((by rw [hg]; exact (below_size (zB HB)) : w.heap.size ≤ gb1106)); have GE1106 := GW1106; replace HB := Aside0.mk (below_step (zB HB) hb); clear hb hbox hg; have hcz8_0 : w7.cell? ⟨gb1106, 0, none⟩ = some (.string a0_0) := (blk_cell BK1106.out 0).trans rfl; have hcz8_1 : w7.cell? ⟨gb1106, 1, none⟩ = some (.int .i64 a0_1) := (blk_cell BK1106.out 1).trans rfl; have hfz8_0 := blk_frozen BK1106.out 0; have hfz8_1 := blk_frozen BK1106.out 1) | ((with_reducible refine gate_callee (f := 59) rfl ?_); refine goesL_ (some 5) rfl rfl Try.func59 (by kernel_rfl) rfl #[.string a0_0] rfl zl ?_; (with_reducible refine (impl_isName.calls k a0_0 false _ A2.out).mono ?_); rintro e w' ⟨rfl, ⟨nd, rfl⟩⟩; refine ⟨_, rfl, ?_⟩)); go_ret; exact ⟨by first | rfl | (simp [errW_none, errW_some] <;> rfl) | (simp [*, errW_none, errW_some] <;> rfl), zB HB⟩

end Go.Proofs.Ytlpmggokgcphiaa.Q

namespace Go.Proofs.Ytlpmggokgcphiaa.Q
open Go.RowKit Go.Proofs.YtlpmggokgcphiaaL.PrintWords Go.Proofs.YtlpmggokgcphiaaL.PrintLast Go.Proofs.YtlpmggokgcphiaaL.PrintMore
attribute [local go_sem] max2_int min2_int max_two min_two max_three min_three max_four min_four   -- for this text's walks alone
set_option linter.unusedVariables false
set_option linter.unusedSimpArgs false

/-! ### slices.IndexFunc at int: function 138 -/
set_option maxHeartbeats 8000000 in
set_option maxRecDepth 100000 in
theorem ix138.calls (p : Int → Bool) (g : Nat) (lb : Array Value) (eg : ∀ args w, (callFunc g args).run Try.prog w = .ok (.enter g args) w) (A0 : Option Addr) (c0 : Nat) (l0 : List (Int)) (w : World)
  (hp : PxPred Try.prog g lb (fun x : Int => .int .i64 x) p w) (hr0 : Kd.C (Kd.int .i64) w A0 l0.length l0) :
  Calls Try.prog 138 #[.slice A0 l0.length c0, .func (.func g) #[] lb] w fun e w' => e = .returned (.int .i64 (pxIdx p l0)) ∧ Below w.heap.size w w' := by
 have HR := Aside0.mk hr0; clear hr0; have hbig : l0.length ≤ 9223372036854775807 := HR.out.2.1; go_enter Try.func138, Try.ntmps138; go_wp2; go_loopg [5, 8] l0.length (fun gg _ s8 wr => ∃ kk : Nat, kk ≤ l0.length ∧ l0.length - kk ≤ gg ∧ s8 = .int .i64 kk ∧ Aside0 (Below w.heap.size w wr) ∧ Aside0 (∀ j, j < kk → p (l0.getD j 0) = false))
 case atStart => exact ⟨0, Nat.zero_le _, by omega, rfl, ⟨Below.refl _ w⟩, ⟨fun j hj => absurd hj (Nat.not_lt_zero _)⟩⟩
 case round =>
  obtain ⟨kk, hkk, hg, rfl, BW, A⟩ := hrel
  by_cases hlt : kk < l0.length
  ·have hltz : (kk : Int) < (l0.length : Int) := by omega
   have hz0 : (0 : Int) ≤ (kk : Int) := by omega
   obtain ⟨ad, e, hx0⟩ := Kd.at_int (Kd.C_below HR.out BW.out) (kk : Int) hz0 hltz; simp only [Int.toNat_natCast] at hx0
   cases e
   have hcall := hp wr (rd l0 (kk : Int)) BW.out; clear hp; have B := Aside0.mk (show rd l0 (kk : Int) = l0.getD kk 0 from rfl); generalize hy : rd l0 (kk : Int) = y at hx0 hcall B; clear hy
   cases hq : p y with
   | true =>
    rw [hq] at hcall; go_wp2_with fail; refine hcall.mono ?_; rintro e w' ⟨rfl, hb'⟩; clear hcall; go_wp2; go_ret; refine ⟨?_, below_then BW.out BW.out.size hb'⟩; rw [pxIdx_hit p l0 0 kk hlt (by rw [← B.out]; exact hq) A.out]; rfl
   | false =>
    rw [hq] at hcall; go_wp2_with fail; refine hcall.mono ?_; rintro e w' ⟨rfl, hb'⟩; clear hcall; go_wp2; go_roundg (l0.length - (kk + 1))
    case measure => omega
    case rel =>
     refine ⟨kk + 1, by omega, by omega, by go_num, ⟨below_then BW.out BW.out.size hb'⟩, ⟨fun j hj => ?_⟩⟩
     by_cases e : j = kk
     ·subst e; rw [← B.out]; exact hq
     ·exact A.out j (by omega)
  ·have hltz : ¬ (kk : Int) < (l0.length : Int) := by omega
   have : kk = l0.length := by omega
   subst this; go_wp2; go_ret; refine ⟨?_, BW.out⟩; rw [pxIdx_miss p l0 0 A.out]; rfl
/-! ### slices.ContainsFunc at int: function 134 -/
set_option maxHeartbeats 8000000 in
set_option maxRecDepth 100000 in
theorem cf134.calls (p : Int → Bool) (g : Nat) (lb : Array Value) (eg : ∀ args w, (callFunc g args).run Try.prog w = .ok (.enter g args) w) (A0 : Option Addr) (c0 : Nat) (l0 : List (Int)) (w : World)
  (hp : PxPred Try.prog g lb (fun x : Int => .int .i64 x) p w) (hr0 : Kd.C (Kd.int .i64) w A0 l0.length l0) :
  Calls Try.prog 134 #[.slice A0 l0.length c0, .func (.func g) #[] lb] w fun e w' => e = .returned (.bool (l0.any p)) ∧ Below w.heap.size w w' := by
 rw [← pxIdx_any p l0]; go_enter Try.func134, Try.ntmps134; go_wp2_with fail; refine (ix138.calls p g lb eg A0 c0 l0 w hp hr0).mono ?_; rintro e w' ⟨rfl, hb'⟩; clear hp hr0; go_wp2; go_ret; exact ⟨by first | rfl | simp, hb'⟩
theorem impl_isValue.eq (x : Int) : impl_isValue.f x = some (decide (-99 ≤ x) && decide (x ≤ 99)) := by
 unfold impl_isValue.f impl_in.f
 by_cases h : x ≥ -99
 ·have h' : -99 ≤ x := h; simp [h, h']
 ·have h' : ¬ -99 ≤ x := h; simp [h, h']
set_option maxHeartbeats 8000000 in
set_option maxRecDepth 100000 in
theorem impl_areValues.pred135 (w : World) :
  PxPred Try.prog 135 #[] (fun x : Int => .int .i64 x) (fun x : Int => !(decide (-99 ≤ x) && decide (x ≤ 99))) w := by
 intro W x hb
 show Calls Try.prog 135 #[.int .i64 x] W _
 have HV := Aside0.mk (impl_isValue.eq x)
 cases hq : (decide (-99 ≤ x) && decide (x ≤ 99)) <;> (
  have HQ := Aside0.mk hq; clear hq; go_enter Try.func135, Try.ntmps135; go_wp2_with fail; refine (impl_isValue.calls _ _ _ HV.out).mono ?_; rintro e w' ⟨rfl, hd⟩; have hb := hd.below; clear hd; rw [HQ.out]; go_wp2; go_ret
  exact ⟨by first | rfl | (rw [HQ.out]; rfl), hb⟩)
/-! ### impl_areValues: function 125 (a contract of our own) -/
def impl_areValues.f (l0 : List Int) : Option (Bool) := some (!l0.any (fun x : Int => !(decide (-99 ≤ x) && decide (x ≤ 99))))
set_option maxHeartbeats 8000000 in
set_option maxRecDepth 100000 in
theorem impl_areValues.calls (A0 : Option Addr) (c0 : Nat) (l0 : List Int) (r : Bool) (w : World) (hr0 : Kd.C (Kd.int .i64) w A0 l0.length l0) (hc0 : l0.length ≤ c0) (h : impl_areValues.f l0 = some r) :
  Calls Try.prog 125 #[.slice A0 l0.length c0] w fun e w' => e = .returned (.bool r) ∧ Below w.heap.size w w' := by
 have HR := Aside0.mk hr0; clear hr0; obtain rfl := Option.some.inj h; clear h; have eg := px_enters Try.func135 (by kernel_rfl) rfl
 cases hq : l0.any (fun x : Int => !(decide (-99 ≤ x) && decide (x ≤ 99))) <;> (
  have HQ := Aside0.mk hq; clear hq; go_enter Try.func125, Try.ntmps125; go_wp2_with fail; refine (cf134.calls (fun x : Int => !(decide (-99 ≤ x) && decide (x ≤ 99))) 135 _ eg A0 c0 l0 _ (impl_areValues.pred135 _) HR.out).mono ?_; rintro e w' ⟨rfl, hb'⟩; rw [HQ.out]; go_wp2; go_ret
  exact ⟨rfl, hb'⟩)

end Go.Proofs.Ytlpmggokgcphiaa.Q

namespace Go.Proofs.Ytlpmggokgcphiaa.Q
open Go.RowKit Go.Proofs.YtlpmggokgcphiaaL.PrintWords Go.Proofs.YtlpmggokgcphiaaL.PrintLast Go.Proofs.YtlpmggokgcphiaaL.PrintMore
attribute [local go_sem] max2_int min2_int max_two min_two max_three min_three max_four min_four   -- for this text's walks alone
set_option linter.unusedVariables false
set_option linter.unusedSimpArgs false

/-! ### impl_ValidFlat: function 99 -/
def impl_ValidFlat.l0 : Nat → List (S130) → Int → Int → List Int → List (S130) → Option (Bool)
 | 0, _, _, _, _, _ => none
 | k + 1, x6, x7, x8, x1110000, x1110001 => if x8 < x7 then (if 0 ≤ x8 then (if x8 < (x6.length : Int) then ((impl_Pair_valid.f k ((rd_T130 x6 x8).f0) ((rd_T130 x6 x8).f1)).bind fun t1113 => (if t1113 = true then (if x8 ≤ (x1110001.length : Int) then ((impl_pairAt.f (x1110001.take (x8 : Int).toNat) ((rd_T130 x6 x8).f0)).bind fun t1118 => (if t1118 ≥ 0 then (some false) else (impl_ValidFlat.l0 k x6 x7 (wrap64 (x8 + 1)) x1110000 x1110001))) else (none)) else (some false))) else (none)) else (none)) else (if (x1110000.length : Int) ≤ 8 then (if (x1110001.length : Int) ≤ 8 then ((impl_areValues.f x1110000).bind fun t1110 => (some t1110)) else (some false)) else (some false))
def impl_ValidFlat.f (k : Nat) (l0_0 : List Int) (l0_1 : List (S130)) : Option (Bool) := impl_ValidFlat.l0 k l0_1 (l0_1.length : Int) 0 l0_0 l0_1
theorem impl_ValidFlat.mono_l : ∀ k, (∀ y0 y1 y2 y3 y4, LeO (impl_ValidFlat.l0 k y0 y1 y2 y3 y4) (impl_ValidFlat.l0 (k + 1) y0 y1 y2 y3 y4))
 | 0 => fun _ _ _ _ _ r h => by simp [impl_ValidFlat.l0] at h
 | k + 1 => by
  have ih0 := impl_ValidFlat.mono_l k
  ·intro y0 y1 y2 y3 y4; unfold impl_ValidFlat.l0
   repeat' first
   | (with_reducible exact ih0 _ _ _ _ _)
   | (with_reducible exact impl_Pair_valid.mono _ _ _)
   | (with_reducible exact LeO.refl _)
   | (with_reducible exact LeO.none _)
   | (with_reducible refine LeO.ite ?_ ?_)
   | (with_reducible refine LeO.bind ?_ (fun _ => ?_))
   | exact ih0 _ _ _ _ _
   | exact impl_Pair_valid.mono _ _ _
   | exact LeO.none _
   | refine LeO.ite ?_ ?_
   | refine LeO.bind ?_ (fun _ => ?_)
theorem impl_ValidFlat.mono : ∀ a0 a1 k, LeO (impl_ValidFlat.f k a0 a1) (impl_ValidFlat.f (k + 1) a0 a1) := by
 intro a0 a1 k; have ih0 := impl_ValidFlat.mono_l k; unfold impl_ValidFlat.f
 repeat' first
   | (with_reducible exact ih0 _ _ _ _ _)
   | (with_reducible exact impl_Pair_valid.mono _ _ _)
   | (with_reducible exact LeO.refl _)
   | (with_reducible exact LeO.none _)
   | (with_reducible refine LeO.ite ?_ ?_)
   | (with_reducible refine LeO.bind ?_ (fun _ => ?_))
   | exact ih0 _ _ _ _ _
   | exact impl_Pair_valid.mono _ _ _
   | exact LeO.none _
   | refine LeO.ite ?_ ?_
   | refine LeO.bind ?_ (fun _ => ?_)
def impl_ValidFlat.T4 : Bool × List (List Nat × List Nat) := (true, [([], []), ([0], [0]), ([1], [1]), ([2, 1], [2]), ([3], [3]), ([4, 3], [3, 4]), ([3], [3]), ([5, 6, 3], [3, 5, 6]), ([3], [3]), ([8, 3], [3, 8]), ([7, 9, 3, 3], [3, 7, 9]), ([10, 3], [3, 10]), ([3, 11], [3, 11])])
def impl_ValidFlat.B4 : List Nat := [0, 1, 3, 7, 15, 31, 15, 127, 15, 271, 1023, 2047, 4095]
theorem impl_ValidFlat.tab4 : rtab .any (opsOf Try.f99 4) = impl_ValidFlat.T4 := by kernel_rfl
theorem impl_ValidFlat.bits4 : waitsOk impl_ValidFlat.T4.2 impl_ValidFlat.B4 = true := by kernel_rfl
set_option maxHeartbeats 8000000 in
set_option maxRecDepth 100000 in
theorem impl_ValidFlat.calls (k : Nat) (A0_0 : Option Addr) (c0_0 : Nat) (l0_0 : List Int) (A0_1 : Option Addr) (c0_1 : Nat) (l0_1 : List (S130)) (r : Bool) (w : World) (hr0_0 : Kd.C (Kd.int .i64) w A0_0 l0_0.length l0_0) (hc0_0 : l0_0.length ≤ c0_0) (hr0_1 : Kd.C k130 w A0_1 l0_1.length l0_1) (hc0_1 : l0_1.length ≤ c0_1) (h : impl_ValidFlat.f k l0_0 l0_1 = some r) :
  Calls Try.prog 99 #[.agg #[.slice A0_0 l0_0.length c0_0, .slice A0_1 l0_1.length c0_1]] w fun e w' => e = .returned (.bool r) ∧ Below w.heap.size w w' := by
 have hu70 := Try.underlying70; have hu130 := Try.underlying130; have HR0_0 := Aside0.mk hr0_0; have HC0_0 := Aside0.mk hc0_0; clear hr0_0 hc0_0; have HR0_1 := Aside0.mk hr0_1; have HC0_1 := Aside0.mk hc0_1; clear hr0_1 hc0_1; have HB := Aside0.mk (Below.refl w.heap.size w); have H : (impl_ValidFlat.l0 k l0_1 (l0_1.length : Int) 0 l0_0 l0_1) = some r := h; clear h; have H' := Aside0.mk H; clear H; go_enter Try.func99, Try.ntmps99; go_wp2_with (first | ((with_reducible refine gate_dst (N := 1) rfl ?_); refine zx (N := 1) (cs := #[.slice A0_0 l0_0.length c0_0, .slice A0_1 l0_1.length c0_1]) (t := 70) ?_; intro gb1109 hg w2 hbox hb; have BK1109 := Aside0.mk (hbox); have GW1109 := Aside0.mk ((by rw [hg]; exact (below_size (zB HB)) : w.heap.size ≤ gb1109)); have GE1109 := GW1109; replace HB := Aside0.mk (below_step (zB HB) hb); clear hb hbox hg; have hcz3_0 : w2.cell? ⟨gb1109, 0, none⟩ = some (.slice A0_0 l0_0.length c0_0) := (blk_cell BK1109.out 0).trans rfl; have hcz3_1 : w2.cell? ⟨gb1109, 1, none⟩ = some (.slice A0_1 l0_1.length c0_1) := (blk_cell BK1109.out 1).trans rfl; have hfz3_0 := blk_frozen BK1109.out 0; have hfz3_1 := blk_frozen BK1109.out 1)); go_loopg [8] k (fun kq v8 w' => ∃ (x8_1 : Int), v8 = .int .i64 x8_1 ∧ Aside0 (impl_ValidFlat.l0 kq l0_1 (l0_1.length : Int) x8_1 l0_0 l0_1 = some r) ∧ Aside0 (kq ≤ k) ∧ Aside0 (w'.heap[gb1109]? = some (.cells #[(.slice A0_0 l0_0.length c0_0), (.slice A0_1 l0_1.length c0_1)] 70 (0, 0))) ∧ Aside0 (Below w.heap.size w w'))
 case atStart => exact ⟨(0), zr, H', ⟨Nat.le_refl _⟩, ⟨zb BK1109⟩, ⟨zB HB⟩⟩
 case round =>
  clear H'; (try clear p2); (try clear hcz3_0); (try clear hcz3_1); (try clear hfz3_0); (try clear hfz3_1); obtain ⟨x8_1, rfl, HA, HK1, BK1109, HB⟩ := hrel
  cases gk with
  | zero => exact absurd HA.out (by simp [impl_ValidFlat.l0])
  | succ k1 =>
   have H := HA.out; clear HA; simp only [impl_ValidFlat.l0] at H
   by_cases c4 : x8_1 < (l0_1.length : Int)
   ·rw [if_pos c4] at H; have c4b0 : decide (x8_1 < (l0_1.length : Int)) = true := decide_eq_true c4; clear c4
    by_cases c5 : 0 ≤ x8_1
    ·rw [if_pos c5] at H; have c5b0 : decide (0 ≤ x8_1) = true := decide_eq_true c5; clear c5
     by_cases c6 : x8_1 < (l0_1.length : Int)
     ·rw [if_pos c6] at H; have c6b0 : decide (x8_1 < (l0_1.length : Int)) = true := decide_eq_true c6; clear c6; replace H := Option.bind_eq_some_iff.mp H; obtain ⟨t1113, A70, H⟩ := H
      (try dsimp only at H)
      have A7 := Aside0.mk A70; clear A70
      by_cases c8 : t1113 = true
      ·subst c8; rw [if_pos rfl] at H; have c9b0 := eq_true (of_decide_eq_true za : 0 ≤ x8_1)
       by_cases c10 : x8_1 ≤ (l0_1.length : Int)
       ·rw [if_pos c10] at H; have c10b0 := eq_true c10; have c10b1 : decide (x8_1 ≤ (l0_1.length : Int)) = true := decide_eq_true c10; clear c10; obtain ⟨y1114, hy1114⟩ : ∃ y_ : List (S130), y_ = (l0_1.take (x8_1 : Int).toNat) := ⟨_, rfl⟩
        replace H : ((impl_pairAt.f y1114 ((rd_T130 l0_1 x8_1).f0)).bind fun t1118 => (if t1118 ≥ 0 then (some false) else (impl_ValidFlat.l0 k1 l0_1 (l0_1.length : Int) (wrap64 (x8_1 + 1)) l0_0 l0_1))) = some r := by first | (rw [hy1114]; with_reducible exact H) | (have H2_ := (Option.bind_some _ _).symm.trans H; rw [hy1114]; with_reducible exact H2_) | (have H2_ := (Option.bind_some _ _).symm.trans H; with_reducible exact H2_) | with_reducible exact H | (rw [hy1114]; exact H) | exact H
        have Ny1114 := Aside0.mk hy1114; clear hy1114; replace H := Option.bind_eq_some_iff.mp H; obtain ⟨t1118, A110, H⟩ := H
        (try dsimp only at H)
        have A11 := Aside0.mk A110; clear A110
        by_cases c12 : t1118 ≥ 0
        ·rw [if_pos c12] at H; have c12b0 : decide (0 ≤ t1118) = true := decide_eq_true c12; clear c12; obtain rfl := Option.some.inj H; have p1111 : 0 ≤ (x8_1 : Int) := of_decide_eq_true za; have q1111 : x8_1 < (l0_1.length : Int) := of_decide_eq_true za; obtain ⟨ad1111, e1111, hx1111_0, hx1111_1⟩ := at_T130 HR0_1.out x8_1 p1111 q1111
         cases e1111
         replace hx1111_0 := (HB.out.cell (World.block_lt_of_cell? w _ hx1111_0)).trans hx1111_0; replace hx1111_1 := (HB.out.cell (World.block_lt_of_cell? w _ hx1111_1)).trans hx1111_1; replace p1111 := eq_true p1111; replace q1111 := eq_true q1111
         try go_wp2_with (first | ((with_reducible refine gate_dst (N := 4) rfl ?_); refine zx (N := 4) (cs := #[.string (⟨#[]⟩ : ByteArray), .int .i64 0]) (t := 130) ?_; intro gb1112 hg w13 hbox hb; have BK1112 := Aside0.mk (hbox); have GW1112 := Aside0.mk ((by rw [hg]; exact (below_size (zB HB)) : w.heap.size ≤ gb1112)); have GE1112 := GW1112; replace HB := Aside0.mk (below_step (zB HB) hb); have NB1109_1112 := Aside0.mk ((by rw [hg]; exact Nat.ne_of_lt (blk_lt (g := gb1109) (o := .cells #[.slice A0_0 l0_0.length c0_0, .slice (some ad1111) l0_1.length c0_1] 70 (0, 0)) (zb BK1109)) : gb1109 ≠ gb1112)); have NB1112_1109 := Aside0.mk NB1109_1112.out.symm; replace BK1109 := Aside0.mk (blk_below (g := gb1109) (o := .cells #[.slice A0_0 l0_0.length c0_0, .slice (some ad1111) l0_1.length c0_1] 70 (0, 0)) (zb BK1109) hb); clear hb hbox hg; have hnb14 := NB1112_1109.out; have hnc14 := NB1109_1112.out; have hcz15_0 : w13.cell? ⟨gb1112, 0, none⟩ = some (.string (⟨#[]⟩ : ByteArray)) := (blk_cell BK1112.out 0).trans rfl; have hcz15_1 : w13.cell? ⟨gb1112, 1, none⟩ = some (.int .i64 0) := (blk_cell BK1112.out 1).trans rfl; have hfz15_0 := blk_frozen BK1112.out 0; have hfz15_1 := blk_frozen BK1112.out 1))
         have n0_ : Aside0 (((w13.setCell ⟨gb1112, 0, none⟩ (.string ((rd_T130 l0_1 x8_1).f0))).setCell ⟨gb1112, 1, none⟩ (.int .i64 ((rd_T130 l0_1 x8_1).f1))).heap[gb1109]? = some (.cells #[.slice A0_0 l0_0.length c0_0, .slice (some ad1111) l0_1.length c0_1] 70 (0, 0))) := ⟨zf BK1109⟩
         have n1_ : Aside0 (((w13.setCell ⟨gb1112, 0, none⟩ (.string ((rd_T130 l0_1 x8_1).f0))).setCell ⟨gb1112, 1, none⟩ (.int .i64 ((rd_T130 l0_1 x8_1).f1))).heap[gb1112]? = some (.cells #[.string ((rd_T130 l0_1 x8_1).f0), .int .i64 ((rd_T130 l0_1 x8_1).f1)] 130 (0, 0))) := ⟨by (with_reducible repeat (first | refine blk_drewN ?_ _ | refine blk_drew ?_ | refine blk_alloc ?_ _)); refine blk_put (cs := #[.string ((rd_T130 l0_1 x8_1).f0), .int .i64 0]) ?_ 1 _ rfl; (with_reducible repeat (first | refine blk_drewN ?_ _ | refine blk_drew ?_ | refine blk_alloc ?_ _)); refine blk_put (cs := #[.string (⟨#[]⟩ : ByteArray), .int .i64 0]) ?_ 0 _ rfl; (with_reducible repeat (first | refine blk_drewN ?_ _ | refine blk_drew ?_ | refine blk_alloc ?_ _)); exact BK1112.out⟩
         have n2_ : Aside0 (Below w.heap.size w ((w13.setCell ⟨gb1112, 0, none⟩ (.string ((rd_T130 l0_1 x8_1).f0))).setCell ⟨gb1112, 1, none⟩ (.int .i64 ((rd_T130 l0_1 x8_1).f1)))) := ⟨zB HB⟩
         (try clear BK1109); (try clear BK1112); (try clear HB); generalize ((w13.setCell ⟨gb1112, 0, none⟩ (.string ((rd_T130 l0_1 x8_1).f0))).setCell ⟨gb1112, 1, none⟩ (.int .i64 ((rd_T130 l0_1 x8_1).f1))) = w16 at n0_ n1_ n2_ ⊢; have BK1109 := n0_; have BK1112 := n1_; have HB := n2_; clear n0_ n1_ n2_; replace BK1109 := Aside0.mk (blk_drew BK1109.out); replace BK1112 := Aside0.mk (blk_drew BK1112.out); replace HB := Aside0.mk (below_drew1 HB.out); refine start_ (n := 13) (S := fun w' => w'.cell? ⟨gb1112, 0, none⟩ = some (.string ((rd_T130 l0_1 x8_1).f0)) ∧ w'.cell? ⟨gb1112, 1, none⟩ = some (.int .i64 ((rd_T130 l0_1 x8_1).f1)) ∧ w'.cell? ⟨gb1109, 0, none⟩ = some (.slice A0_0 l0_0.length c0_0) ∧ w'.cell? ⟨gb1109, 1, none⟩ = some (.slice (some ad1111) l0_1.length c0_1)) (ds := []) #[false, false, false, false, false, false, false, false, false, false, false, false, false] (by kernel_rfl) rfl rfl ⟨(blk_cell BK1112.out 0).trans rfl, (blk_cell BK1112.out 1).trans rfl, (blk_cell BK1109.out 0).trans rfl, (blk_cell BK1109.out 1).trans rfl⟩ (fun hHeld => ?_); refine with_tabW impl_ValidFlat.tab4 impl_ValidFlat.bits4 (fun HT_ HW_ => ?_); generalize w16.drew = w17 at BK1109 BK1112 HB hHeld ⊢; refine take_ (i := 0) (N := some 13) (v := ?_) (a' := ?_) #[true, false, false, false, false, false, false, false, false, false, false, false, false] rfl rfl (take_ofW HT_.out HW_.out (by kernel_rfl)) (fun _ _ _ h => h) (Or.inl ⟨by rfl, ?_⟩) hHeld ?_ ?_; rotate_left
         ·rintro w' ⟨s0, s1, s2, s3⟩; go_simp; with_reducible rfl
         rotate_left
         ·simp only [Act.put, List.setIfInBounds_toArray, List.set_cons_zero, List.set_cons_succ, i64_w, i32_w]; rfl
         refine one_ (i := 1) (N := some 14) #[true, true, false, false, false, false, false, false, false, false, false, false, false] rfl rfl (one_of HT_.out (by kernel_rfl)) (by decide) (fun K hK => ?_); refine goes_ Try.func124 (by kernel_rfl) rfl #[.agg #[.string ((rd_T130 l0_1 x8_1).f0), .int .i64 ((rd_T130 l0_1 x8_1).f1)]] (by rfl) rfl rfl zl ?_; with_reducible refine (impl_Pair_valid.calls k1 ((rd_T130 l0_1 x8_1).f0) ((rd_T130 l0_1 x8_1).f1) true _ A7.out).mono ?_; rintro e w18 ⟨rfl, hb⟩; refine ⟨_, rfl, ?_⟩; replace BK1109 := Aside0.mk (blk_below (g := gb1109) (o := .cells #[.slice A0_0 l0_0.length c0_0, .slice (some ad1111) l0_1.length c0_1] 70 (0, 0)) (zb BK1109) hb); replace BK1112 := Aside0.mk (blk_below (g := gb1112) (o := .cells #[.string ((rd_T130 l0_1 x8_1).f0), .int .i64 ((rd_T130 l0_1 x8_1).f1)] 130 (0, 0)) (zb BK1112) hb); replace HB := Aside0.mk (below_step (zB HB) hb); (try clear hb); (try clear hb2); (try clear hk); (try clear hi); have q19 : (x8_1 : Int) ≤ ((l0_1.length : Int) : Int) := of_decide_eq_true za; obtain ⟨i019, hi019, _, hsz19, _⟩ := info_parts info130; have hroom19 : l0_1.length ≤ c0_1 := HC0_1.out; have hC19 : Kd.C k130 _ (some ad1111) l0_1.length l0_1 := HR0_1.out; have hcut19 := cut_to (P := Try.prog) 68 130 .i64 Try.underlying68 hi019 (some ad1111) l0_1.length c0_1 x8_1 (of_decide_eq_true za) q19 hroom19; have hr19 := Kd.C_take (m := (x8_1 : Int).toNat) hC19 (by omega); have hy19 : y1114.length = (x8_1 : Int).toNat := (by rw [Ny1114.out, List.length_take]; omega)
         rw [← Ny1114.out] at hr19; rw [← hy19] at hcut19; have HR1117 := Aside0.mk hr19; have HC1117 := Aside0.mk (show y1114.length ≤ c0_1 from by omega); clear hr19 hC19 hroom19 hi019 hsz19; have KY19 := Aside0.mk hy19; clear hy19; replace q19 := eq_true q19; refine hK.out _ _ ⟨(blk_cell BK1112.out 0).trans rfl, (blk_cell BK1112.out 1).trans rfl, (blk_cell BK1109.out 0).trans rfl, (blk_cell BK1109.out 1).trans rfl⟩ (fun hHeld => ?_); clear hK K; refine norm_ (a' := ?_) ?_ ?_; rotate_left
         ·show Act.put _ (some 14) _ = _
          simp only [Act.put, List.setIfInBounds_toArray, List.set_cons_zero, List.set_cons_succ, i64_w, i32_w]; rfl
         refine pure_ (i := 2) (N := some 15) (v := ?_) (a' := ?_) #[true, true, true, false, false, false, false, false, false, false, false, false, false] rfl rfl (any_of HT_.out (by kernel_rfl)) (fun _ _ _ h => h) (Or.inl ⟨by rfl, ?_⟩) ?_ ?_; rotate_left
         ·intro w'; go_simp; with_reducible rfl
         rotate_left
         ·simp only [Act.put, List.setIfInBounds_toArray, List.set_cons_zero, List.set_cons_succ, i64_w, i32_w]; rfl
         refine pure_ (i := 3) (N := some 16) (v := ?_) (a' := ?_) #[true, true, true, true, false, false, false, false, false, false, false, false, false] rfl rfl (any_of HT_.out (by kernel_rfl)) (fun _ _ _ h => h) (Or.inl ⟨by rfl, ?_⟩) ?_ ?_; rotate_left
         ·intro w'; go_simp; with_reducible rfl
         rotate_left
         ·simp only [Act.put, List.setIfInBounds_toArray, List.set_cons_zero, List.set_cons_succ, i64_w, i32_w]; rfl
         refine pure_ (i := 4) (N := some 17) (v := ?_) (a' := ?_) #[true, true, true, true, true, false, false, false, false, false, false, false, false] rfl rfl (any_of HT_.out (by kernel_rfl)) (fun _ _ _ h => h) (Or.inl ⟨by rfl, ?_⟩) ?_ ?_; rotate_left
         ·intro w'; go_simp; with_reducible rfl
         rotate_left
         ·simp only [Act.put, List.setIfInBounds_toArray, List.set_cons_zero, List.set_cons_succ, i64_w, i32_w]; rfl
         refine pure_ (i := 6) (N := some 19) (v := ?_) (a' := ?_) #[true, true, true, true, true, false, true, false, false, false, false, false, false] rfl rfl (any_of HT_.out (by kernel_rfl)) (fun _ _ _ h => h) (Or.inl ⟨by rfl, ?_⟩) ?_ ?_; rotate_left
         ·intro w'; go_simp; with_reducible rfl
         rotate_left
         ·simp only [Act.put, List.setIfInBounds_toArray, List.set_cons_zero, List.set_cons_succ, i64_w, i32_w]; rfl
         refine pure_ (i := 8) (N := some 21) (v := ?_) (a' := ?_) #[true, true, true, true, true, false, true, false, true, false, false, false, false] rfl rfl (any_of HT_.out (by kernel_rfl)) (fun _ _ _ h => h) (Or.inl ⟨by rfl, ?_⟩) ?_ ?_; rotate_left
         ·intro w'; go_simp; with_reducible rfl
         rotate_left
         ·simp only [Act.put, List.setIfInBounds_toArray, List.set_cons_zero, List.set_cons_succ, i64_w, i32_w]; rfl
         refine take_ (i := 5) (N := some 18) (v := ?_) (a' := ?_) #[true, true, true, true, true, true, true, false, true, false, false, false, false] rfl rfl (take_ofW HT_.out HW_.out (by kernel_rfl)) (fun _ _ _ h => h) (Or.inl ⟨by rfl, ?_⟩) hHeld ?_ ?_; rotate_left
         ·rintro w' ⟨s0, s1, s2, s3⟩; go_simp; with_reducible rfl
         rotate_left
         ·simp only [Act.put, List.setIfInBounds_toArray, List.set_cons_zero, List.set_cons_succ, i64_w, i32_w]; rfl
         refine pure_ (i := 7) (N := some 20) (v := ?_) (a' := ?_) #[true, true, true, true, true, true, true, true, true, false, false, false, false] rfl rfl (any_of HT_.out (by kernel_rfl)) (fun _ _ _ h => h) (Or.inl ⟨by rfl, ?_⟩) ?_ ?_; rotate_left
         ·intro w'; go_simp; with_reducible rfl
         rotate_left
         ·simp only [Act.put, List.setIfInBounds_toArray, List.set_cons_zero, List.set_cons_succ, i64_w, i32_w]; rfl
         refine take_ (i := 9) (N := some 22) (v := ?_) (a' := ?_) #[true, true, true, true, true, true, true, true, true, true, false, false, false] rfl rfl (take_ofW HT_.out HW_.out (by kernel_rfl)) (fun _ _ _ h => h) (Or.inl ⟨by rfl, ?_⟩) hHeld ?_ ?_; rotate_left
         ·rintro w' ⟨s0, s1, s2, s3⟩; go_simp; with_reducible rfl
         rotate_left
         ·simp only [Act.put, List.setIfInBounds_toArray, List.set_cons_zero, List.set_cons_succ, i64_w, i32_w]; rfl
         refine one_ (i := 10) (N := some 23) #[true, true, true, true, true, true, true, true, true, true, true, false, false] rfl rfl (one_of HT_.out (by kernel_rfl)) (by decide) (fun K hK => ?_); refine goes_ Try.func123 (by kernel_rfl) rfl #[.slice (some ad1111) y1114.length c0_1, .string ((rd_T130 l0_1 x8_1).f0)] (by rfl) rfl rfl zl ?_; with_reducible refine (impl_pairAt.calls _ _ y1114 ((rd_T130 l0_1 x8_1).f0) t1118 _ ?side1 ?side2 A11.out).mono ?_
         (case side1 => repeat (first | exact (Kd.C_below HR1117.out HB.out) | (with_reducible refine Kd.C_alloc ?_ _) | (with_reducible refine Kd.C_drewN ?_ _) | (with_reducible refine Kd.C_drew ?_)))
         (case side2 => exact HC1117.out)
         rintro e w20 ⟨rfl, hb⟩; refine ⟨_, rfl, ?_⟩; replace BK1109 := Aside0.mk (blk_below (g := gb1109) (o := .cells #[.slice A0_0 l0_0.length c0_0, .slice (some ad1111) l0_1.length c0_1] 70 (0, 0)) (zb BK1109) hb); replace BK1112 := Aside0.mk (blk_below (g := gb1112) (o := .cells #[.string ((rd_T130 l0_1 x8_1).f0), .int .i64 ((rd_T130 l0_1 x8_1).f1)] 130 (0, 0)) (zb BK1112) hb); replace HB := Aside0.mk (below_step (zB HB) hb); (try clear hb); (try clear hb2); (try clear hk); (try clear hi); refine hK.out _ _ ⟨(blk_cell BK1112.out 0).trans rfl, (blk_cell BK1112.out 1).trans rfl, (blk_cell BK1109.out 0).trans rfl, (blk_cell BK1109.out 1).trans rfl⟩ (fun hHeld => ?_); clear hK K; refine norm_ (a' := ?_) ?_ ?_; rotate_left
         ·show Act.put _ (some 23) _ = _
          simp only [Act.put, List.setIfInBounds_toArray, List.set_cons_zero, List.set_cons_succ, i64_w, i32_w]; rfl
         refine pure_ (i := 11) (N := some 24) (v := ?_) (a' := ?_) #[true, true, true, true, true, true, true, true, true, true, true, true, false] rfl rfl (any_of HT_.out (by kernel_rfl)) (fun _ _ _ h => h) (Or.inl ⟨by rfl, ?_⟩) ?_ ?_; rotate_left
         ·intro w'; go_simp; with_reducible rfl
         rotate_left
         ·simp only [Act.put, List.setIfInBounds_toArray, List.set_cons_zero, List.set_cons_succ, i64_w, i32_w]; rfl
         refine pure_ (i := 12) (N := some 25) (v := ?_) (a' := ?_) #[true, true, true, true, true, true, true, true, true, true, true, true, true] rfl rfl (any_of HT_.out (by kernel_rfl)) (fun _ _ _ h => h) (Or.inl ⟨by rfl, ?_⟩) ?_ ?_; rotate_left
         ·intro w'; go_simp; with_reducible rfl
         rotate_left
         ·simp only [Act.put, List.setIfInBounds_toArray, List.set_cons_zero, List.set_cons_succ, i64_w, i32_w]; rfl
         refine done_ (done_of HT_.out (by kernel_rfl)) ?_
         try go_wp2
         go_ret; exact ⟨by first | rfl | (simp [errW_none, errW_some] <;> rfl) | (simp [*, errW_none, errW_some] <;> rfl), zB HB⟩
        ·rw [if_neg c12] at H; have c12b0 : decide (0 ≤ t1118) = false := decide_eq_false c12; clear c12; have H' := Aside0.mk H; clear H; have p1111 : 0 ≤ (x8_1 : Int) := of_decide_eq_true za; have q1111 : x8_1 < (l0_1.length : Int) := of_decide_eq_true za; obtain ⟨ad1111, e1111, hx1111_0, hx1111_1⟩ := at_T130 HR0_1.out x8_1 p1111 q1111
         cases e1111
         replace hx1111_0 := (HB.out.cell (World.block_lt_of_cell? w _ hx1111_0)).trans hx1111_0; replace hx1111_1 := (HB.out.cell (World.block_lt_of_cell? w _ hx1111_1)).trans hx1111_1; replace p1111 := eq_true p1111; replace q1111 := eq_true q1111
         try go_wp2_with (first | ((with_reducible refine gate_dst (N := 4) rfl ?_); refine zx (N := 4) (cs := #[.string (⟨#[]⟩ : ByteArray), .int .i64 0]) (t := 130) ?_; intro gb1112 hg w21 hbox hb; have BK1112 := Aside0.mk (hbox); have GW1112 := Aside0.mk ((by rw [hg]; exact (below_size (zB HB)) : w.heap.size ≤ gb1112)); have GE1112 := GW1112; replace HB := Aside0.mk (below_step (zB HB) hb); have NB1109_1112 := Aside0.mk ((by rw [hg]; exact Nat.ne_of_lt (blk_lt (g := gb1109) (o := .cells #[.slice A0_0 l0_0.length c0_0, .slice (some ad1111) l0_1.length c0_1] 70 (0, 0)) (zb BK1109)) : gb1109 ≠ gb1112)); have NB1112_1109 := Aside0.mk NB1109_1112.out.symm; replace BK1109 := Aside0.mk (blk_below (g := gb1109) (o := .cells #[.slice A0_0 l0_0.length c0_0, .slice (some ad1111) l0_1.length c0_1] 70 (0, 0)) (zb BK1109) hb); clear hb hbox hg; have hnb22 := NB1112_1109.out; have hnc22 := NB1109_1112.out; have hcz23_0 : w21.cell? ⟨gb1112, 0, none⟩ = some (.string (⟨#[]⟩ : ByteArray)) := (blk_cell BK1112.out 0).trans rfl; have hcz23_1 : w21.cell? ⟨gb1112, 1, none⟩ = some (.int .i64 0) := (blk_cell BK1112.out 1).trans rfl; have hfz23_0 := blk_frozen BK1112.out 0; have hfz23_1 := blk_frozen BK1112.out 1))
         have n0_ : Aside0 (((w21.setCell ⟨gb1112, 0, none⟩ (.string ((rd_T130 l0_1 x8_1).f0))).setCell ⟨gb1112, 1, none⟩ (.int .i64 ((rd_T130 l0_1 x8_1).f1))).heap[gb1109]? = some (.cells #[.slice A0_0 l0_0.length c0_0, .slice (some ad1111) l0_1.length c0_1] 70 (0, 0))) := ⟨zf BK1109⟩
         have n1_ : Aside0 (((w21.setCell ⟨gb1112, 0, none⟩ (.string ((rd_T130 l0_1 x8_1).f0))).setCell ⟨gb1112, 1, none⟩ (.int .i64 ((rd_T130 l0_1 x8_1).f1))).heap[gb1112]? = some (.cells #[.string ((rd_T130 l0_1 x8_1).f0), .int .i64 ((rd_T130 l0_1 x8_1).f1)] 130 (0, 0))) := ⟨by (with_reducible repeat (first | refine blk_drewN ?_ _ | refine blk_drew ?_ | refine blk_alloc ?_ _)); refine blk_put (cs := #[.string ((rd_T130 l0_1 x8_1).f0), .int .i64 0]) ?_ 1 _ rfl; (with_reducible repeat (first | refine blk_drewN ?_ _ | refine blk_drew ?_ | refine blk_alloc ?_ _)); refine blk_put (cs := #[.string (⟨#[]⟩ : ByteArray), .int .i64 0]) ?_ 0 _ rfl; (with_reducible repeat (first | refine blk_drewN ?_ _ | refine blk_drew ?_ | refine blk_alloc ?_ _)); exact BK1112.out⟩
         have n2_ : Aside0 (Below w.heap.size w ((w21.setCell ⟨gb1112, 0, none⟩ (.string ((rd_T130 l0_1 x8_1).f0))).setCell ⟨gb1112, 1, none⟩ (.int .i64 ((rd_T130 l0_1 x8_1).f1)))) := ⟨zB HB⟩
         (try clear BK1109); (try clear BK1112); (try clear HB); generalize ((w21.setCell ⟨gb1112, 0, none⟩ (.string ((rd_T130 l0_1 x8_1).f0))).setCell ⟨gb1112, 1, none⟩ (.int .i64 ((rd_T130 l0_1 x8_1).f1))) = w24 at n0_ n1_ n2_ ⊢; have BK1109 := n0_; have BK1112 := n1_; have HB := n2_; clear n0_ n1_ n2_; replace BK1109 := Aside0.mk (blk_drew BK1109.out); replace BK1112 := Aside0.mk (blk_drew BK1112.out); replace HB := Aside0.mk (below_drew1 HB.out); refine start_ (n := 13) (S := fun w' => w'.cell? ⟨gb1112, 0, none⟩ = some (.string ((rd_T130 l0_1 x8_1).f0)) ∧ w'.cell? ⟨gb1112, 1, none⟩ = some (.int .i64 ((rd_T130 l0_1 x8_1).f1)) ∧ w'.cell? ⟨gb1109, 0, none⟩ = some (.slice A0_0 l0_0.length c0_0) ∧ w'.cell? ⟨gb1109, 1, none⟩ = some (.slice (some ad1111) l0_1.length c0_1)) (ds := []) #[false, false, false, false, false, false, false, false, false, false, false, false, false] (by kernel_rfl) rfl rfl ⟨(blk_cell BK1112.out 0).trans rfl, (blk_cell BK1112.out 1).trans rfl, (blk_cell BK1109.out 0).trans rfl, (blk_cell BK1109.out 1).trans rfl⟩ (fun hHeld => ?_); refine with_tabW impl_ValidFlat.tab4 impl_ValidFlat.bits4 (fun HT_ HW_ => ?_); generalize w24.drew = w25 at BK1109 BK1112 HB hHeld ⊢; refine take_ (i := 0) (N := some 13) (v := ?_) (a' := ?_) #[true, false, false, false, false, false, false, false, false, false, false, false, false] rfl rfl (take_ofW HT_.out HW_.out (by kernel_rfl)) (fun _ _ _ h => h) (Or.inl ⟨by rfl, ?_⟩) hHeld ?_ ?_; rotate_left
         ·rintro w' ⟨s0, s1, s2, s3⟩; go_simp; with_reducible rfl
         rotate_left
         ·simp only [Act.put, List.setIfInBounds_toArray, List.set_cons_zero, List.set_cons_succ, i64_w, i32_w]; rfl
         refine one_ (i := 1) (N := some 14) #[true, true, false, false, false, false, false, false, false, false, false, false, false] rfl rfl (one_of HT_.out (by kernel_rfl)) (by decide) (fun K hK => ?_); refine goes_ Try.func124 (by kernel_rfl) rfl #[.agg #[.string ((rd_T130 l0_1 x8_1).f0), .int .i64 ((rd_T130 l0_1 x8_1).f1)]] (by rfl) rfl rfl zl ?_; with_reducible refine (impl_Pair_valid.calls k1 ((rd_T130 l0_1 x8_1).f0) ((rd_T130 l0_1 x8_1).f1) true _ A7.out).mono ?_; rintro e w26 ⟨rfl, hb⟩; refine ⟨_, rfl, ?_⟩; replace BK1109 := Aside0.mk (blk_below (g := gb1109) (o := .cells #[.slice A0_0 l0_0.length c0_0, .slice (some ad1111) l0_1.length c0_1] 70 (0, 0)) (zb BK1109) hb); replace BK1112 := Aside0.mk (blk_below (g := gb1112) (o := .cells #[.string ((rd_T130 l0_1 x8_1).f0), .int .i64 ((rd_T130 l0_1 x8_1).f1)] 130 (0, 0)) (zb BK1112) hb); replace HB := Aside0.mk (below_step (zB HB) hb); (try clear hb); (try clear hb2); (try clear hk); (try clear hi); have q27 : (x8_1 : Int) ≤ ((l0_1.length : Int) : Int) := of_decide_eq_true za; obtain ⟨i027, hi027, _, hsz27, _⟩ := info_parts info130; have hroom27 : l0_1.length ≤ c0_1 := HC0_1.out; have hC27 : Kd.C k130 _ (some ad1111) l0_1.length l0_1 := HR0_1.out; have hcut27 := cut_to (P := Try.prog) 68 130 .i64 Try.underlying68 hi027 (some ad1111) l0_1.length c0_1 x8_1 (of_decide_eq_true za) q27 hroom27; have hr27 := Kd.C_take (m := (x8_1 : Int).toNat) hC27 (by omega); have hy27 : y1114.length = (x8_1 : Int).toNat := (by rw [Ny1114.out, List.length_take]; omega)
         rw [← Ny1114.out] at hr27; rw [← hy27] at hcut27; have HR1117 := Aside0.mk hr27; have HC1117 := Aside0.mk (show y1114.length ≤ c0_1 from by omega); clear hr27 hC27 hroom27 hi027 hsz27; have KY27 := Aside0.mk hy27; clear hy27; replace q27 := eq_true q27; refine hK.out _ _ ⟨(blk_cell BK1112.out 0).trans rfl, (blk_cell BK1112.out 1).trans rfl, (blk_cell BK1109.out 0).trans rfl, (blk_cell BK1109.out 1).trans rfl⟩ (fun hHeld => ?_); clear hK K; refine norm_ (a' := ?_) ?_ ?_; rotate_left
         ·show Act.put _ (some 14) _ = _
          simp only [Act.put, List.setIfInBounds_toArray, List.set_cons_zero, List.set_cons_succ, i64_w, i32_w]; rfl
         refine pure_ (i := 2) (N := some 15) (v := ?_) (a' := ?_) #[true, true, true, false, false, false, false, false, false, false, false, false, false] rfl rfl (any_of HT_.out (by kernel_rfl)) (fun _ _ _ h => h) (Or.inl ⟨by rfl, ?_⟩) ?_ ?_; rotate_left
         ·intro w'; go_simp; with_reducible rfl
         rotate_left
         ·simp only [Act.put, List.setIfInBounds_toArray, List.set_cons_zero, List.set_cons_succ, i64_w, i32_w]; rfl
         refine pure_ (i := 3) (N := some 16) (v := ?_) (a' := ?_) #[true, true, true, true, false, false, false, false, false, false, false, false, false] rfl rfl (any_of HT_.out (by kernel_rfl)) (fun _ _ _ h => h) (Or.inl ⟨by rfl, ?_⟩) ?_ ?_; rotate_left
         ·intro w'; go_simp; with_reducible rfl
         rotate_left
         ·simp only [Act.put, List.setIfInBounds_toArray, List.set_cons_zero, List.set_cons_succ, i64_w, i32_w]; rfl
         refine pure_ (i := 4) (N := some 17) (v := ?_) (a' := ?_) #[true, true, true, true, true, false, false, false, false, false, false, false, false] rfl rfl (any_of HT_.out (by kernel_rfl)) (fun _ _ _ h => h) (Or.inl ⟨by rfl, ?_⟩) ?_ ?_; rotate_left
         ·intro w'; go_simp; with_reducible rfl
         rotate_left
         ·simp only [Act.put, List.setIfInBounds_toArray, List.set_cons_zero, List.set_cons_succ, i64_w, i32_w]; rfl
         refine pure_ (i := 6) (N := some 19) (v := ?_) (a' := ?_) #[true, true, true, true, true, false, true, false, false, false, false, false, false] rfl rfl (any_of HT_.out (by kernel_rfl)) (fun _ _ _ h => h) (Or.inl ⟨by rfl, ?_⟩) ?_ ?_; rotate_left
         ·intro w'; go_simp; with_reducible rfl
         rotate_left
         ·simp only [Act.put, List.setIfInBounds_toArray, List.set_cons_zero, List.set_cons_succ, i64_w, i32_w]; rfl
         refine pure_ (i := 8) (N := some 21) (v := ?_) (a' := ?_) #[true, true, true, true, true, false, true, false, true, false, false, false, false] rfl rfl (any_of HT_.out (by kernel_rfl)) (fun _ _ _ h => h) (Or.inl ⟨by rfl, ?_⟩) ?_ ?_; rotate_left
         ·intro w'; go_simp; with_reducible rfl
         rotate_left
         ·simp only [Act.put, List.setIfInBounds_toArray, List.set_cons_zero, List.set_cons_succ, i64_w, i32_w]; rfl
         refine take_ (i := 5) (N := some 18) (v := ?_) (a' := ?_) #[true, true, true, true, true, true, true, false, true, false, false, false, false] rfl rfl (take_ofW HT_.out HW_.out (by kernel_rfl)) (fun _ _ _ h => h) (Or.inl ⟨by rfl, ?_⟩) hHeld ?_ ?_; rotate_left
         ·rintro w' ⟨s0, s1, s2, s3⟩; go_simp; with_reducible rfl
         rotate_left
         ·simp only [Act.put, List.setIfInBounds_toArray, List.set_cons_zero, List.set_cons_succ, i64_w, i32_w]; rfl
         refine pure_ (i := 7) (N := some 20) (v := ?_) (a' := ?_) #[true, true, true, true, true, true, true, true, true, false, false, false, false] rfl rfl (any_of HT_.out (by kernel_rfl)) (fun _ _ _ h => h) (Or.inl ⟨by rfl, ?_⟩) ?_ ?_; rotate_left
         ·intro w'; go_simp; with_reducible rfl
         rotate_left
         ·simp only [Act.put, List.setIfInBounds_toArray, List.set_cons_zero, List.set_cons_succ, i64_w, i32_w]; rfl
         refine take_ (i := 9) (N := some 22) (v := ?_) (a' := ?_) #[true, true, true, true, true, true, true, true, true, true, false, false, false] rfl rfl (take_ofW HT_.out HW_.out (by kernel_rfl)) (fun _ _ _ h => h) (Or.inl ⟨by rfl, ?_⟩) hHeld ?_ ?_; rotate_left
         ·rintro w' ⟨s0, s1, s2, s3⟩; go_simp; with_reducible rfl
         rotate_left
         ·simp only [Act.put, List.setIfInBounds_toArray, List.set_cons_zero, List.set_cons_succ, i64_w, i32_w]; rfl
         refine one_ (i := 10) (N := some 23) #[true, true, true, true, true, true, true, true, true, true, true, false, false] rfl rfl (one_of HT_.out (by kernel_rfl)) (by decide) (fun K hK => ?_); refine goes_ Try.func123 (by kernel_rfl) rfl #[.slice (some ad1111) y1114.length c0_1, .string ((rd_T130 l0_1 x8_1).f0)] (by rfl) rfl rfl zl ?_; with_reducible refine (impl_pairAt.calls _ _ y1114 ((rd_T130 l0_1 x8_1).f0) t1118 _ ?side1 ?side2 A11.out).mono ?_
         (case side1 => repeat (first | exact (Kd.C_below HR1117.out HB.out) | (with_reducible refine Kd.C_alloc ?_ _) | (with_reducible refine Kd.C_drewN ?_ _) | (with_reducible refine Kd.C_drew ?_)))
         (case side2 => exact HC1117.out)
         rintro e w28 ⟨rfl, hb⟩; refine ⟨_, rfl, ?_⟩; replace BK1109 := Aside0.mk (blk_below (g := gb1109) (o := .cells #[.slice A0_0 l0_0.length c0_0, .slice (some ad1111) l0_1.length c0_1] 70 (0, 0)) (zb BK1109) hb); replace BK1112 := Aside0.mk (blk_below (g := gb1112) (o := .cells #[.string ((rd_T130 l0_1 x8_1).f0), .int .i64 ((rd_T130 l0_1 x8_1).f1)] 130 (0, 0)) (zb BK1112) hb); replace HB := Aside0.mk (below_step (zB HB) hb); (try clear hb); (try clear hb2); (try clear hk); (try clear hi); refine hK.out _ _ ⟨(blk_cell BK1112.out 0).trans rfl, (blk_cell BK1112.out 1).trans rfl, (blk_cell BK1109.out 0).trans rfl, (blk_cell BK1109.out 1).trans rfl⟩ (fun hHeld => ?_); clear hK K; refine norm_ (a' := ?_) ?_ ?_; rotate_left
         ·show Act.put _ (some 23) _ = _
          simp only [Act.put, List.setIfInBounds_toArray, List.set_cons_zero, List.set_cons_succ, i64_w, i32_w]; rfl
         refine pure_ (i := 11) (N := some 24) (v := ?_) (a' := ?_) #[true, true, true, true, true, true, true, true, true, true, true, true, false] rfl rfl (any_of HT_.out (by kernel_rfl)) (fun _ _ _ h => h) (Or.inl ⟨by rfl, ?_⟩) ?_ ?_; rotate_left
         ·intro w'; go_simp; with_reducible rfl
         rotate_left
         ·simp only [Act.put, List.setIfInBounds_toArray, List.set_cons_zero, List.set_cons_succ, i64_w, i32_w]; rfl
         refine pure_ (i := 12) (N := some 25) (v := ?_) (a' := ?_) #[true, true, true, true, true, true, true, true, true, true, true, true, true] rfl rfl (any_of HT_.out (by kernel_rfl)) (fun _ _ _ h => h) (Or.inl ⟨by rfl, ?_⟩) ?_ ?_; rotate_left
         ·intro w'; go_simp; with_reducible rfl
         rotate_left
         ·simp only [Act.put, List.setIfInBounds_toArray, List.set_cons_zero, List.set_cons_succ, i64_w, i32_w]; rfl
         refine done_ (done_of HT_.out (by kernel_rfl)) ?_
         try go_wp2
         go_roundg k1
         case measure => have := HK1.out; omega
         case rel => exact ⟨(wrap64 (x8_1 + 1)), zr, H', ⟨by have := HK1.out; omega⟩, ⟨zb BK1109⟩, ⟨zB HB⟩⟩
       ·rw [if_neg c10] at H; exact absurd H (by simp)
      ·replace c8 := Bool.eq_false_iff.mpr c8; subst c8; rw [if_neg (show ¬ (false = true) by decide)] at H; obtain rfl := Option.some.inj H; have p1111 : 0 ≤ (x8_1 : Int) := of_decide_eq_true za; have q1111 : x8_1 < (l0_1.length : Int) := of_decide_eq_true za; obtain ⟨ad1111, e1111, hx1111_0, hx1111_1⟩ := at_T130 HR0_1.out x8_1 p1111 q1111
       cases e1111
       replace hx1111_0 := (HB.out.cell (World.block_lt_of_cell? w _ hx1111_0)).trans hx1111_0; replace hx1111_1 := (HB.out.cell (World.block_lt_of_cell? w _ hx1111_1)).trans hx1111_1; replace p1111 := eq_true p1111; replace q1111 := eq_true q1111
       try go_wp2_with (first | ((with_reducible refine gate_dst (N := 4) rfl ?_); refine zx (N := 4) (cs := #[.string (⟨#[]⟩ : ByteArray), .int .i64 0]) (t := 130) ?_; intro gb1112 hg w29 hbox hb; have BK1112 := Aside0.mk (hbox); have GW1112 := Aside0.mk ((by rw [hg]; exact (below_size (zB HB)) : w.heap.size ≤ gb1112)); have GE1112 := GW1112; replace HB := Aside0.mk (below_step (zB HB) hb); have NB1109_1112 := Aside0.mk ((by rw [hg]; exact Nat.ne_of_lt (blk_lt (g := gb1109) (o := .cells #[.slice A0_0 l0_0.length c0_0, .slice (some ad1111) l0_1.length c0_1] 70 (0, 0)) (zb BK1109)) : gb1109 ≠ gb1112)); have NB1112_1109 := Aside0.mk NB1109_1112.out.symm; replace BK1109 := Aside0.mk (blk_below (g := gb1109) (o := .cells #[.slice A0_0 l0_0.length c0_0, .slice (some ad1111) l0_1.length c0_1] 70 (0, 0)) (zb BK1109) hb); clear hb hbox hg; have hnb30 := NB1112_1109.out; have hnc30 := NB1109_1112.out; have hcz31_0 : w29.cell? ⟨gb1112, 0, none⟩ = some (.string (⟨#[]⟩ : ByteArray)) := (blk_cell BK1112.out 0).trans rfl; have hcz31_1 : w29.cell? ⟨gb1112, 1, none⟩ = some (.int .i64 0) := (blk_cell BK1112.out 1).trans rfl; have hfz31_0 := blk_frozen BK1112.out 0; have hfz31_1 := blk_frozen BK1112.out 1))
       have n0_ : Aside0 (((w29.setCell ⟨gb1112, 0, none⟩ (.string ((rd_T130 l0_1 x8_1).f0))).setCell ⟨gb1112, 1, none⟩ (.int .i64 ((rd_T130 l0_1 x8_1).f1))).heap[gb1109]? = some (.cells #[.slice A0_0 l0_0.length c0_0, .slice (some ad1111) l0_1.length c0_1] 70 (0, 0))) := ⟨zf BK1109⟩
       have n1_ : Aside0 (((w29.setCell ⟨gb1112, 0, none⟩ (.string ((rd_T130 l0_1 x8_1).f0))).setCell ⟨gb1112, 1, none⟩ (.int .i64 ((rd_T130 l0_1 x8_1).f1))).heap[gb1112]? = some (.cells #[.string ((rd_T130 l0_1 x8_1).f0), .int .i64 ((rd_T130 l0_1 x8_1).f1)] 130 (0, 0))) := ⟨by (with_reducible repeat (first | refine blk_drewN ?_ _ | refine blk_drew ?_ | refine blk_alloc ?_ _)); refine blk_put (cs := #[.string ((rd_T130 l0_1 x8_1).f0), .int .i64 0]) ?_ 1 _ rfl; (with_reducible repeat (first | refine blk_drewN ?_ _ | refine blk_drew ?_ | refine blk_alloc ?_ _)); refine blk_put (cs := #[.string (⟨#[]⟩ : ByteArray), .int .i64 0]) ?_ 0 _ rfl; (with_reducible repeat (first | refine blk_drewN ?_ _ | refine blk_drew ?_ | refine blk_alloc ?_ _)); exact BK1112.out⟩
       have n2_ : Aside0 (Below w.heap.size w ((w29.setCell ⟨gb1112, 0, none⟩ (.string ((rd_T130 l0_1 x8_1).f0))).setCell ⟨gb1112, 1, none⟩ (.int .i64 ((rd_T130 l0_1 x8_1).f1)))) := ⟨zB HB⟩
       (try clear BK1109); (try clear BK1112); (try clear HB); generalize ((w29.setCell ⟨gb1112, 0, none⟩ (.string ((rd_T130 l0_1 x8_1).f0))).setCell ⟨gb1112, 1, none⟩ (.int .i64 ((rd_T130 l0_1 x8_1).f1))) = w32 at n0_ n1_ n2_ ⊢; have BK1109 := n0_; have BK1112 := n1_; have HB := n2_; clear n0_ n1_ n2_; replace BK1109 := Aside0.mk (blk_drew BK1109.out); replace BK1112 := Aside0.mk (blk_drew BK1112.out); replace HB := Aside0.mk (below_drew1 HB.out); refine start_ (n := 13) (S := fun w' => w'.cell? ⟨gb1112, 0, none⟩ = some (.string ((rd_T130 l0_1 x8_1).f0)) ∧ w'.cell? ⟨gb1112, 1, none⟩ = some (.int .i64 ((rd_T130 l0_1 x8_1).f1))) (ds := []) #[false, false, false, false, false, false, false, false, false, false, false, false, false] (by kernel_rfl) rfl rfl ⟨(blk_cell BK1112.out 0).trans rfl, (blk_cell BK1112.out 1).trans rfl⟩ (fun hHeld => ?_); refine with_tabW impl_ValidFlat.tab4 impl_ValidFlat.bits4 (fun HT_ HW_ => ?_); generalize w32.drew = w33 at BK1109 BK1112 HB hHeld ⊢; refine take_ (i := 0) (N := some 13) (v := ?_) (a' := ?_) #[true, false, false, false, false, false, false, false, false, false, false, false, false] rfl rfl (take_ofW HT_.out HW_.out (by kernel_rfl)) (fun _ _ _ h => h) (Or.inl ⟨by rfl, ?_⟩) hHeld ?_ ?_; rotate_left
       ·rintro w' ⟨s0, s1⟩; go_simp; with_reducible rfl
       rotate_left
       ·simp only [Act.put, List.setIfInBounds_toArray, List.set_cons_zero, List.set_cons_succ, i64_w, i32_w]; rfl
       refine one_ (i := 1) (N := some 14) #[true, true, false, false, false, false, false, false, false, false, false, false, false] rfl rfl (one_of HT_.out (by kernel_rfl)) (by decide) (fun K hK => ?_); refine goes_ Try.func124 (by kernel_rfl) rfl #[.agg #[.string ((rd_T130 l0_1 x8_1).f0), .int .i64 ((rd_T130 l0_1 x8_1).f1)]] (by rfl) rfl rfl zl ?_; with_reducible refine (impl_Pair_valid.calls k1 ((rd_T130 l0_1 x8_1).f0) ((rd_T130 l0_1 x8_1).f1) false _ A7.out).mono ?_; rintro e w34 ⟨rfl, hb⟩; refine ⟨_, rfl, ?_⟩; replace BK1109 := Aside0.mk (blk_below (g := gb1109) (o := .cells #[.slice A0_0 l0_0.length c0_0, .slice (some ad1111) l0_1.length c0_1] 70 (0, 0)) (zb BK1109) hb); replace BK1112 := Aside0.mk (blk_below (g := gb1112) (o := .cells #[.string ((rd_T130 l0_1 x8_1).f0), .int .i64 ((rd_T130 l0_1 x8_1).f1)] 130 (0, 0)) (zb BK1112) hb); replace HB := Aside0.mk (below_step (zB HB) hb); (try clear hb); (try clear hb2); (try clear hk); (try clear hi); refine hK.out _ _ ⟨(blk_cell BK1112.out 0).trans rfl, (blk_cell BK1112.out 1).trans rfl⟩ (fun hHeld => ?_); clear hK K; refine norm_ (a' := ?_) ?_ ?_; rotate_left
       ·show Act.put _ (some 14) _ = _
        simp only [Act.put, List.setIfInBounds_toArray, List.set_cons_zero, List.set_cons_succ, i64_w, i32_w]; rfl
       refine pure_ (i := 2) (N := some 15) (v := ?_) (a' := ?_) #[true, true, true, false, false, false, false, false, false, false, false, false, false] rfl rfl (any_of HT_.out (by kernel_rfl)) (fun _ _ _ h => h) (Or.inl ⟨by rfl, ?_⟩) ?_ ?_; rotate_left
       ·intro w'; go_simp; with_reducible rfl
       rotate_left
       ·simp only [Act.put, List.setIfInBounds_toArray, List.set_cons_zero, List.set_cons_succ, i64_w, i32_w]; rfl
       refine pure_ (i := 3) (N := some 16) (v := ?_) (a' := ?_) #[true, true, true, true, false, false, false, false, false, false, false, false, false] rfl rfl (any_of HT_.out (by kernel_rfl)) (fun _ _ _ h => h) (Or.inl ⟨by rfl, ?_⟩) ?_ ?_; rotate_left
       ·intro w'; go_simp; with_reducible rfl
       rotate_left
       ·simp only [Act.put, List.setIfInBounds_toArray, List.set_cons_zero, List.set_cons_succ, i64_w, i32_w]; rfl
       refine pure_ (i := 4) (N := some 17) (v := undef) (a' := ?_) #[true, true, true, true, true, false, false, false, false, false, false, false, false] rfl rfl (any_of HT_.out (by kernel_rfl)) (fun _ _ _ h => h) (Or.inr ⟨by rfl, rfl⟩) ?_ ?_; rotate_left
       ·simp only [Act.put, List.setIfInBounds_toArray, List.set_cons_zero, List.set_cons_succ, i64_w, i32_w]; rfl
       refine pure_ (i := 5) (N := some 18) (v := undef) (a' := ?_) #[true, true, true, true, true, true, false, false, false, false, false, false, false] rfl rfl (any_of HT_.out (by kernel_rfl)) (fun _ _ _ h => h) (Or.inr ⟨by rfl, rfl⟩) ?_ ?_; rotate_left
       ·simp only [Act.put, List.setIfInBounds_toArray, List.set_cons_zero, List.set_cons_succ, i64_w, i32_w]; rfl
       refine pure_ (i := 6) (N := some 19) (v := undef) (a' := ?_) #[true, true, true, true, true, true, true, false, false, false, false, false, false] rfl rfl (any_of HT_.out (by kernel_rfl)) (fun _ _ _ h => h) (Or.inr ⟨by rfl, rfl⟩) ?_ ?_; rotate_left
       ·simp only [Act.put, List.setIfInBounds_toArray, List.set_cons_zero, List.set_cons_succ, i64_w, i32_w]; rfl
       refine pure_ (i := 7) (N := some 20) (v := undef) (a' := ?_) #[true, true, true, true, true, true, true, true, false, false, false, false, false] rfl rfl (any_of HT_.out (by kernel_rfl)) (fun _ _ _ h => h) (Or.inr ⟨by rfl, rfl⟩) ?_ ?_; rotate_left
       ·simp only [Act.put, List.setIfInBounds_toArray, List.set_cons_zero, List.set_cons_succ, i64_w, i32_w]; rfl
       refine pure_ (i := 8) (N := some 21) (v := undef) (a' := ?_) #[true, true, true, true, true, true, true, true, true, false, false, false, false] rfl rfl (any_of HT_.out (by kernel_rfl)) (fun _ _ _ h => h) (Or.inr ⟨by rfl, rfl⟩) ?_ ?_; rotate_left
       ·simp only [Act.put, List.setIfInBounds_toArray, List.set_cons_zero, List.set_cons_succ, i64_w, i32_w]; rfl
       refine pure_ (i := 9) (N := some 22) (v := undef) (a' := ?_) #[true, true, true, true, true, true, true, true, true, true, false, false, false] rfl rfl (any_of HT_.out (by kernel_rfl)) (fun _ _ _ h => h) (Or.inr ⟨by rfl, rfl⟩) ?_ ?_; rotate_left
       ·simp only [Act.put, List.setIfInBounds_toArray, List.set_cons_zero, List.set_cons_succ, i64_w, i32_w]; rfl
       refine pure_ (i := 10) (N := some 23) (v := undef) (a' := ?_) #[true, true, true, true, true, true, true, true, true, true, true, false, false] rfl rfl (any_of HT_.out (by kernel_rfl)) (fun _ _ _ h => h) (Or.inr ⟨by rfl, rfl⟩) ?_ ?_; rotate_left
       ·simp only [Act.put, List.setIfInBounds_toArray, List.set_cons_zero, List.set_cons_succ, i64_w, i32_w]; rfl
       refine pure_ (i := 11) (N := some 24) (v := undef) (a' := ?_) #[true, true, true, true, true, true, true, true, true, true, true, true, false] rfl rfl (any_of HT_.out (by kernel_rfl)) (fun _ _ _ h => h) (Or.inr ⟨by rfl, rfl⟩) ?_ ?_; rotate_left
       ·simp only [Act.put, List.setIfInBounds_toArray, List.set_cons_zero, List.set_cons_succ, i64_w, i32_w]; rfl
       refine pure_ (i := 12) (N := some 25) (v := ?_) (a' := ?_) #[true, true, true, true, true, true, true, true, true, true, true, true, true] rfl rfl (any_of HT_.out (by kernel_rfl)) (fun _ _ _ h => h) (Or.inl ⟨by rfl, ?_⟩) ?_ ?_; rotate_left
       ·intro w'; go_simp; with_reducible rfl
       rotate_left
       ·simp only [Act.put, List.setIfInBounds_toArray, List.set_cons_zero, List.set_cons_succ, i64_w, i32_w]; rfl
       refine done_ (done_of HT_.out (by kernel_rfl)) ?_
       try go_wp2
       go_ret; exact ⟨by first | rfl | (simp [errW_none, errW_some] <;> rfl) | (simp [*, errW_none, errW_some] <;> rfl), zB HB⟩
     ·rw [if_neg c6] at H; exact absurd H (by simp)
    ·rw [if_neg c5] at H; exact absurd H (by simp)
   ·rw [if_neg c4] at H; have c4b0 : decide (x8_1 < (l0_1.length : Int)) = false := decide_eq_false c4; clear c4
    by_cases c35 : (l0_0.length : Int) ≤ 8
    ·rw [if_pos c35] at H; have c35b0 : decide ((l0_0.length : Int) ≤ 8) = true := decide_eq_true c35; have c35b1 : decide (l0_0.length ≤ 8) = true := decide_eq_true (by omega); clear c35
     by_cases c36 : (l0_1.length : Int) ≤ 8
     ·rw [if_pos c36] at H; have c36b0 : decide ((l0_1.length : Int) ≤ 8) = true := decide_eq_true c36; have c36b1 : decide (l0_1.length ≤ 8) = true := decide_eq_true (by omega); clear c36; replace H := Option.bind_eq_some_iff.mp H; obtain ⟨t1110, A370, H⟩ := H
      (try dsimp only at H)
      have A37 := Aside0.mk A370; clear A370; obtain rfl := Option.some.inj H; have hcz38_0 : wr.cell? ⟨gb1109, 0, none⟩ = some (.slice A0_0 l0_0.length c0_0) := (blk_cell BK1109.out 0).trans rfl; have hcz38_1 : wr.cell? ⟨gb1109, 1, none⟩ = some (.slice A0_1 l0_1.length c0_1) := (blk_cell BK1109.out 1).trans rfl; have hfz38_0 := blk_frozen BK1109.out 0; have hfz38_1 := blk_frozen BK1109.out 1; go_wp2_with (first | (go_at_call 125; (with_reducible refine (impl_areValues.calls _ _ l0_0 t1110 _ ?side1 ?side2 A37.out).mono ?_); (case side1 => repeat (first | exact (Kd.C_below HR0_0.out HB.out) | (with_reducible refine Kd.C_alloc ?_ _) | (with_reducible refine Kd.C_drewN ?_ _) | (with_reducible refine Kd.C_drew ?_))); (case side2 => exact HC0_0.out); rintro e w39 ⟨rfl, hb⟩; replace BK1109 := Aside0.mk (blk_below (g := gb1109) (o := .cells #[.slice A0_0 l0_0.length c0_0, .slice A0_1 l0_1.length c0_1] 70 (0, 0)) (zb BK1109) hb); replace HB := Aside0.mk (below_step (zB HB) hb); (try clear hb); (try clear hb2); (try clear hk); (try clear hi))); go_ret; exact ⟨by first | rfl | (simp [errW_none, errW_some] <;> rfl) | (simp [*, errW_none, errW_some] <;> rfl), zB HB⟩
     ·rw [if_neg c36] at H; have c36b0 : decide ((l0_1.length : Int) ≤ 8) = false := decide_eq_false c36; have c36b1 : decide (l0_1.length ≤ 8) = false := decide_eq_false (by omega); clear c36; obtain rfl := Option.some.inj H; have hcz40_0 : wr.cell? ⟨gb1109, 0, none⟩ = some (.slice A0_0 l0_0.length c0_0) := (blk_cell BK1109.out 0).trans rfl; have hcz40_1 : wr.cell? ⟨gb1109, 1, none⟩ = some (.slice A0_1 l0_1.length c0_1) := (blk_cell BK1109.out 1).trans rfl; have hfz40_0 := blk_frozen BK1109.out 0; have hfz40_1 := blk_frozen BK1109.out 1; go_wp2; go_ret; exact ⟨by first | rfl | (simp [errW_none, errW_some] <;> rfl) | (simp [*, errW_none, errW_some] <;> rfl), zB HB⟩
    ·rw [if_neg c35] at H; have c35b0 : decide ((l0_0.length : Int) ≤ 8) = false := decide_eq_false c35; have c35b1 : decide (l0_0.length ≤ 8) = false := decide_eq_false (by omega); clear c35; obtain rfl := Option.some.inj H; have hcz41_0 : wr.cell? ⟨gb1109, 0, none⟩ = some (.slice A0_0 l0_0.length c0_0) := (blk_cell BK1109.out 0).trans rfl; have hcz41_1 : wr.cell? ⟨gb1109, 1, none⟩ = some (.slice A0_1 l0_1.length c0_1) := (blk_cell BK1109.out 1).trans rfl; have hfz41_0 := blk_frozen BK1109.out 0; have hfz41_1 := blk_frozen BK1109.out 1; go_wp2; go_ret; exact ⟨by first | rfl | (simp [errW_none, errW_some] <;> rfl) | (simp [*, errW_none, errW_some] <;> rfl), zB HB⟩

end Go.Proofs.Ytlpmggokgcphiaa.Q

namespace Go.Proofs.Ytlpmggokgcphiaa.Q
open Go.RowKit Go.Proofs.YtlpmggokgcphiaaL.PrintWords Go.Proofs.YtlpmggokgcphiaaL.PrintLast Go.Proofs.YtlpmggokgcphiaaL.PrintMore
attribute [local go_sem] max2_int min2_int max_two min_two max_three min_three max_four min_four   -- for this text's walks alone
set_option linter.unusedVariables false
set_option linter.unusedSimpArgs false

/-! ### impl_fit: function 92 -/
def impl_fit.f (k : Nat) (l0_0 : List (S33)) (l1_0 : List Int) (l1_1 : List (S130)) : Option (Bool) := (impl_ValidSignature.f k l0_0).bind fun t1121 => (if t1121 = true then ((impl_ValidFlat.f k l1_0 l1_1).bind fun t1122 => (some t1122)) else (some false))
theorem impl_fit.mono : ∀ a0 a1 a2 k, LeO (impl_fit.f k a0 a1 a2) (impl_fit.f (k + 1) a0 a1 a2) := by
 intro a0 a1 a2 k; unfold impl_fit.f
 repeat' first
   | (with_reducible exact impl_ValidFlat.mono _ _ _)
   | (with_reducible exact impl_ValidSignature.mono _ _)
   | (with_reducible exact LeO.refl _)
   | (with_reducible exact LeO.none _)
   | (with_reducible refine LeO.ite ?_ ?_)
   | (with_reducible refine LeO.bind ?_ (fun _ => ?_))
   | exact impl_ValidFlat.mono _ _ _
   | exact impl_ValidSignature.mono _ _
   | exact LeO.none _
   | refine LeO.ite ?_ ?_
   | refine LeO.bind ?_ (fun _ => ?_)
set_option maxHeartbeats 8000000 in
set_option maxRecDepth 100000 in
theorem impl_fit.calls (k : Nat) (A0_0 : Option Addr) (c0_0 : Nat) (l0_0 : List (S33)) (A1_0 : Option Addr) (c1_0 : Nat) (l1_0 : List Int) (A1_1 : Option Addr) (c1_1 : Nat) (l1_1 : List (S130)) (r : Bool) (w : World) (hr0_0 : Kd.C k33 w A0_0 l0_0.length l0_0) (hc0_0 : l0_0.length ≤ c0_0) (hr1_0 : Kd.C (Kd.int .i64) w A1_0 l1_0.length l1_0) (hc1_0 : l1_0.length ≤ c1_0) (hr1_1 : Kd.C k130 w A1_1 l1_1.length l1_1) (hc1_1 : l1_1.length ≤ c1_1) (h : impl_fit.f k l0_0 l1_0 l1_1 = some r) :
  Calls Try.prog 92 #[.agg #[.slice A0_0 l0_0.length c0_0], .agg #[.slice A1_0 l1_0.length c1_0, .slice A1_1 l1_1.length c1_1]] w fun e w' => e = .returned (.bool r) ∧ Below w.heap.size w w' := by
 have hu25 := Try.underlying25; have hu70 := Try.underlying70; have HR0_0 := Aside0.mk hr0_0; have HC0_0 := Aside0.mk hc0_0; clear hr0_0 hc0_0; have HR1_0 := Aside0.mk hr1_0; have HC1_0 := Aside0.mk hc1_0; clear hr1_0 hc1_0; have HR1_1 := Aside0.mk hr1_1; have HC1_1 := Aside0.mk hc1_1; clear hr1_1 hc1_1; have HB := Aside0.mk (Below.refl w.heap.size w); have H : ((impl_ValidSignature.f k l0_0).bind fun t1121 => (if t1121 = true then ((impl_ValidFlat.f k l1_0 l1_1).bind fun t1122 => (some t1122)) else (some false))) = some r := h; clear h; replace H := Option.bind_eq_some_iff.mp H; obtain ⟨t1121, A30, H⟩ := H
 (try dsimp only at H)
 have A3 := Aside0.mk A30; clear A30
 by_cases c4 : t1121 = true
 ·subst c4; rw [if_pos rfl] at H; replace H := Option.bind_eq_some_iff.mp H; obtain ⟨t1122, A50, H⟩ := H
  (try dsimp only at H)
  have A5 := Aside0.mk A50; clear A50; obtain rfl := Option.some.inj H; go_enter Try.func92, Try.ntmps92; go_wp2_with (first | ((with_reducible refine gate_dst (N := 2) rfl ?_); refine zx (N := 2) (cs := #[.slice A0_0 l0_0.length c0_0]) (t := 25) ?_; intro gb1119 hg w6 hbox hb; have BK1119 := Aside0.mk (hbox); have GW1119 := Aside0.mk ((by rw [hg]; exact (below_size (zB HB)) : w.heap.size ≤ gb1119)); have GE1119 := GW1119; replace HB := Aside0.mk (below_step (zB HB) hb); clear hb hbox hg) | ((with_reducible refine gate_dst (N := 3) rfl ?_); refine zx (N := 3) (cs := #[.slice A1_0 l1_0.length c1_0, .slice A1_1 l1_1.length c1_1]) (t := 70) ?_; intro gb1120 hg w7 hbox hb; have BK1120 := Aside0.mk (hbox); have GW1120 := Aside0.mk ((by rw [hg]; exact (below_size (zB HB)) : w.heap.size ≤ gb1120)); have GE1120 := GW1120; replace HB := Aside0.mk (below_step (zB HB) hb); have NB1119_1120 := Aside0.mk ((by rw [hg]; exact Nat.ne_of_lt (blk_lt (g := gb1119) (o := .cells #[.slice A0_0 l0_0.length c0_0] 25 (0, 0)) (zb BK1119)) : gb1119 ≠ gb1120)); have NB1120_1119 := Aside0.mk NB1119_1120.out.symm; replace BK1119 := Aside0.mk (blk_below (g := gb1119) (o := .cells #[.slice A0_0 l0_0.length c0_0] 25 (0, 0)) (zb BK1119) hb); clear hb hbox hg; have hnb8 := NB1119_1120.out; have hnc8 := NB1120_1119.out; have hcz9_0 : w7.cell? ⟨gb1119, 0, none⟩ = some (.slice A0_0 l0_0.length c0_0) := (blk_cell BK1119.out 0).trans rfl; have hfz9_0 := blk_frozen BK1119.out 0) | ((with_reducible refine gate_callee (f := 20) rfl ?_); refine goesL_ (some 6) rfl rfl Try.func20 (by kernel_rfl) rfl #[.agg #[.slice A0_0 l0_0.length c0_0]] rfl zl ?_; (with_reducible refine (impl_ValidSignature.calls k _ _ l0_0 true _ ?side1 ?side2 A3.out).mono ?_); (case side1 => repeat (first | exact (Kd.C_below HR0_0.out HB.out) | (with_reducible refine Kd.C_alloc ?_ _) | (with_reducible refine Kd.C_drewN ?_ _) | (with_reducible refine Kd.C_drew ?_))); (case side2 => exact HC0_0.out); rintro e w10 ⟨rfl, hb⟩; refine ⟨_, rfl, ?_⟩; replace BK1119 := Aside0.mk (blk_below (g := gb1119) (o := .cells #[.slice A0_0 l0_0.length c0_0] 25 (0, 0)) (zb BK1119) hb); replace BK1120 := Aside0.mk (blk_below (g := gb1120) (o := .cells #[.slice A1_0 l1_0.length c1_0, .slice A1_1 l1_1.length c1_1] 70 (0, 0)) (zb BK1120) hb); replace HB := Aside0.mk (below_step (zB HB) hb); (try clear hb); (try clear hb2); (try clear hk); (try clear hi); have hcz11_0 : w10.cell? ⟨gb1120, 0, none⟩ = some (.slice A1_0 l1_0.length c1_0) := (blk_cell BK1120.out 0).trans rfl; have hcz11_1 : w10.cell? ⟨gb1120, 1, none⟩ = some (.slice A1_1 l1_1.length c1_1) := (blk_cell BK1120.out 1).trans rfl; have hfz11_0 := blk_frozen BK1120.out 0; have hfz11_1 := blk_frozen BK1120.out 1) | (go_at_call 99; (with_reducible refine (impl_ValidFlat.calls k _ _ l1_0 _ _ l1_1 t1122 _ ?side1 ?side2 ?side3 ?side4 A5.out).mono ?_); (case side1 => repeat (first | exact (Kd.C_below HR1_0.out HB.out) | (with_reducible refine Kd.C_alloc ?_ _) | (with_reducible refine Kd.C_drewN ?_ _) | (with_reducible refine Kd.C_drew ?_))); (case side2 => exact HC1_0.out); (case side3 => repeat (first | exact (Kd.C_below HR1_1.out HB.out) | (with_reducible refine Kd.C_alloc ?_ _) | (with_reducible refine Kd.C_drewN ?_ _) | (with_reducible refine Kd.C_drew ?_))); (case side4 => exact HC1_1.out); rintro e w12 ⟨rfl, hb⟩; replace BK1119 := Aside0.mk (blk_below (g := gb1119) (o := .cells #[.slice A0_0 l0_0.length c0_0] 25 (0, 0)) (zb BK1119) hb); replace BK1120 := Aside0.mk (blk_below (g := gb1120) (o := .cells #[.slice A1_0 l1_0.length c1_0, .slice A1_1 l1_1.length c1_1] 70 (0, 0)) (zb BK1120) hb); replace HB := Aside0.mk (below_step (zB HB) hb); (try clear hb); (try clear hb2); (try clear hk); (try clear hi))); go_ret; exact ⟨by first | rfl | (simp [errW_none, errW_some] <;> rfl) | (simp [*, errW_none, errW_some] <;> rfl), zB HB⟩
 ·replace c4 := Bool.eq_false_iff.mpr c4; subst c4; rw [if_neg (show ¬ (false = true) by decide)] at H; obtain rfl := Option.some.inj H; go_enter Try.func92, Try.ntmps92; go_wp2_with (first | ((with_reducible refine gate_dst (N := 2) rfl ?_); refine zx (N := 2) (cs := #[.slice A0_0 l0_0.length c0_0]) (t := 25) ?_; intro gb1119 hg w13 hbox hb; have BK1119 := Aside0.mk (hbox); have GW1119 := Aside0.mk ((by rw [hg]; exact (below_size (zB HB)) : w.heap.size ≤ gb1119)); have GE1119 := GW1119; replace HB := Aside0.mk (below_step (zB HB) hb); clear hb hbox hg) | ((with_reducible refine gate_dst (N := 3) rfl ?_); refine zx (N := 3) (cs := #[.slice A1_0 l1_0.length c1_0, .slice A1_1 l1_1.length c1_1]) (t := 70) ?_; intro gb1120 hg w14 hbox hb; have BK1120 := Aside0.mk (hbox); have GW1120 := Aside0.mk ((by rw [hg]; exact (below_size (zB HB)) : w.heap.size ≤ gb1120)); have GE1120 := GW1120; replace HB := Aside0.mk (below_step (zB HB) hb); have NB1119_1120 := Aside0.mk ((by rw [hg]; exact Nat.ne_of_lt (blk_lt (g := gb1119) (o := .cells #[.slice A0_0 l0_0.length c0_0] 25 (0, 0)) (zb BK1119)) : gb1119 ≠ gb1120)); have NB1120_1119 := Aside0.mk NB1119_1120.out.symm; replace BK1119 := Aside0.mk (blk_below (g := gb1119) (o := .cells #[.slice A0_0 l0_0.length c0_0] 25 (0, 0)) (zb BK1119) hb); clear hb hbox hg; have hnb15 := NB1119_1120.out; have hnc15 := NB1120_1119.out; have hcz16_0 : w14.cell? ⟨gb1119, 0, none⟩ = some (.slice A0_0 l0_0.length c0_0) := (blk_cell BK1119.out 0).trans rfl; have hfz16_0 := blk_frozen BK1119.out 0) | ((with_reducible refine gate_callee (f := 20) rfl ?_); refine goesL_ (some 6) rfl rfl Try.func20 (by kernel_rfl) rfl #[.agg #[.slice A0_0 l0_0.length c0_0]] rfl zl ?_; (with_reducible refine (impl_ValidSignature.calls k _ _ l0_0 false _ ?side1 ?side2 A3.out).mono ?_); (case side1 => repeat (first | exact (Kd.C_below HR0_0.out HB.out) | (with_reducible refine Kd.C_alloc ?_ _) | (with_reducible refine Kd.C_drewN ?_ _) | (with_reducible refine Kd.C_drew ?_))); (case side2 => exact HC0_0.out); rintro e w17 ⟨rfl, hb⟩; refine ⟨_, rfl, ?_⟩; replace BK1119 := Aside0.mk (blk_below (g := gb1119) (o := .cells #[.slice A0_0 l0_0.length c0_0] 25 (0, 0)) (zb BK1119) hb); replace BK1120 := Aside0.mk (blk_below (g := gb1120) (o := .cells #[.slice A1_0 l1_0.length c1_0, .slice A1_1 l1_1.length c1_1] 70 (0, 0)) (zb BK1120) hb); replace HB := Aside0.mk (below_step (zB HB) hb); (try clear hb); (try clear hb2); (try clear hk); (try clear hi))); go_ret; exact ⟨by first | rfl | (simp [errW_none, errW_some] <;> rfl) | (simp [*, errW_none, errW_some] <;> rfl), zB HB⟩

/-! ### impl_Param_named: function 119 -/
def impl_Param_named.f (a0_0 : ByteArray) (a0_1 : Int) (a0_2 : Bool) (a0_3 : Int) : Option (Bool) := if a0_1 = 1 then (some true) else (some (a0_1 == 3))
set_option maxHeartbeats 8000000 in
set_option maxRecDepth 100000 in
theorem impl_Param_named.calls (a0_0 : ByteArray) (a0_1 : Int) (a0_2 : Bool) (a0_3 : Int) (r : Bool) (w : World) (h : impl_Param_named.f a0_0 a0_1 a0_2 a0_3 = some r) :
  Calls Try.prog 119 #[.agg #[.string a0_0, .int .i64 a0_1, .bool a0_2, .int .i64 a0_3]] w fun e w' => e = .returned (.bool r) ∧ Below w.heap.size w w' := by
 have hu33 := Try.underlying33; have HB := Aside0.mk (Below.refl w.heap.size w); have H : (if a0_1 = 1 then (some true) else (some (a0_1 == 3))) = some r := h; clear h
 by_cases c2 : a0_1 = 1
 ·rw [if_pos c2] at H; have c2b0 : (a0_1 == 1) = true := beq_iff_eq.mpr c2; have c2b1 : (a0_1 != 1) = false := bne_eq_false_iff_eq.mpr c2; clear c2; obtain rfl := Option.some.inj H; go_enter Try.func119, Try.ntmps119; go_wp2_with (first | ((with_reducible refine gate_dst (N := 1) rfl ?_); refine zx (N := 1) (cs := #[.string a0_0, .int .i64 a0_1, .bool a0_2, .int .i64 a0_3]) (t := 33) ?_; intro gb1123 hg w3 hbox hb; have BK1123 := Aside0.mk (hbox); have GW1123 := Aside0.mk ((by rw [hg]; exact (below_size (zB HB)) : w.heap.size ≤ gb1123)); have GE1123 := GW1123; replace HB := Aside0.mk (below_step (zB HB) hb); clear hb hbox hg; have hcz4_0 : w3.cell? ⟨gb1123, 0, none⟩ = some (.string a0_0) := (blk_cell BK1123.out 0).trans rfl; have hcz4_1 : w3.cell? ⟨gb1123, 1, none⟩ = some (.int .i64 a0_1) := (blk_cell BK1123.out 1).trans rfl; have hcz4_2 : w3.cell? ⟨gb1123, 2, none⟩ = some (.bool a0_2) := (blk_cell BK1123.out 2).trans rfl; have hcz4_3 : w3.cell? ⟨gb1123, 3, none⟩ = some (.int .i64 a0_3) := (blk_cell BK1123.out 3).trans rfl; have hfz4_0 := blk_frozen BK1123.out 0; have hfz4_1 := blk_frozen BK1123.out 1; have hfz4_2 := blk_frozen BK1123.out 2; have hfz4_3 := blk_frozen BK1123.out 3)); go_ret; exact ⟨by first | rfl | (simp [errW_none, errW_some] <;> rfl) | (simp [*, errW_none, errW_some] <;> rfl), zB HB⟩
 ·rw [if_neg c2] at H; have c2b0 : (a0_1 == 1) = false := beq_eq_false_iff_ne.mpr c2; have c2b1 : (a0_1 != 1) = true := bne_iff_ne.mpr c2; obtain rfl := Option.some.inj H; go_enter Try.func119, Try.ntmps119; go_wp2_with (first | ((with_reducible refine gate_dst (N := 1) rfl ?_); refine zx (N := 1) (cs := #[.string a0_0, .int .i64 a0_1, .bool a0_2, .int .i64 a0_3]) (t := 33) ?_; intro gb1123 hg w5 hbox hb; have BK1123 := Aside0.mk (hbox); have GW1123 := Aside0.mk ((by rw [hg]; exact (below_size (zB HB)) : w.heap.size ≤ gb1123)); have GE1123 := GW1123; replace HB := Aside0.mk (below_step (zB HB) hb); clear hb hbox hg; have hcz6_0 : w5.cell? ⟨gb1123, 0, none⟩ = some (.string a0_0) := (blk_cell BK1123.out 0).trans rfl; have hcz6_1 : w5.cell? ⟨gb1123, 1, none⟩ = some (.int .i64 a0_1) := (blk_cell BK1123.out 1).trans rfl; have hcz6_2 : w5.cell? ⟨gb1123, 2, none⟩ = some (.bool a0_2) := (blk_cell BK1123.out 2).trans rfl; have hcz6_3 : w5.cell? ⟨gb1123, 3, none⟩ = some (.int .i64 a0_3) := (blk_cell BK1123.out 3).trans rfl; have hfz6_0 := blk_frozen BK1123.out 0; have hfz6_1 := blk_frozen BK1123.out 1; have hfz6_2 := blk_frozen BK1123.out 2; have hfz6_3 := blk_frozen BK1123.out 3)); go_ret; exact ⟨by first | rfl | (simp [errW_none, errW_some] <;> rfl) | (simp [*, errW_none, errW_some] <;> rfl), zB HB⟩

set_option maxHeartbeats 8000000 in
set_option maxRecDepth 100000 in
theorem impl_Signature_takes.pred120 (w : World) :
  PxPred Try.prog 120 #[] (fun x : S33 => .agg #[.string x.f0, .int .i64 x.f1, .bool x.f2, .int .i64 x.f3]) (fun x : S33 => x.f1 == 4) w := by
 intro W x hb
 show Calls Try.prog 120 #[.agg #[.string x.f0, .int .i64 x.f1, .bool x.f2, .int .i64 x.f3]] W _
 have hu33 := Try.underlying33; go_enter Try.func120, Try.ntmps120; go_wp2; go_ret; exact ⟨rfl, px_alloc _ _⟩
theorem px_idx_lt {α : Type} (p : α → Bool) (l : List α) : pxIdx p l < l.length := by
 unfold pxIdx
 cases h : l.findIdx? p with
 | none => simp; omega
 | some i =>
  rw [List.findIdx?_eq_some_iff_getElem] at h; obtain ⟨hi, _⟩ := h; simp; omega
theorem impl_Param_named.eq (a : ByteArray) (b : Int) (c : Bool) (d : Int) : impl_Param_named.f a b c d = some (b == 1 || b == 3) := by
 unfold impl_Param_named.f
 by_cases h : b = 1
 ·simp [h]
 ·simp [h]
/-! ### impl_Signature_takes: function 94 (a contract of our own) -/
def impl_Signature_takes.f (l0_0 : List (S33)) (a1 : ByteArray) : Option (Int) := some (if 0 ≤ pxIdx (fun x : S33 => x.f0.toList == a1.toList) l0_0 then (if ((rd_T33 l0_0 (pxIdx (fun x : S33 => x.f0.toList == a1.toList) l0_0)).f1 == 1 || (rd_T33 l0_0 (pxIdx (fun x : S33 => x.f0.toList == a1.toList) l0_0)).f1 == 3) = true then pxIdx (fun x : S33 => x.f0.toList == a1.toList) l0_0 else pxIdx (fun x : S33 => x.f1 == 4) l0_0) else pxIdx (fun x : S33 => x.f1 == 4) l0_0)
set_option maxHeartbeats 8000000 in
set_option maxRecDepth 100000 in
theorem impl_Signature_takes.calls (A0_0 : Option Addr) (c0_0 : Nat) (l0_0 : List (S33)) (a1 : ByteArray) (r : Int) (w : World) (hr0_0 : Kd.C k33 w A0_0 l0_0.length l0_0) (hc0_0 : l0_0.length ≤ c0_0) (h : impl_Signature_takes.f l0_0 a1 = some r) :
  Calls Try.prog 94 #[.agg #[.slice A0_0 l0_0.length c0_0], .string a1] w fun e w' => e = .returned (.int .i64 r) ∧ Below w.heap.size w w' := by
 have HR := Aside0.mk hr0_0; have HC := Aside0.mk hc0_0; clear hr0_0 hc0_0; have h := Option.some.inj h; have H := Aside0.mk h; clear h; have hu25 := Try.underlying25; have eg := px_enters Try.func120 (by kernel_rfl) rfl; have hub := px_idx_lt (fun x : S33 => x.f0.toList == a1.toList) l0_0; go_enter Try.func94, Try.ntmps94; go_wp2_with fail; refine (impl_find.calls A0_0 c0_0 l0_0 a1 _ _ ?_ HC.out rfl).mono ?_
 ·exact Kd.C_below HR.out (px_alloc _ _)
 rintro e w1 ⟨rfl, hb1⟩; have hcl : w1.cell? ⟨w.heap.size, 0, none⟩ = some (.slice A0_0 l0_0.length c0_0) := (hb1.cell (p := ⟨w.heap.size, 0, none⟩) (by simp <;> omega)).trans (by go_simp); have HB := Aside0.mk (below_then (px_alloc _ _) (by simp) hb1); have HR1 := Aside0.mk (Kd.C_below HR.out HB.out); clear hb1; generalize pxIdx (fun x : S33 => x.f0.toList == a1.toList) l0_0 = at_ at *
 by_cases hat : 0 ≤ at_
 ·rw [if_pos hat] at H; have hat1 : at_ ≥ 0 := hat; have hat2 : decide (at_ ≥ 0) = true := decide_eq_true hat; obtain ⟨ad, e, hx0, hx1, hx2, hx3⟩ := at_T33 HR1.out at_ hat hub
  cases e
  generalize rd_T33 l0_0 at_ = y at *; have HN := Aside0.mk (impl_Param_named.eq y.f0 y.f1 y.f2 y.f3)
  cases hq : (y.f1 == 1 || y.f1 == 3)
  ·rw [hq, if_neg (by simp)] at H; rw [hq] at HN; have HQ := Aside0.mk hq; clear hq; go_wp2_with fail; refine (impl_Param_named.calls _ _ _ _ _ _ HN.out).mono ?_; rintro e w2 ⟨rfl, hb2⟩; have hcl2 : w2.cell? ⟨w.heap.size, 0, none⟩ = some (.slice (some ad) l0_0.length c0_0) := px_cell hb2 hcl; have HB2 := Aside0.mk (below_then HB.out (below_size HB.out) hb2); clear hb2; go_wp2_with fail; refine (ix103.calls (fun x : S33 => x.f1 == 4) 120 _ eg _ c0_0 l0_0 _ (impl_Signature_takes.pred120 _) (Kd.C_below HR.out HB2.out)).mono ?_; rintro e w3 ⟨rfl, hb3⟩; go_wp2; go_ret; exact ⟨by rw [← H.out]; rfl, below_then HB2.out (below_size HB2.out) hb3⟩
  ·rw [hq, if_pos rfl] at H; rw [hq] at HN; have HQ := Aside0.mk hq; clear hq; go_wp2_with fail; refine (impl_Param_named.calls _ _ _ _ _ _ HN.out).mono ?_; rintro e w2 ⟨rfl, hb2⟩; have HB2 := Aside0.mk (below_then HB.out (below_size HB.out) hb2); clear hb2; go_wp2; go_ret; exact ⟨by rw [← H.out]; rfl, HB2.out⟩
 ·rw [if_neg hat] at H; have hat1 : ¬ at_ ≥ 0 := hat; have hat2 : decide (at_ ≥ 0) = false := decide_eq_false hat; go_wp2_with fail; refine (ix103.calls (fun x : S33 => x.f1 == 4) 120 _ eg _ c0_0 l0_0 _ (impl_Signature_takes.pred120 _) (Kd.C_below HR.out HB.out)).mono ?_; rintro e w3 ⟨rfl, hb3⟩; go_wp2; go_ret; exact ⟨by rw [← H.out]; rfl, below_then HB.out (below_size HB.out) hb3⟩

/-! ### slices_Clip_int_int: function 129 (a contract of our own) -/
def slices_Clip_int_int.f (l0 : List (Int)) : Option (List (Int)) := some l0
set_option maxHeartbeats 8000000 in
set_option maxRecDepth 100000 in
theorem slices_Clip_int_int.calls (P0_ : Nat → Prop) (u9000_ : Value) (l0 : List (Int)) (r : List (Int)) (w0 w : World) (hB : Below w0.heap.size w0 w) (ho0 : Kd.R (Kd.int .i64) 3 w w0.heap.size P0_ u9000_ l0) (h : slices_Clip_int_int.f l0 = some r) :
  Calls Try.prog 129 #[u9000_] w fun e w' => ∃ v0_ : Value, e = .returned (v0_) ∧ Kd.R (Kd.int .i64) 3 w' w0.heap.size (fun k_ => (P0_ k_ ∨ w.heap.size ≤ k_)) v0_ r ∧ Below w0.heap.size w0 w' ∧ Kept w w' (fun k_ => P0_ k_) := by
 obtain rfl := Option.some.inj h; clear h; obtain ⟨A0, c0, rfl⟩ := Kd.R_slice ho0; obtain ⟨_, hl, hC⟩ := Kd.R_reads' ho0; have hbig : l0.length ≤ 9223372036854775807 := hC.2.1; have HO := Aside0.mk ho0; have HB := Aside0.mk hB; clear ho0 hB hC; go_enter Try.func129, Try.ntmps129; go_wp2; go_ret; exact ⟨_, rfl, Kd.R_mono (Kd.R_clip HO.out (Nat.le_refl _) hl) (fun _ h => .inl h), HB.out, Kept.refl _ _⟩

end Go.Proofs.Ytlpmggokgcphiaa.Q

namespace Go.Proofs.Ytlpmggokgcphiaa.Q
open Go.RowKit Go.Proofs.YtlpmggokgcphiaaL.PrintWords Go.Proofs.YtlpmggokgcphiaaL.PrintLast Go.Proofs.YtlpmggokgcphiaaL.PrintMore
attribute [local go_sem] max2_int min2_int max_two min_two max_three min_three max_four min_four   -- for this text's walks alone
set_option linter.unusedVariables false
set_option linter.unusedSimpArgs false

/-! ### slices.Clone at int: function 130 -/
set_option maxHeartbeats 8000000 in
set_option maxRecDepth 100000 in
theorem cl130.calls (A0 : Option Addr) (c0 : Nat) (l0 : List (Int)) (w : World) (hr0 : Kd.C (Kd.int .i64) w A0 l0.length l0) (hl : l0.length * 8 ≤ 140737488355328) :
  Calls Try.prog 130 #[.slice A0 l0.length c0] w fun e w' => ∃ v0_ : Value, e = .returned v0_ ∧ Kd.R (Kd.int .i64) 3 w' w.heap.size (fun _ => True) v0_ l0 ∧ Below w.heap.size w w' := by
 cases A0 with
 | none =>
  have h0 : l0 = [] := by
   rcases Nat.eq_zero_or_pos l0.length with h | h
   ·exact List.eq_nil_of_length_eq_zero h
   ·obtain ⟨ad, e, _⟩ := hr0.2.2 h; cases e
  subst h0; clear hr0; have hE := fun (W : World) => Go.Lib.run_eql_slice_nil (P := Try.prog) W 67 3 none 0 c0 0 0 Try.underlying67
  go_enter Try.func130, Try.ntmps130; go_wp2; go_ret; exact ⟨_, rfl, Kd.R_nil _ _ _ _ _, px_refl _⟩
 | some ad =>
  have HR := Aside0.mk hr0; have HL := Aside0.mk hl; clear hr0 hl; have hE := fun (W : World) => Go.Lib.run_eql_slice_nil (P := Try.prog) W 67 3 (some ad) l0.length c0 0 0 Try.underlying67
  go_enter Try.func130, Try.ntmps130; go_wp2_with (first | ((with_reducible refine gate_dst (N := 5) rfl ?_); refine Kd.R_lit (Kd.int .i64) w.heap.size 3 ?hg (N := 5) ?hd (xs := ([] : List (Int))) (inner := []) (ok := fun _ => True) (okp := fun _ => True) ?hr ?hp (fun _ hk => hk) trivial (Below.refl _ _) (Nat.le_refl _) (by simp) ?_; (case hd => rfl); (case hg => rfl); (case hr => first | (go_simp; done) | (go_simp; rfl)); (case hp => exact (Reps.none _ _)); intro v5 w5 ho5 hb5 hg_ hnew_; clear hg_ hnew_; have HO := Aside0.mk ho5; have HB := Aside0.mk hb5; clear ho5 hb5) | ((with_reducible refine gate_dst (N := 7) rfl ?_); refine Kd.R_append_rows (Kd.int .i64) (Rr := (Kd.int .i64).K w) (w0 := w) w.heap.size (by rfl) (.tmp 5) (.tmp 6) 67 3 (.int .i64 0) 8 rfl Try.underlying67 info3 rfl (by decide) (by omega) v5 ([] : List (Int)) l0 _ _ _ (fun _ => True) (fun _ => False) rfl rfl HO.out ?aR (fun _ _ h => h) (fun _ h => h.elim) (fun _ _ => trivial) HB.out (below_size HB.out) ?aL ?_; (case aR => exact ReadsRow.imp_ HR.out HB.out (fun _ _ h => h)); (case aL => simpa using HL.out); intro v7 w7 ho7 hb7 hg_ hnew_; clear hg_ hnew_; have HO7 := Aside0.mk ho7; have HB7 := Aside0.mk hb7; clear ho7 hb7)); go_ret; exact ⟨_, rfl, HO7.out, HB7.out⟩
/-! ### impl_clone_int: function 116 (a contract of our own) -/
def impl_clone_int.f (l0 : List Int) : Option (List Int) := if l0.length * 8 ≤ 140737488355328 then some l0 else none
set_option maxHeartbeats 8000000 in
set_option maxRecDepth 100000 in
theorem impl_clone_int.calls (A0 : Option Addr) (c0 : Nat) (l0 : List Int) (r : List Int) (w : World) (hr0 : Kd.C (Kd.int .i64) w A0 l0.length l0) (hc0 : l0.length ≤ c0) (h : impl_clone_int.f l0 = some r) :
  Calls Try.prog 116 #[.slice A0 l0.length c0] w fun e w' => ∃ v0_ : Value, e = .returned (v0_) ∧ Kd.R (Kd.int .i64) 3 w' w.heap.size (fun _ => True) v0_ r ∧ Below w.heap.size w w' := by
 have hl : l0.length * 8 ≤ 140737488355328 := by unfold impl_clone_int.f at h; split at h; assumption; cases h
 have hr : r = l0 := by unfold impl_clone_int.f at h; rw [if_pos hl] at h; exact (Option.some.inj h).symm
 subst hr; clear h; have HR := Aside0.mk hr0; have HL := Aside0.mk hl; clear hr0 hl hc0; go_enter Try.func116, Try.ntmps116; go_wp2_with fail; refine (cl130.calls _ _ _ _ HR.out HL.out).mono ?_; rintro e w1 ⟨v1, rfl, hv1, hb1⟩; have HO1 := Aside0.mk hv1; have HB1 := Aside0.mk hb1; clear hv1 hb1; go_wp2_with fail; refine (slices_Clip_int_int.calls (fun _ => True) _ _ r w _ HB1.out HO1.out rfl).mono ?_; rintro e w2 ⟨v2, rfl, hv2, hb2, hk2⟩; have HO2 := Aside0.mk hv2; have HB2 := Aside0.mk hb2; clear hv2 hb2 hk2; go_wp2; go_ret; exact ⟨_, rfl, Kd.R_mono HO2.out (fun _ _ => trivial), HB2.out⟩

/-! ### impl_Pair_117: function 117 (a contract of our own) -/
def impl_Pair_117.f (l0 : List (S130)) : Option (List (S130)) := some l0
set_option maxHeartbeats 8000000 in
set_option maxRecDepth 100000 in
theorem impl_Pair_117.calls (P0_ : Nat → Prop) (u9000_ : Value) (l0 : List (S130)) (r : List (S130)) (w0 w : World) (hB : Below w0.heap.size w0 w) (ho0 : Kd.R k130 130 w w0.heap.size P0_ u9000_ l0) (h : impl_Pair_117.f l0 = some r) :
  Calls Try.prog 117 #[u9000_] w fun e w' => ∃ v0_ : Value, e = .returned (v0_) ∧ Kd.R k130 130 w' w0.heap.size (fun k_ => (P0_ k_ ∨ w.heap.size ≤ k_)) v0_ r ∧ Below w0.heap.size w0 w' ∧ Kept w w' (fun k_ => P0_ k_) := by
 obtain rfl := Option.some.inj h; clear h; obtain ⟨A0, c0, rfl⟩ := Kd.R_slice ho0; obtain ⟨_, hl, hC⟩ := Kd.R_reads' ho0; have hbig : l0.length ≤ 9223372036854775807 := hC.2.1; have HO := Aside0.mk ho0; have HB := Aside0.mk hB; clear ho0 hB hC; go_enter Try.func117, Try.ntmps117; go_wp2; go_ret; exact ⟨_, rfl, Kd.R_mono (Kd.R_clip HO.out (Nat.le_refl _) hl) (fun _ h => .inl h), HB.out, Kept.refl _ _⟩

/-! ### impl_Problem: function 118 (a contract of our own) -/
def impl_Problem.f (l0 : List (S72)) : Option (List (S72)) := some l0
set_option maxHeartbeats 8000000 in
set_option maxRecDepth 100000 in
theorem impl_Problem.calls (P0_ : Nat → Prop) (u9000_ : Value) (l0 : List (S72)) (r : List (S72)) (w0 w : World) (hB : Below w0.heap.size w0 w) (ho0 : Kd.R k72 72 w w0.heap.size P0_ u9000_ l0) (h : impl_Problem.f l0 = some r) :
  Calls Try.prog 118 #[u9000_] w fun e w' => ∃ v0_ : Value, e = .returned (v0_) ∧ Kd.R k72 72 w' w0.heap.size (fun k_ => (P0_ k_ ∨ w.heap.size ≤ k_)) v0_ r ∧ Below w0.heap.size w0 w' ∧ Kept w w' (fun k_ => P0_ k_) := by
 obtain rfl := Option.some.inj h; clear h; obtain ⟨A0, c0, rfl⟩ := Kd.R_slice ho0; obtain ⟨_, hl, hC⟩ := Kd.R_reads' ho0; have hbig : l0.length ≤ 9223372036854775807 := hC.2.1; have HO := Aside0.mk ho0; have HB := Aside0.mk hB; clear ho0 hB hC; go_enter Try.func118, Try.ntmps118; go_wp2; go_ret; exact ⟨_, rfl, Kd.R_mono (Kd.R_clip HO.out (Nat.le_refl _) hl) (fun _ h => .inl h), HB.out, Kept.refl _ _⟩

end Go.Proofs.Ytlpmggokgcphiaa.Q
