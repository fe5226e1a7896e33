-- written by px.py and merge.py (programs of this claim's), over the kit's print. Not trusted: Lean checks it.
import Derived.Test.YtlpmggokgcphiaaQ0
import Derived.Test.YtlpmggokgcphiaaM3FnTakesName
namespace Go.Proofs.Ytlpmggokgcphiaa.Q
open Go.RowKit Go.Proofs.YtlpmggokgcphiaaL.PrintWords Go.Proofs.YtlpmggokgcphiaaL.PrintLast Go.Proofs.YtlpmggokgcphiaaL.PrintMore
attribute [local go_sem] max2_int min2_int max_two min_two max_three min_three max_four min_four   -- for this text's walks alone
set_option linter.unusedVariables false
set_option linter.unusedSimpArgs false

/-! ### spec_validParams: function 102 -/
mutual
def spec_validParams.l0 : Nat → List (S33) → Int → Option (Bool)
 | 0, _, _ => none
 | k + 1, x0, x3 => if x3 < (x0.length : Int) then (if 0 ≤ x3 then ((spec_validParam.f k ((rd_T33 x0 x3).f0) ((rd_T33 x0 x3).f1) ((rd_T33 x0 x3).f2) ((rd_T33 x0 x3).f3)).bind fun t146 => (if t146 = true then (if x3 ≤ (x0.length : Int) then ((spec_findParam.f k (x0.take (x3 : Int).toNat) ((rd_T33 x0 x3).f0)).bind fun t151 => (spec_validParams.j1 k x0 x3 (decide (t151 ≥ 0)) ((rd_T33 x0 x3).f0) ((rd_T33 x0 x3).f1) ((rd_T33 x0 x3).f2) ((rd_T33 x0 x3).f3))) else (none)) else (spec_validParams.j1 k x0 x3 true ((rd_T33 x0 x3).f0) ((rd_T33 x0 x3).f1) ((rd_T33 x0 x3).f2) ((rd_T33 x0 x3).f3)))) else (none)) else (some (decide ((x0.length : Int) ≤ 8)))
def spec_validParams.j1 : Nat → List (S33) → Int → Bool → ByteArray → Int → Bool → Int → Option (Bool)
 | 0, _, _, _, _, _, _, _ => none
 | k + 1, x0, x3, x27, x146000, x146001, x146002, x146003 => if x27 = true then (some false) else (if x3 = 0 then (spec_validParams.l0 k x0 (wrap64 (x3 + 1))) else (if 0 ≤ (wrap64 (x3 - 1)) then (if (wrap64 (x3 - 1)) < (x0.length : Int) then (if x146001 < ((rd_T33 x0 (wrap64 (x3 - 1))).f1) then (some false) else (if x146001 = ((rd_T33 x0 (wrap64 (x3 - 1))).f1) then ((spec_isSingle.f x146000 x146001 x146002 x146003).bind fun t154 => (if t154 = true then ((spec_byPlace.f x146000 x146001 x146002 x146003).bind fun t155 => (if t155 = true then (if (rd_T33 x0 (wrap64 (x3 - 1))).f2 = true then (if x146002 = true then (spec_validParams.l0 k x0 (wrap64 (x3 + 1))) else (some false)) else (spec_validParams.l0 k x0 (wrap64 (x3 + 1)))) else (spec_validParams.l0 k x0 (wrap64 (x3 + 1))))) else (some false))) else ((spec_byPlace.f x146000 x146001 x146002 x146003).bind fun t156 => (if t156 = true then (if (rd_T33 x0 (wrap64 (x3 - 1))).f2 = true then (if x146002 = true then (spec_validParams.l0 k x0 (wrap64 (x3 + 1))) else (some false)) else (spec_validParams.l0 k x0 (wrap64 (x3 + 1)))) else (spec_validParams.l0 k x0 (wrap64 (x3 + 1))))))) else (none)) else (none)))
end
def spec_validParams.f (k : Nat) (l0 : List (S33)) : Option (Bool) := spec_validParams.l0 k l0 0
theorem spec_validParams.mono_l : ∀ k, (∀ y0 y1, LeO (spec_validParams.l0 k y0 y1) (spec_validParams.l0 (k + 1) y0 y1)) ∧ (∀ y0 y1 y2 y3 y4 y5 y6, LeO (spec_validParams.j1 k y0 y1 y2 y3 y4 y5 y6) (spec_validParams.j1 (k + 1) y0 y1 y2 y3 y4 y5 y6))
 | 0 => ⟨fun _ _ r h => by simp [spec_validParams.l0] at h, fun _ _ _ _ _ _ _ r h => by simp [spec_validParams.j1] at h⟩
 | k + 1 => by
  obtain ⟨ih0, ih1⟩ := spec_validParams.mono_l k; refine ⟨?_, ?_⟩
  all_goals intros
  all_goals (first | unfold spec_validParams.l0 | unfold spec_validParams.j1)
  all_goals repeat' first
   | (with_reducible exact ih0 _ _)
   | (with_reducible exact ih1 _ _ _ _ _ _ _)
   | (with_reducible exact spec_findParam.mono _ _ _)
   | (with_reducible exact spec_validParam.mono _ _ _ _ _)
   | (with_reducible exact LeO.refl _)
   | (with_reducible exact LeO.none _)
   | (with_reducible refine LeO.ite ?_ ?_)
   | (with_reducible refine LeO.bind ?_ (fun _ => ?_))
   | exact ih0 _ _
   | exact ih1 _ _ _ _ _ _ _
   | exact spec_findParam.mono _ _ _
   | exact spec_validParam.mono _ _ _ _ _
   | exact LeO.none _
   | refine LeO.ite ?_ ?_
   | refine LeO.bind ?_ (fun _ => ?_)
theorem spec_validParams.mono : ∀ a0 k, LeO (spec_validParams.f k a0) (spec_validParams.f (k + 1) a0) := by
 intro a0 k; obtain ⟨ih0, ih1⟩ := spec_validParams.mono_l k; unfold spec_validParams.f
 repeat' first
   | (with_reducible exact ih0 _ _)
   | (with_reducible exact ih1 _ _ _ _ _ _ _)
   | (with_reducible exact spec_findParam.mono _ _ _)
   | (with_reducible exact spec_validParam.mono _ _ _ _ _)
   | (with_reducible exact LeO.refl _)
   | (with_reducible exact LeO.none _)
   | (with_reducible refine LeO.ite ?_ ?_)
   | (with_reducible refine LeO.bind ?_ (fun _ => ?_))
   | exact ih0 _ _
   | exact ih1 _ _ _ _ _ _ _
   | exact spec_findParam.mono _ _ _
   | exact spec_validParam.mono _ _ _ _ _
   | exact LeO.none _
   | refine LeO.ite ?_ ?_
   | refine LeO.bind ?_ (fun _ => ?_)
def spec_validParams.T5 : Bool × List (List Nat × List Nat) := (true, [([], []), ([0], [0]), ([1], [1]), ([2, 1], [2]), ([3], [3]), ([3], [3]), ([4, 5, 3], [3, 4, 5]), ([3], [3]), ([7, 3], [3, 7]), ([6, 8, 3, 3], [3, 6, 8]), ([9, 3], [3, 9]), ([3, 10], [3, 10])])
def spec_validParams.B5 : List Nat := [0, 1, 3, 7, 15, 15, 63, 15, 143, 511, 1023, 2047]
theorem spec_validParams.tab5 : rtab .any (opsOf Try.f102 5) = spec_validParams.T5 := by kernel_rfl
theorem spec_validParams.bits5 : waitsOk spec_validParams.T5.2 spec_validParams.B5 = true := by kernel_rfl
set_option maxHeartbeats 8000000 in
set_option maxRecDepth 100000 in
theorem spec_validParams.calls (k : Nat) (A0 : Option Addr) (c0 : Nat) (l0 : List (S33)) (r : Bool) (w : World) (hr0 : Kd.C k33 w A0 l0.length l0) (hc0 : l0.length ≤ c0) (h : spec_validParams.f k l0 = some r) :
  Calls Try.prog 102 #[.slice A0 l0.length c0] w fun e w' => e = .returned (.bool r) ∧ Below w.heap.size w w' := by
 have hu33 := Try.underlying33; have HR0 := Aside0.mk hr0; have HC0 := Aside0.mk hc0; clear hr0 hc0; have HB := Aside0.mk (Below.refl w.heap.size w); have H : (spec_validParams.l0 k l0 0) = some r := h; clear h; have H' := Aside0.mk H; clear H; go_enter Try.func102, Try.ntmps102; go_wp2; go_loopg [3] k (fun kq v3 w' => ∃ (x3_1 : Int), v3 = .int .i64 x3_1 ∧ Aside0 (spec_validParams.l0 kq l0 x3_1 = some r) ∧ Aside0 (kq ≤ k) ∧ Aside0 (Below w.heap.size w w'))
 case atStart => exact ⟨(0), zr, H', ⟨Nat.le_refl _⟩, ⟨zB HB⟩⟩
 case round =>
  clear H'; (try clear c1); obtain ⟨x3_1, rfl, HA, HK1, HB⟩ := hrel
  cases gk with
  | zero => exact absurd HA.out (by simp [spec_validParams.l0])
  | succ k1 =>
   have H := HA.out; clear HA; simp only [spec_validParams.l0] at H
   by_cases c2 : x3_1 < (l0.length : Int)
   ·rw [if_pos c2] at H; have c2b0 : decide (x3_1 < (l0.length : Int)) = true := decide_eq_true c2; clear c2
    by_cases c3 : 0 ≤ x3_1
    ·rw [if_pos c3] at H; have c3b0 : decide (0 ≤ x3_1) = true := decide_eq_true c3; clear c3; have HC4 := Aside0.mk H; clear H; have p144 : 0 ≤ (x3_1 : Int) := of_decide_eq_true za; have q144 : x3_1 < (l0.length : Int) := of_decide_eq_true za; obtain ⟨ad144, e144, hx144_0, hx144_1, hx144_2, hx144_3⟩ := at_T33 HR0.out x3_1 p144 q144
     cases e144
     replace hx144_0 := zt HB hx144_0; replace hx144_1 := zt HB hx144_1; replace hx144_2 := zt HB hx144_2; replace hx144_3 := zt HB hx144_3; replace p144 := eq_true p144; replace q144 := eq_true q144; go_upto_region 5 with (first | ((with_reducible refine gate_dst (N := 4) rfl ?_); refine zx (N := 4) (cs := #[.string (⟨#[]⟩ : ByteArray), .int .i64 0, .bool false, .int .i64 0]) (t := 33) ?_; intro gb145 hg w5 hbox hb; have BK145 := Aside0.mk (hbox); have GW145 := zg HB hg; have GE145 := GW145; replace HB := zh HB hb; clear hb hbox hg; obtain ⟨hcz6_0, hcz6_1, hcz6_2, hcz6_3, hfz6_0, hfz6_1, hfz6_2, hfz6_3⟩ := zy4 BK145))
     (try simp only [Act.put, List.setIfInBounds_toArray, List.set_cons_zero, List.set_cons_succ])
     go_cut [27] (fun v27 wc => ∃ (kq : Nat) (x27_3 : Bool), v27 = .bool x27_3 ∧ Aside0 (spec_validParams.j1 kq l0 x3_1 x27_3 ((rd_T33 l0 x3_1).f0) ((rd_T33 l0 x3_1).f1) ((rd_T33 l0 x3_1).f2) ((rd_T33 l0 x3_1).f3) = some r) ∧ Aside0 (kq ≤ k1) ∧ Aside0 (wc.heap[gb145]? = some (.cells #[.string ((rd_T33 l0 x3_1).f0), .int .i64 ((rd_T33 l0 x3_1).f1), .bool ((rd_T33 l0 x3_1).f2), .int .i64 ((rd_T33 l0 x3_1).f3)] 33 (0, 0))) ∧ Aside0 (Below w.heap.size w wc))
     case first =>
      have H := HC4.out; clear HC4; replace H := Option.bind_eq_some_iff.mp H; obtain ⟨t146, A70, H⟩ := H
      (try dsimp only at H)
      have A7 := Aside0.mk A70; clear A70
      by_cases c8 : t146 = true
      ·subst c8; rw [if_pos rfl] at H; have c9b0 := eq_true (of_decide_eq_true za : 0 ≤ x3_1)
       by_cases c10 : x3_1 ≤ (l0.length : Int)
       ·rw [if_pos c10] at H; have c10b0 := eq_true c10; have c10b1 : decide (x3_1 ≤ (l0.length : Int)) = true := decide_eq_true c10; clear c10; obtain ⟨y147, hy147⟩ : ∃ y_ : List (S33), y_ = (l0.take (x3_1 : Int).toNat) := ⟨_, rfl⟩
        replace H : ((spec_findParam.f k1 y147 ((rd_T33 l0 x3_1).f0)).bind fun t151 => (spec_validParams.j1 k1 l0 x3_1 (decide (t151 ≥ 0)) ((rd_T33 l0 x3_1).f0) ((rd_T33 l0 x3_1).f1) ((rd_T33 l0 x3_1).f2) ((rd_T33 l0 x3_1).f3))) = some r := by first | (rw [hy147]; with_reducible exact H) | (have H2_ := (Option.bind_some _ _).symm.trans H; rw [hy147]; with_reducible exact H2_) | (have H2_ := (Option.bind_some _ _).symm.trans H; with_reducible exact H2_) | with_reducible exact H | (rw [hy147]; exact H) | exact H
        have Ny147 := Aside0.mk hy147; clear hy147; replace H := Option.bind_eq_some_iff.mp H; obtain ⟨t151, A110, H⟩ := H
        (try dsimp only at H)
        have A11 := Aside0.mk A110; clear A110; have H' := Aside0.mk H; clear H
        try go_wp2
        have n0_ : Aside0 (((((w5.setCell ⟨gb145, 0, none⟩ (.string ((rd_T33 l0 x3_1).f0))).setCell ⟨gb145, 1, none⟩ (.int .i64 ((rd_T33 l0 x3_1).f1))).setCell ⟨gb145, 2, none⟩ (.bool ((rd_T33 l0 x3_1).f2))).setCell ⟨gb145, 3, none⟩ (.int .i64 ((rd_T33 l0 x3_1).f3))).heap[gb145]? = some (.cells #[.string ((rd_T33 l0 x3_1).f0), .int .i64 ((rd_T33 l0 x3_1).f1), .bool ((rd_T33 l0 x3_1).f2), .int .i64 ((rd_T33 l0 x3_1).f3)] 33 (0, 0))) := ⟨zbp BK145⟩
        have n1_ : Aside0 (Below w.heap.size w ((((w5.setCell ⟨gb145, 0, none⟩ (.string ((rd_T33 l0 x3_1).f0))).setCell ⟨gb145, 1, none⟩ (.int .i64 ((rd_T33 l0 x3_1).f1))).setCell ⟨gb145, 2, none⟩ (.bool ((rd_T33 l0 x3_1).f2))).setCell ⟨gb145, 3, none⟩ (.int .i64 ((rd_T33 l0 x3_1).f3)))) := ⟨zB HB⟩
        (try clear BK145); (try clear HB); generalize ((((w5.setCell ⟨gb145, 0, none⟩ (.string ((rd_T33 l0 x3_1).f0))).setCell ⟨gb145, 1, none⟩ (.int .i64 ((rd_T33 l0 x3_1).f1))).setCell ⟨gb145, 2, none⟩ (.bool ((rd_T33 l0 x3_1).f2))).setCell ⟨gb145, 3, none⟩ (.int .i64 ((rd_T33 l0 x3_1).f3))) = w12 at n0_ n1_ ⊢; have BK145 := n0_; have HB := n1_; clear n0_ n1_; replace BK145 := Aside0.mk (blk_drew BK145.out); replace HB := Aside0.mk (below_drew1 HB.out); refine start_ (n := 12) (S := fun w' => w'.cell? ⟨gb145, 0, none⟩ = some (.string ((rd_T33 l0 x3_1).f0)) ∧ w'.cell? ⟨gb145, 1, none⟩ = some (.int .i64 ((rd_T33 l0 x3_1).f1)) ∧ w'.cell? ⟨gb145, 2, none⟩ = some (.bool ((rd_T33 l0 x3_1).f2)) ∧ w'.cell? ⟨gb145, 3, none⟩ = some (.int .i64 ((rd_T33 l0 x3_1).f3))) (ds := []) #[false, false, false, false, false, false, false, false, false, false, false, false] (by kernel_rfl) rfl rfl ⟨(blk_cell BK145.out 0).trans rfl, (blk_cell BK145.out 1).trans rfl, (blk_cell BK145.out 2).trans rfl, (blk_cell BK145.out 3).trans rfl⟩ (fun hHeld => ?_); refine with_tabW spec_validParams.tab5 spec_validParams.bits5 (fun HT_ HW_ => ?_); generalize w12.drew = w13 at BK145 HB hHeld ⊢; refine zT 0 16 #[true, false, false, false, false, false, false, false, false, false, false, false] (take_ofW HT_.out HW_.out (by kernel_rfl)) hHeld ?_
        refine one_ (i := 1) (N := some 17) #[true, true, false, false, false, false, false, false, false, false, false, false] rfl rfl (one_of HT_.out (by kernel_rfl)) (by decide) (fun K hK => ?_); refine goes_ Try.func127 (by kernel_rfl) rfl #[.agg #[.string ((rd_T33 l0 x3_1).f0), .int .i64 ((rd_T33 l0 x3_1).f1), .bool ((rd_T33 l0 x3_1).f2), .int .i64 ((rd_T33 l0 x3_1).f3)]] (by rfl) rfl rfl zl ?_; with_reducible refine (spec_validParam.calls k1 ((rd_T33 l0 x3_1).f0) ((rd_T33 l0 x3_1).f1) ((rd_T33 l0 x3_1).f2) ((rd_T33 l0 x3_1).f3) true _ A7.out).mono ?_; rintro e w14 ⟨rfl, hb⟩; refine ⟨_, rfl, ?_⟩; replace BK145 := zc BK145 hb; replace HB := zh HB hb; (try clear hb); (try clear hb2); (try clear hk); (try clear hi); have q15 : (x3_1 : Int) ≤ ((l0.length : Int) : Int) := of_decide_eq_true za; obtain ⟨i015, hi015, _, hsz15, _⟩ := info_parts info33; have hroom15 : l0.length ≤ c0 := HC0.out; have hC15 : Kd.C k33 _ (some ad144) l0.length l0 := HR0.out; have hcut15 := cut_to (P := Try.prog) 23 33 .i64 Try.underlying23 hi015 (some ad144) l0.length c0 x3_1 (of_decide_eq_true za) q15 hroom15; have hr15 := Kd.C_take (m := (x3_1 : Int).toNat) hC15 (by omega); have hy15 : y147.length = (x3_1 : Int).toNat := (by rw [Ny147.out, List.length_take]; omega)
        rw [← Ny147.out] at hr15; rw [← hy15] at hcut15; have HR150 := Aside0.mk hr15; have HC150 := Aside0.mk (show y147.length ≤ c0 from by omega); clear hr15 hC15 hroom15 hi015 hsz15; have KY15 := Aside0.mk hy15; clear hy15; replace q15 := eq_true q15; refine hK.out _ _ ⟨(blk_cell BK145.out 0).trans rfl, (blk_cell BK145.out 1).trans rfl, (blk_cell BK145.out 2).trans rfl, (blk_cell BK145.out 3).trans rfl⟩ (fun hHeld => ?_); clear hK K; refine norm_ (a' := ?_) ?_ ?_; rotate_left
        ·show Act.put _ (some 17) _ = _
         simp only [Act.put, List.setIfInBounds_toArray, List.set_cons_zero, List.set_cons_succ, i64_w, i32_w]; rfl
        refine zu 2 18 #[true, true, true, false, false, false, false, false, false, false, false, false] (any_of HT_.out (by kernel_rfl)) ?_
        refine zu 3 19 #[true, true, true, true, false, false, false, false, false, false, false, false] (any_of HT_.out (by kernel_rfl)) ?_
        refine zu 4 20 #[true, true, true, true, true, false, false, false, false, false, false, false] (any_of HT_.out (by kernel_rfl)) ?_
        refine zu 5 21 #[true, true, true, true, true, true, false, false, false, false, false, false] (any_of HT_.out (by kernel_rfl)) ?_
        refine zu 6 22 #[true, true, true, true, true, true, true, false, false, false, false, false] (any_of HT_.out (by kernel_rfl)) ?_
        refine zu 7 23 #[true, true, true, true, true, true, true, true, false, false, false, false] (any_of HT_.out (by kernel_rfl)) ?_
        refine zT 8 24 #[true, true, true, true, true, true, true, true, true, false, false, false] (take_ofW HT_.out HW_.out (by kernel_rfl)) hHeld ?_
        refine one_ (i := 9) (N := some 25) #[true, true, true, true, true, true, true, true, true, true, false, false] rfl rfl (one_of HT_.out (by kernel_rfl)) (by decide) (fun K hK => ?_); refine goes_ Try.func55 (by kernel_rfl) rfl #[.slice (some ad144) y147.length c0, .string ((rd_T33 l0 x3_1).f0)] (by rfl) rfl rfl zl ?_; with_reducible refine (spec_findParam.calls k1 _ _ y147 ((rd_T33 l0 x3_1).f0) t151 _ ?side1 ?side2 A11.out).mono ?_
        (case side1 => exact zC HR150 HB)
        (case side2 => exact HC150.out)
        rintro e w' ⟨rfl, ⟨nd, rfl⟩⟩; refine ⟨_, rfl, ?_⟩; refine hK.out _ _ ⟨(blk_cell BK145.out 0).trans rfl, (blk_cell BK145.out 1).trans rfl, (blk_cell BK145.out 2).trans rfl, (blk_cell BK145.out 3).trans rfl⟩ (fun hHeld => ?_); clear hK K; refine norm_ (a' := ?_) ?_ ?_; rotate_left
        ·show Act.put _ (some 25) _ = _
         simp only [Act.put, List.setIfInBounds_toArray, List.set_cons_zero, List.set_cons_succ, i64_w, i32_w]; rfl
        refine zu 10 26 #[true, true, true, true, true, true, true, true, true, true, true, false] (any_of HT_.out (by kernel_rfl)) ?_
        refine zu 11 27 #[true, true, true, true, true, true, true, true, true, true, true, true] (any_of HT_.out (by kernel_rfl)) ?_
        refine done_ (done_of HT_.out (by kernel_rfl)) ?_
        try go_wp2
        go_meet
        case rel => exact ⟨_, (decide (t151 ≥ 0)), zr, H', ⟨by have := HK1.out; first | omega | exact Nat.le_refl _⟩, ⟨zb BK145⟩, ⟨zB HB⟩⟩
       ·rw [if_neg c10] at H; exact absurd H (by simp)
      ·replace c8 := Bool.eq_false_iff.mpr c8; subst c8; rw [if_neg (show ¬ (false = true) by decide)] at H; have H' := Aside0.mk H; clear H
       try go_wp2
       have n0_ : Aside0 (((((w5.setCell ⟨gb145, 0, none⟩ (.string ((rd_T33 l0 x3_1).f0))).setCell ⟨gb145, 1, none⟩ (.int .i64 ((rd_T33 l0 x3_1).f1))).setCell ⟨gb145, 2, none⟩ (.bool ((rd_T33 l0 x3_1).f2))).setCell ⟨gb145, 3, none⟩ (.int .i64 ((rd_T33 l0 x3_1).f3))).heap[gb145]? = some (.cells #[.string ((rd_T33 l0 x3_1).f0), .int .i64 ((rd_T33 l0 x3_1).f1), .bool ((rd_T33 l0 x3_1).f2), .int .i64 ((rd_T33 l0 x3_1).f3)] 33 (0, 0))) := ⟨zbp BK145⟩
       have n1_ : Aside0 (Below w.heap.size w ((((w5.setCell ⟨gb145, 0, none⟩ (.string ((rd_T33 l0 x3_1).f0))).setCell ⟨gb145, 1, none⟩ (.int .i64 ((rd_T33 l0 x3_1).f1))).setCell ⟨gb145, 2, none⟩ (.bool ((rd_T33 l0 x3_1).f2))).setCell ⟨gb145, 3, none⟩ (.int .i64 ((rd_T33 l0 x3_1).f3)))) := ⟨zB HB⟩
       (try clear BK145); (try clear HB); generalize ((((w5.setCell ⟨gb145, 0, none⟩ (.string ((rd_T33 l0 x3_1).f0))).setCell ⟨gb145, 1, none⟩ (.int .i64 ((rd_T33 l0 x3_1).f1))).setCell ⟨gb145, 2, none⟩ (.bool ((rd_T33 l0 x3_1).f2))).setCell ⟨gb145, 3, none⟩ (.int .i64 ((rd_T33 l0 x3_1).f3))) = w16 at n0_ n1_ ⊢; have BK145 := n0_; have HB := n1_; clear n0_ n1_; replace BK145 := Aside0.mk (blk_drew BK145.out); replace HB := Aside0.mk (below_drew1 HB.out); refine start_ (n := 12) (S := fun w' => w'.cell? ⟨gb145, 0, none⟩ = some (.string ((rd_T33 l0 x3_1).f0)) ∧ w'.cell? ⟨gb145, 1, none⟩ = some (.int .i64 ((rd_T33 l0 x3_1).f1)) ∧ w'.cell? ⟨gb145, 2, none⟩ = some (.bool ((rd_T33 l0 x3_1).f2)) ∧ w'.cell? ⟨gb145, 3, none⟩ = some (.int .i64 ((rd_T33 l0 x3_1).f3))) (ds := []) #[false, false, false, false, false, false, false, false, false, false, false, false] (by kernel_rfl) rfl rfl ⟨(blk_cell BK145.out 0).trans rfl, (blk_cell BK145.out 1).trans rfl, (blk_cell BK145.out 2).trans rfl, (blk_cell BK145.out 3).trans rfl⟩ (fun hHeld => ?_); refine with_tabW spec_validParams.tab5 spec_validParams.bits5 (fun HT_ HW_ => ?_); generalize w16.drew = w17 at BK145 HB hHeld ⊢; refine zT 0 16 #[true, false, false, false, false, false, false, false, false, false, false, false] (take_ofW HT_.out HW_.out (by kernel_rfl)) hHeld ?_
       refine one_ (i := 1) (N := some 17) #[true, true, false, false, false, false, false, false, false, false, false, false] rfl rfl (one_of HT_.out (by kernel_rfl)) (by decide) (fun K hK => ?_); refine goes_ Try.func127 (by kernel_rfl) rfl #[.agg #[.string ((rd_T33 l0 x3_1).f0), .int .i64 ((rd_T33 l0 x3_1).f1), .bool ((rd_T33 l0 x3_1).f2), .int .i64 ((rd_T33 l0 x3_1).f3)]] (by rfl) rfl rfl zl ?_; with_reducible refine (spec_validParam.calls k1 ((rd_T33 l0 x3_1).f0) ((rd_T33 l0 x3_1).f1) ((rd_T33 l0 x3_1).f2) ((rd_T33 l0 x3_1).f3) false _ A7.out).mono ?_; rintro e w18 ⟨rfl, hb⟩; refine ⟨_, rfl, ?_⟩; replace BK145 := zc BK145 hb; replace HB := zh HB hb; (try clear hb); (try clear hb2); (try clear hk); (try clear hi); refine hK.out _ _ ⟨(blk_cell BK145.out 0).trans rfl, (blk_cell BK145.out 1).trans rfl, (blk_cell BK145.out 2).trans rfl, (blk_cell BK145.out 3).trans rfl⟩ (fun hHeld => ?_); clear hK K; refine norm_ (a' := ?_) ?_ ?_; rotate_left
       ·show Act.put _ (some 17) _ = _
        simp only [Act.put, List.setIfInBounds_toArray, List.set_cons_zero, List.set_cons_succ, i64_w, i32_w]; rfl
       refine zu 2 18 #[true, true, true, false, false, false, false, false, false, false, false, false] (any_of HT_.out (by kernel_rfl)) ?_
       refine zu 3 19 #[true, true, true, true, false, false, false, false, false, false, false, false] (any_of HT_.out (by kernel_rfl)) ?_
       refine zU 4 20 #[true, true, true, true, true, false, false, false, false, false, false, false] (any_of HT_.out (by kernel_rfl)) ?_
       refine zU 5 21 #[true, true, true, true, true, true, false, false, false, false, false, false] (any_of HT_.out (by kernel_rfl)) ?_
       refine zU 6 22 #[true, true, true, true, true, true, true, false, false, false, false, false] (any_of HT_.out (by kernel_rfl)) ?_
       refine zU 7 23 #[true, true, true, true, true, true, true, true, false, false, false, false] (any_of HT_.out (by kernel_rfl)) ?_
       refine zU 8 24 #[true, true, true, true, true, true, true, true, true, false, false, false] (any_of HT_.out (by kernel_rfl)) ?_
       refine zU 9 25 #[true, true, true, true, true, true, true, true, true, true, false, false] (any_of HT_.out (by kernel_rfl)) ?_
       refine zU 10 26 #[true, true, true, true, true, true, true, true, true, true, true, false] (any_of HT_.out (by kernel_rfl)) ?_
       refine zu 11 27 #[true, true, true, true, true, true, true, true, true, true, true, true] (any_of HT_.out (by kernel_rfl)) ?_
       refine done_ (done_of HT_.out (by kernel_rfl)) ?_
       try go_wp2
       go_meet
       case rel => exact ⟨_, (true), zr, H', ⟨by have := HK1.out; first | omega | exact Nat.le_refl _⟩, ⟨zb BK145⟩, ⟨zB HB⟩⟩
     case rest =>
      clear HC4; (try clear c1); (try clear p1); (try clear q1); (try clear hx1); (try clear c2); (try clear c2b0); (try clear p2); (try clear c3); (try clear c3b0); (try clear c5); (try clear c8); (try clear c9); (try clear c9b0); (try clear c10); (try clear c10b0); (try clear c10b1); (try clear c12); (try clear p14); (try clear q14); (try clear hx14); (try clear q15); (try clear hcz6_0); (try clear hcz6_1); (try clear hcz6_2); (try clear hcz6_3); (try clear hfz6_0); (try clear hfz6_1); (try clear hfz6_2); (try clear hfz6_3); (try clear hx144_0); (try clear hx144_1); (try clear hx144_2); (try clear hx144_3); (try clear p144); (try clear q144); (try clear q15); obtain ⟨kq, x27_3, rfl, HA, HJ3, BK145, HB⟩ := hcut
      cases kq with
      | zero => exact absurd HA.out (by simp [spec_validParams.j1])
      | succ kj3 =>
       have H := HA.out; clear HA; simp only [spec_validParams.j1] at H
       by_cases c19 : x27_3 = true
       ·subst c19; rw [if_pos rfl] at H; obtain rfl := Option.some.inj H; go_wp2; go_ret; exact ⟨zv, zB HB⟩
       ·replace c19 := Bool.eq_false_iff.mpr c19; subst c19; rw [if_neg (show ¬ (false = true) by decide)] at H
        by_cases c20 : x3_1 = 0
        ·rw [if_pos c20] at H; have c20b0 : (x3_1 == 0) = true := beq_iff_eq.mpr c20; have c20b1 : (x3_1 != 0) = false := bne_eq_false_iff_eq.mpr c20; clear c20; have H' := Aside0.mk H; clear H; go_wp2; go_roundg kj3
         case measure => have := HK1.out; have := HJ3.out; omega
         case rel => exact ⟨(wrap64 (x3_1 + 1)), zr, H', ⟨by have := HK1.out; have := HJ3.out; omega⟩, ⟨zB HB⟩⟩
        ·rw [if_neg c20] at H; have c20b0 : (x3_1 == 0) = false := beq_eq_false_iff_ne.mpr c20; have c20b1 : (x3_1 != 0) = true := bne_iff_ne.mpr c20; obtain ⟨ji21, hji21⟩ : ∃ j_ : Int, (wrap64 (x3_1 - 1)) = j_ := ⟨_, rfl⟩
         replace H : (if 0 ≤ (ji21) then (if (ji21) < (l0.length : Int) then (if ((rd_T33 l0 x3_1).f1) < ((rd_T33 l0 (ji21)).f1) then (some false) else (if ((rd_T33 l0 x3_1).f1) = ((rd_T33 l0 (ji21)).f1) then ((spec_isSingle.f ((rd_T33 l0 x3_1).f0) ((rd_T33 l0 x3_1).f1) ((rd_T33 l0 x3_1).f2) ((rd_T33 l0 x3_1).f3)).bind fun t154 => (if t154 = true then ((spec_byPlace.f ((rd_T33 l0 x3_1).f0) ((rd_T33 l0 x3_1).f1) ((rd_T33 l0 x3_1).f2) ((rd_T33 l0 x3_1).f3)).bind fun t155 => (if t155 = true then (if (rd_T33 l0 (ji21)).f2 = true then (if ((rd_T33 l0 x3_1).f2) = true then (spec_validParams.l0 kj3 l0 (wrap64 (x3_1 + 1))) else (some false)) else (spec_validParams.l0 kj3 l0 (wrap64 (x3_1 + 1)))) else (spec_validParams.l0 kj3 l0 (wrap64 (x3_1 + 1))))) else (some false))) else ((spec_byPlace.f ((rd_T33 l0 x3_1).f0) ((rd_T33 l0 x3_1).f1) ((rd_T33 l0 x3_1).f2) ((rd_T33 l0 x3_1).f3)).bind fun t156 => (if t156 = true then (if (rd_T33 l0 (ji21)).f2 = true then (if ((rd_T33 l0 x3_1).f2) = true then (spec_validParams.l0 kj3 l0 (wrap64 (x3_1 + 1))) else (some false)) else (spec_validParams.l0 kj3 l0 (wrap64 (x3_1 + 1)))) else (spec_validParams.l0 kj3 l0 (wrap64 (x3_1 + 1))))))) else (none)) else (none)) = some r := by first | (rw [hji21] at H; exact H) | (simp only [hji21] at H ⊢; exact H)
         have hji21w : (IntKind.i64.wrap (x3_1 - 1)) = ji21 := (i64_w _).trans hji21
         by_cases c22 : 0 ≤ (ji21)
         ·rw [if_pos c22] at H; have c22b0 : decide (0 ≤ (ji21)) = true := decide_eq_true c22; clear c22
          by_cases c23 : (ji21) < (l0.length : Int)
          ·rw [if_pos c23] at H; have c23b0 : decide ((ji21) < (l0.length : Int)) = true := decide_eq_true c23; clear c23
           by_cases c24 : ((rd_T33 l0 x3_1).f1) < ((rd_T33 l0 (ji21)).f1)
           ·rw [if_pos c24] at H; have c24b0 : decide (((rd_T33 l0 x3_1).f1) < ((rd_T33 l0 (ji21)).f1)) = true := decide_eq_true c24; clear c24; obtain rfl := Option.some.inj H; have p152 : 0 ≤ ((ji21) : Int) := of_decide_eq_true za; have q152 : (ji21) < (l0.length : Int) := of_decide_eq_true za; obtain ⟨ad152, e152, hx152_0, hx152_1, hx152_2, hx152_3⟩ := at_T33 HR0.out (ji21) p152 q152; obtain rfl : ad144 = ad152 := (by injection e152)
            replace hx152_0 := zt HB hx152_0; replace hx152_1 := zt HB hx152_1; replace hx152_2 := zt HB hx152_2; replace hx152_3 := zt HB hx152_3; replace p152 := eq_true p152; replace q152 := eq_true q152; go_wp2_with (first | ((with_reducible refine gate_dst (N := 5) rfl ?_); refine zx (N := 5) (cs := #[.string (⟨#[]⟩ : ByteArray), .int .i64 0, .bool false, .int .i64 0]) (t := 33) ?_; intro gb153 hg w25 hbox hb; have BK153 := Aside0.mk (hbox); have GW153 := zg HB hg; have GE153 := GW153; replace HB := zh HB hb; obtain ⟨NB145_153, NB153_145⟩ := ze BK145 hg; replace BK145 := zc BK145 hb; clear hb hbox hg; have hnb26 := NB153_145.out; have hnc26 := NB145_153.out; obtain ⟨hcz27_0, hcz27_1, hcz27_2, hcz27_3, hfz27_0, hfz27_1, hfz27_2, hfz27_3⟩ := zy4 BK153; obtain ⟨hcz28_0, hcz28_1, hcz28_2, hcz28_3, hfz28_0, hfz28_1, hfz28_2, hfz28_3⟩ := zy4 BK145)); go_ret; exact ⟨by first | rfl | (simp [errW_none, errW_some] <;> rfl) | (simp only [← hji21]; first | rfl | (simp [errW_none, errW_some] <;> rfl)) | (simp [*, errW_none, errW_some] <;> rfl), zB HB⟩
           ·rw [if_neg c24] at H; have c24b0 : decide (((rd_T33 l0 x3_1).f1) < ((rd_T33 l0 (ji21)).f1)) = false := decide_eq_false c24; clear c24
            by_cases c29 : ((rd_T33 l0 x3_1).f1) = ((rd_T33 l0 (ji21)).f1)
            ·rw [if_pos c29] at H; have c29b0 : (((rd_T33 l0 x3_1).f1) == ((rd_T33 l0 (ji21)).f1)) = true := beq_iff_eq.mpr c29; have c29b1 : (((rd_T33 l0 x3_1).f1) != ((rd_T33 l0 (ji21)).f1)) = false := bne_eq_false_iff_eq.mpr c29; clear c29; replace H := Option.bind_eq_some_iff.mp H; obtain ⟨t154, A300, H⟩ := H
             (try dsimp only at H)
             have A30 := Aside0.mk A300; clear A300
             by_cases c31 : t154 = true
             ·subst c31; rw [if_pos rfl] at H; replace H := Option.bind_eq_some_iff.mp H; obtain ⟨t155, A320, H⟩ := H
              (try dsimp only at H)
              have A32 := Aside0.mk A320; clear A320
              by_cases c33 : t155 = true
              ·subst c33; rw [if_pos rfl] at H; obtain ⟨bq34, hbq34⟩ : ∃ b_ : Bool, b_ = ((rd_T33 l0 (ji21)).f2) := ⟨_, rfl⟩
               replace H : (if bq34 = true then (if ((rd_T33 l0 x3_1).f2) = true then (spec_validParams.l0 kj3 l0 (wrap64 (x3_1 + 1))) else (some false)) else (spec_validParams.l0 kj3 l0 (wrap64 (x3_1 + 1)))) = some r := by rw [← hbq34] at H; exact H
               (try rw [← hbq34] at BK145)
               (try rw [← hbq34] at A7)
               (try rw [← hbq34] at A11)
               (try rw [← hbq34] at A30)
               (try rw [← hbq34] at A32)
               have Nbq34 := Aside0.mk hbq34; clear hbq34
               by_cases c35 : bq34 = true
               ·subst c35; rw [if_pos rfl] at H; obtain ⟨bq36, hbq36⟩ : ∃ b_ : Bool, b_ = ((rd_T33 l0 x3_1).f2) := ⟨_, rfl⟩
                replace H : (if bq36 = true then (spec_validParams.l0 kj3 l0 (wrap64 (x3_1 + 1))) else (some false)) = some r := by rw [← hbq36] at H; exact H
                (try rw [← hbq36] at BK145)
                (try rw [← hbq36] at A7)
                (try rw [← hbq36] at A11)
                (try rw [← hbq36] at A30)
                (try rw [← hbq36] at A32)
                have Nbq36 := Aside0.mk hbq36; clear hbq36
                by_cases c37 : bq36 = true
                ·subst c37; rw [if_pos rfl] at H; have H' := Aside0.mk H; clear H; have p152 : 0 ≤ ((ji21) : Int) := of_decide_eq_true za; have q152 : (ji21) < (l0.length : Int) := of_decide_eq_true za; obtain ⟨ad152, e152, hx152_0, hx152_1, hx152_2, hx152_3⟩ := at_T33 HR0.out (ji21) p152 q152
                 (try rw [← Nbq34.out] at hx152_2)
                 (try rw [← Nbq36.out] at hx152_2)
                 obtain rfl : ad144 = ad152 := (by injection e152)
                 replace hx152_0 := zt HB hx152_0; replace hx152_1 := zt HB hx152_1; replace hx152_2 := zt HB hx152_2; replace hx152_3 := zt HB hx152_3; replace p152 := eq_true p152; replace q152 := eq_true q152; go_wp2_with (first | ((with_reducible refine gate_dst (N := 5) rfl ?_); refine zx (N := 5) (cs := #[.string (⟨#[]⟩ : ByteArray), .int .i64 0, .bool false, .int .i64 0]) (t := 33) ?_; intro gb153 hg w38 hbox hb; have BK153 := Aside0.mk (hbox); have GW153 := zg HB hg; have GE153 := GW153; replace HB := zh HB hb; obtain ⟨NB145_153, NB153_145⟩ := ze BK145 hg; replace BK145 := zc BK145 hb; clear hb hbox hg; have hnb39 := NB153_145.out; have hnc39 := NB145_153.out; obtain ⟨hcz40_0, hcz40_1, hcz40_2, hcz40_3, hfz40_0, hfz40_1, hfz40_2, hfz40_3⟩ := zy4 BK153; obtain ⟨hcz41_0, hcz41_1, hcz41_2, hcz41_3, hfz41_0, hfz41_1, hfz41_2, hfz41_3⟩ := zy4 BK145) | (go_at_call 91; (with_reducible refine (spec_isSingle.calls ((rd_T33 l0 x3_1).f0) ((rd_T33 l0 x3_1).f1) true ((rd_T33 l0 x3_1).f3) true _ A30.out).mono ?_); rintro e w42 ⟨rfl, hb⟩; replace BK145 := zc BK145 hb; replace BK153 := Aside0.mk (blk_below (g := gb153) (o := .cells #[.string ((rd_T33 l0 (ji21)).f0), .int .i64 ((rd_T33 l0 (ji21)).f1), .bool true, .int .i64 ((rd_T33 l0 (ji21)).f3)] 33 (0, 0)) (zbp BK153) hb); replace HB := zh HB hb; (try clear hb); (try clear hb2); (try clear hk); (try clear hi); obtain ⟨hcz43_0, hcz43_1, hcz43_2, hcz43_3, hfz43_0, hfz43_1, hfz43_2, hfz43_3⟩ := zy4 BK145) | (go_at_call 114; (with_reducible refine (spec_byPlace.calls ((rd_T33 l0 x3_1).f0) ((rd_T33 l0 x3_1).f1) true ((rd_T33 l0 x3_1).f3) true _ A32.out).mono ?_); rintro e w44 ⟨rfl, hb⟩; replace BK145 := zc BK145 hb; replace BK153 := zc BK153 hb; replace HB := zh HB hb; (try clear hb); (try clear hb2); (try clear hk); (try clear hi); obtain ⟨hcz45_0, hcz45_1, hcz45_2, hcz45_3, hfz45_0, hfz45_1, hfz45_2, hfz45_3⟩ := zy4 BK153; obtain ⟨hcz46_0, hcz46_1, hcz46_2, hcz46_3, hfz46_0, hfz46_1, hfz46_2, hfz46_3⟩ := zy4 BK145)); go_roundg kj3
                 case measure => have := HK1.out; have := HJ3.out; omega
                 case rel => (try rw [← Nbq34.out]); (try rw [← Nbq36.out]); exact ⟨(wrap64 (x3_1 + 1)), zr, H', ⟨by have := HK1.out; have := HJ3.out; omega⟩, ⟨zB HB⟩⟩
                ·replace c37 := Bool.eq_false_iff.mpr c37; subst c37; rw [if_neg (show ¬ (false = true) by decide)] at H; obtain rfl := Option.some.inj H; have p152 : 0 ≤ ((ji21) : Int) := of_decide_eq_true za; have q152 : (ji21) < (l0.length : Int) := of_decide_eq_true za; obtain ⟨ad152, e152, hx152_0, hx152_1, hx152_2, hx152_3⟩ := at_T33 HR0.out (ji21) p152 q152
                 (try rw [← Nbq34.out] at hx152_2)
                 (try rw [← Nbq36.out] at hx152_2)
                 obtain rfl : ad144 = ad152 := (by injection e152)
                 replace hx152_0 := zt HB hx152_0; replace hx152_1 := zt HB hx152_1; replace hx152_2 := zt HB hx152_2; replace hx152_3 := zt HB hx152_3; replace p152 := eq_true p152; replace q152 := eq_true q152; go_wp2_with (first | ((with_reducible refine gate_dst (N := 5) rfl ?_); refine zx (N := 5) (cs := #[.string (⟨#[]⟩ : ByteArray), .int .i64 0, .bool false, .int .i64 0]) (t := 33) ?_; intro gb153 hg w47 hbox hb; have BK153 := Aside0.mk (hbox); have GW153 := zg HB hg; have GE153 := GW153; replace HB := zh HB hb; obtain ⟨NB145_153, NB153_145⟩ := ze BK145 hg; replace BK145 := zc BK145 hb; clear hb hbox hg; have hnb48 := NB153_145.out; have hnc48 := NB145_153.out; obtain ⟨hcz49_0, hcz49_1, hcz49_2, hcz49_3, hfz49_0, hfz49_1, hfz49_2, hfz49_3⟩ := zy4 BK153; obtain ⟨hcz50_0, hcz50_1, hcz50_2, hcz50_3, hfz50_0, hfz50_1, hfz50_2, hfz50_3⟩ := zy4 BK145) | (go_at_call 91; (with_reducible refine (spec_isSingle.calls ((rd_T33 l0 x3_1).f0) ((rd_T33 l0 x3_1).f1) false ((rd_T33 l0 x3_1).f3) true _ A30.out).mono ?_); rintro e w51 ⟨rfl, hb⟩; replace BK145 := zc BK145 hb; replace BK153 := Aside0.mk (blk_below (g := gb153) (o := .cells #[.string ((rd_T33 l0 (ji21)).f0), .int .i64 ((rd_T33 l0 (ji21)).f1), .bool true, .int .i64 ((rd_T33 l0 (ji21)).f3)] 33 (0, 0)) (zbp BK153) hb); replace HB := zh HB hb; (try clear hb); (try clear hb2); (try clear hk); (try clear hi); obtain ⟨hcz52_0, hcz52_1, hcz52_2, hcz52_3, hfz52_0, hfz52_1, hfz52_2, hfz52_3⟩ := zy4 BK145) | (go_at_call 114; (with_reducible refine (spec_byPlace.calls ((rd_T33 l0 x3_1).f0) ((rd_T33 l0 x3_1).f1) false ((rd_T33 l0 x3_1).f3) true _ A32.out).mono ?_); rintro e w53 ⟨rfl, hb⟩; replace BK145 := zc BK145 hb; replace BK153 := zc BK153 hb; replace HB := zh HB hb; (try clear hb); (try clear hb2); (try clear hk); (try clear hi); obtain ⟨hcz54_0, hcz54_1, hcz54_2, hcz54_3, hfz54_0, hfz54_1, hfz54_2, hfz54_3⟩ := zy4 BK153; obtain ⟨hcz55_0, hcz55_1, hcz55_2, hcz55_3, hfz55_0, hfz55_1, hfz55_2, hfz55_3⟩ := zy4 BK145)); go_ret; exact ⟨by first | rfl | (simp [errW_none, errW_some] <;> rfl) | (simp only [← hji21]; first | rfl | (simp [errW_none, errW_some] <;> rfl)) | (simp [*, errW_none, errW_some] <;> rfl), zB HB⟩
               ·replace c35 := Bool.eq_false_iff.mpr c35; subst c35; rw [if_neg (show ¬ (false = true) by decide)] at H; have H' := Aside0.mk H; clear H; have p152 : 0 ≤ ((ji21) : Int) := of_decide_eq_true za; have q152 : (ji21) < (l0.length : Int) := of_decide_eq_true za; obtain ⟨ad152, e152, hx152_0, hx152_1, hx152_2, hx152_3⟩ := at_T33 HR0.out (ji21) p152 q152
                (try rw [← Nbq34.out] at hx152_2)
                obtain rfl : ad144 = ad152 := (by injection e152)
                replace hx152_0 := zt HB hx152_0; replace hx152_1 := zt HB hx152_1; replace hx152_2 := zt HB hx152_2; replace hx152_3 := zt HB hx152_3; replace p152 := eq_true p152; replace q152 := eq_true q152; go_wp2_with (first | ((with_reducible refine gate_dst (N := 5) rfl ?_); refine zx (N := 5) (cs := #[.string (⟨#[]⟩ : ByteArray), .int .i64 0, .bool false, .int .i64 0]) (t := 33) ?_; intro gb153 hg w56 hbox hb; have BK153 := Aside0.mk (hbox); have GW153 := zg HB hg; have GE153 := GW153; replace HB := zh HB hb; obtain ⟨NB145_153, NB153_145⟩ := ze BK145 hg; replace BK145 := zc BK145 hb; clear hb hbox hg; have hnb57 := NB153_145.out; have hnc57 := NB145_153.out; obtain ⟨hcz58_0, hcz58_1, hcz58_2, hcz58_3, hfz58_0, hfz58_1, hfz58_2, hfz58_3⟩ := zy4 BK153; obtain ⟨hcz59_0, hcz59_1, hcz59_2, hcz59_3, hfz59_0, hfz59_1, hfz59_2, hfz59_3⟩ := zy4 BK145) | (go_at_call 91; (with_reducible refine (spec_isSingle.calls ((rd_T33 l0 x3_1).f0) ((rd_T33 l0 x3_1).f1) ((rd_T33 l0 x3_1).f2) ((rd_T33 l0 x3_1).f3) true _ A30.out).mono ?_); rintro e w60 ⟨rfl, hb⟩; replace BK145 := zc BK145 hb; replace BK153 := Aside0.mk (blk_below (g := gb153) (o := .cells #[.string ((rd_T33 l0 (ji21)).f0), .int .i64 ((rd_T33 l0 (ji21)).f1), .bool false, .int .i64 ((rd_T33 l0 (ji21)).f3)] 33 (0, 0)) (zbp BK153) hb); replace HB := zh HB hb; (try clear hb); (try clear hb2); (try clear hk); (try clear hi); obtain ⟨hcz61_0, hcz61_1, hcz61_2, hcz61_3, hfz61_0, hfz61_1, hfz61_2, hfz61_3⟩ := zy4 BK145) | (go_at_call 114; (with_reducible refine (spec_byPlace.calls ((rd_T33 l0 x3_1).f0) ((rd_T33 l0 x3_1).f1) ((rd_T33 l0 x3_1).f2) ((rd_T33 l0 x3_1).f3) true _ A32.out).mono ?_); rintro e w62 ⟨rfl, hb⟩; replace BK145 := zc BK145 hb; replace BK153 := zc BK153 hb; replace HB := zh HB hb; (try clear hb); (try clear hb2); (try clear hk); (try clear hi); obtain ⟨hcz63_0, hcz63_1, hcz63_2, hcz63_3, hfz63_0, hfz63_1, hfz63_2, hfz63_3⟩ := zy4 BK153)); go_roundg kj3
                case measure => have := HK1.out; have := HJ3.out; omega
                case rel => (try rw [← Nbq34.out]); exact ⟨(wrap64 (x3_1 + 1)), zr, H', ⟨by have := HK1.out; have := HJ3.out; omega⟩, ⟨zB HB⟩⟩
              ·replace c33 := Bool.eq_false_iff.mpr c33; subst c33; rw [if_neg (show ¬ (false = true) by decide)] at H; have H' := Aside0.mk H; clear H; have p152 : 0 ≤ ((ji21) : Int) := of_decide_eq_true za; have q152 : (ji21) < (l0.length : Int) := of_decide_eq_true za; obtain ⟨ad152, e152, hx152_0, hx152_1, hx152_2, hx152_3⟩ := at_T33 HR0.out (ji21) p152 q152; obtain rfl : ad144 = ad152 := (by injection e152)
               replace hx152_0 := zt HB hx152_0; replace hx152_1 := zt HB hx152_1; replace hx152_2 := zt HB hx152_2; replace hx152_3 := zt HB hx152_3; replace p152 := eq_true p152; replace q152 := eq_true q152; go_wp2_with (first | ((with_reducible refine gate_dst (N := 5) rfl ?_); refine zx (N := 5) (cs := #[.string (⟨#[]⟩ : ByteArray), .int .i64 0, .bool false, .int .i64 0]) (t := 33) ?_; intro gb153 hg w64 hbox hb; have BK153 := Aside0.mk (hbox); have GW153 := zg HB hg; have GE153 := GW153; replace HB := zh HB hb; obtain ⟨NB145_153, NB153_145⟩ := ze BK145 hg; replace BK145 := zc BK145 hb; clear hb hbox hg; have hnb65 := NB153_145.out; have hnc65 := NB145_153.out; obtain ⟨hcz66_0, hcz66_1, hcz66_2, hcz66_3, hfz66_0, hfz66_1, hfz66_2, hfz66_3⟩ := zy4 BK153; obtain ⟨hcz67_0, hcz67_1, hcz67_2, hcz67_3, hfz67_0, hfz67_1, hfz67_2, hfz67_3⟩ := zy4 BK145) | (go_at_call 91; (with_reducible refine (spec_isSingle.calls ((rd_T33 l0 x3_1).f0) ((rd_T33 l0 x3_1).f1) ((rd_T33 l0 x3_1).f2) ((rd_T33 l0 x3_1).f3) true _ A30.out).mono ?_); rintro e w68 ⟨rfl, hb⟩; replace BK145 := zc BK145 hb; replace BK153 := Aside0.mk (blk_below (g := gb153) (o := .cells #[.string ((rd_T33 l0 (ji21)).f0), .int .i64 ((rd_T33 l0 (ji21)).f1), .bool ((rd_T33 l0 (ji21)).f2), .int .i64 ((rd_T33 l0 (ji21)).f3)] 33 (0, 0)) (zbp BK153) hb); replace HB := zh HB hb; (try clear hb); (try clear hb2); (try clear hk); (try clear hi); obtain ⟨hcz69_0, hcz69_1, hcz69_2, hcz69_3, hfz69_0, hfz69_1, hfz69_2, hfz69_3⟩ := zy4 BK145) | (go_at_call 114; (with_reducible refine (spec_byPlace.calls ((rd_T33 l0 x3_1).f0) ((rd_T33 l0 x3_1).f1) ((rd_T33 l0 x3_1).f2) ((rd_T33 l0 x3_1).f3) false _ A32.out).mono ?_); rintro e w70 ⟨rfl, hb⟩; replace BK145 := zc BK145 hb; replace BK153 := zc BK153 hb; replace HB := zh HB hb; (try clear hb); (try clear hb2); (try clear hk); (try clear hi))); go_roundg kj3
               case measure => have := HK1.out; have := HJ3.out; omega
               case rel => exact ⟨(wrap64 (x3_1 + 1)), zr, H', ⟨by have := HK1.out; have := HJ3.out; omega⟩, ⟨zB HB⟩⟩
             ·replace c31 := Bool.eq_false_iff.mpr c31; subst c31; rw [if_neg (show ¬ (false = true) by decide)] at H; obtain rfl := Option.some.inj H; have p152 : 0 ≤ ((ji21) : Int) := of_decide_eq_true za; have q152 : (ji21) < (l0.length : Int) := of_decide_eq_true za; obtain ⟨ad152, e152, hx152_0, hx152_1, hx152_2, hx152_3⟩ := at_T33 HR0.out (ji21) p152 q152; obtain rfl : ad144 = ad152 := (by injection e152)
              replace hx152_0 := zt HB hx152_0; replace hx152_1 := zt HB hx152_1; replace hx152_2 := zt HB hx152_2; replace hx152_3 := zt HB hx152_3; replace p152 := eq_true p152; replace q152 := eq_true q152; go_wp2_with (first | ((with_reducible refine gate_dst (N := 5) rfl ?_); refine zx (N := 5) (cs := #[.string (⟨#[]⟩ : ByteArray), .int .i64 0, .bool false, .int .i64 0]) (t := 33) ?_; intro gb153 hg w71 hbox hb; have BK153 := Aside0.mk (hbox); have GW153 := zg HB hg; have GE153 := GW153; replace HB := zh HB hb; obtain ⟨NB145_153, NB153_145⟩ := ze BK145 hg; replace BK145 := zc BK145 hb; clear hb hbox hg; have hnb72 := NB153_145.out; have hnc72 := NB145_153.out; obtain ⟨hcz73_0, hcz73_1, hcz73_2, hcz73_3, hfz73_0, hfz73_1, hfz73_2, hfz73_3⟩ := zy4 BK153; obtain ⟨hcz74_0, hcz74_1, hcz74_2, hcz74_3, hfz74_0, hfz74_1, hfz74_2, hfz74_3⟩ := zy4 BK145) | (go_at_call 91; (with_reducible refine (spec_isSingle.calls ((rd_T33 l0 x3_1).f0) ((rd_T33 l0 x3_1).f1) ((rd_T33 l0 x3_1).f2) ((rd_T33 l0 x3_1).f3) false _ A30.out).mono ?_); rintro e w75 ⟨rfl, hb⟩; replace BK145 := zc BK145 hb; replace BK153 := Aside0.mk (blk_below (g := gb153) (o := .cells #[.string ((rd_T33 l0 (ji21)).f0), .int .i64 ((rd_T33 l0 (ji21)).f1), .bool ((rd_T33 l0 (ji21)).f2), .int .i64 ((rd_T33 l0 (ji21)).f3)] 33 (0, 0)) (zbp BK153) hb); replace HB := zh HB hb; (try clear hb); (try clear hb2); (try clear hk); (try clear hi))); go_ret; exact ⟨by first | rfl | (simp [errW_none, errW_some] <;> rfl) | (simp only [← hji21]; first | rfl | (simp [errW_none, errW_some] <;> rfl)) | (simp [*, errW_none, errW_some] <;> rfl), zB HB⟩
            ·rw [if_neg c29] at H; have c29b0 : (((rd_T33 l0 x3_1).f1) == ((rd_T33 l0 (ji21)).f1)) = false := beq_eq_false_iff_ne.mpr c29; have c29b1 : (((rd_T33 l0 x3_1).f1) != ((rd_T33 l0 (ji21)).f1)) = true := bne_iff_ne.mpr c29; replace H := Option.bind_eq_some_iff.mp H; obtain ⟨t156, A760, H⟩ := H
             (try dsimp only at H)
             have A76 := Aside0.mk A760; clear A760
             by_cases c77 : t156 = true
             ·subst c77; rw [if_pos rfl] at H; obtain ⟨bq78, hbq78⟩ : ∃ b_ : Bool, b_ = ((rd_T33 l0 (ji21)).f2) := ⟨_, rfl⟩
              replace H : (if bq78 = true then (if ((rd_T33 l0 x3_1).f2) = true then (spec_validParams.l0 kj3 l0 (wrap64 (x3_1 + 1))) else (some false)) else (spec_validParams.l0 kj3 l0 (wrap64 (x3_1 + 1)))) = some r := by rw [← hbq78] at H; exact H
              (try rw [← hbq78] at BK145)
              (try rw [← hbq78] at A7)
              (try rw [← hbq78] at A11)
              (try rw [← hbq78] at A30)
              (try rw [← hbq78] at A32)
              (try rw [← hbq78] at A76)
              have Nbq78 := Aside0.mk hbq78; clear hbq78
              by_cases c79 : bq78 = true
              ·subst c79; rw [if_pos rfl] at H; obtain ⟨bq80, hbq80⟩ : ∃ b_ : Bool, b_ = ((rd_T33 l0 x3_1).f2) := ⟨_, rfl⟩
               replace H : (if bq80 = true then (spec_validParams.l0 kj3 l0 (wrap64 (x3_1 + 1))) else (some false)) = some r := by rw [← hbq80] at H; exact H
               (try rw [← hbq80] at BK145)
               (try rw [← hbq80] at A7)
               (try rw [← hbq80] at A11)
               (try rw [← hbq80] at A30)
               (try rw [← hbq80] at A32)
               (try rw [← hbq80] at A76)
               have Nbq80 := Aside0.mk hbq80; clear hbq80
               by_cases c81 : bq80 = true
               ·subst c81; rw [if_pos rfl] at H; have H' := Aside0.mk H; clear H; have p152 : 0 ≤ ((ji21) : Int) := of_decide_eq_true za; have q152 : (ji21) < (l0.length : Int) := of_decide_eq_true za; obtain ⟨ad152, e152, hx152_0, hx152_1, hx152_2, hx152_3⟩ := at_T33 HR0.out (ji21) p152 q152
                (try rw [← Nbq78.out] at hx152_2)
                (try rw [← Nbq80.out] at hx152_2)
                obtain rfl : ad144 = ad152 := (by injection e152)
                replace hx152_0 := zt HB hx152_0; replace hx152_1 := zt HB hx152_1; replace hx152_2 := zt HB hx152_2; replace hx152_3 := zt HB hx152_3; replace p152 := eq_true p152; replace q152 := eq_true q152; go_wp2_with (first | ((with_reducible refine gate_dst (N := 5) rfl ?_); refine zx (N := 5) (cs := #[.string (⟨#[]⟩ : ByteArray), .int .i64 0, .bool false, .int .i64 0]) (t := 33) ?_; intro gb153 hg w82 hbox hb; have BK153 := Aside0.mk (hbox); have GW153 := zg HB hg; have GE153 := GW153; replace HB := zh HB hb; obtain ⟨NB145_153, NB153_145⟩ := ze BK145 hg; replace BK145 := zc BK145 hb; clear hb hbox hg; have hnb83 := NB153_145.out; have hnc83 := NB145_153.out; obtain ⟨hcz84_0, hcz84_1, hcz84_2, hcz84_3, hfz84_0, hfz84_1, hfz84_2, hfz84_3⟩ := zy4 BK153; obtain ⟨hcz85_0, hcz85_1, hcz85_2, hcz85_3, hfz85_0, hfz85_1, hfz85_2, hfz85_3⟩ := zy4 BK145) | (go_at_call 114; (with_reducible refine (spec_byPlace.calls ((rd_T33 l0 x3_1).f0) ((rd_T33 l0 x3_1).f1) true ((rd_T33 l0 x3_1).f3) true _ A76.out).mono ?_); rintro e w86 ⟨rfl, hb⟩; replace BK145 := zc BK145 hb; replace BK153 := Aside0.mk (blk_below (g := gb153) (o := .cells #[.string ((rd_T33 l0 (ji21)).f0), .int .i64 ((rd_T33 l0 (ji21)).f1), .bool true, .int .i64 ((rd_T33 l0 (ji21)).f3)] 33 (0, 0)) (zbp BK153) hb); replace HB := zh HB hb; (try clear hb); (try clear hb2); (try clear hk); (try clear hi); obtain ⟨hcz87_0, hcz87_1, hcz87_2, hcz87_3, hfz87_0, hfz87_1, hfz87_2, hfz87_3⟩ := zy4 BK153; obtain ⟨hcz88_0, hcz88_1, hcz88_2, hcz88_3, hfz88_0, hfz88_1, hfz88_2, hfz88_3⟩ := zy4 BK145)); go_roundg kj3
                case measure => have := HK1.out; have := HJ3.out; omega
                case rel => (try rw [← Nbq78.out]); (try rw [← Nbq80.out]); exact ⟨(wrap64 (x3_1 + 1)), zr, H', ⟨by have := HK1.out; have := HJ3.out; omega⟩, ⟨zB HB⟩⟩
               ·replace c81 := Bool.eq_false_iff.mpr c81; subst c81; rw [if_neg (show ¬ (false = true) by decide)] at H; obtain rfl := Option.some.inj H; have p152 : 0 ≤ ((ji21) : Int) := of_decide_eq_true za; have q152 : (ji21) < (l0.length : Int) := of_decide_eq_true za; obtain ⟨ad152, e152, hx152_0, hx152_1, hx152_2, hx152_3⟩ := at_T33 HR0.out (ji21) p152 q152
                (try rw [← Nbq78.out] at hx152_2)
                (try rw [← Nbq80.out] at hx152_2)
                obtain rfl : ad144 = ad152 := (by injection e152)
                replace hx152_0 := zt HB hx152_0; replace hx152_1 := zt HB hx152_1; replace hx152_2 := zt HB hx152_2; replace hx152_3 := zt HB hx152_3; replace p152 := eq_true p152; replace q152 := eq_true q152; go_wp2_with (first | ((with_reducible refine gate_dst (N := 5) rfl ?_); refine zx (N := 5) (cs := #[.string (⟨#[]⟩ : ByteArray), .int .i64 0, .bool false, .int .i64 0]) (t := 33) ?_; intro gb153 hg w89 hbox hb; have BK153 := Aside0.mk (hbox); have GW153 := zg HB hg; have GE153 := GW153; replace HB := zh HB hb; obtain ⟨NB145_153, NB153_145⟩ := ze BK145 hg; replace BK145 := zc BK145 hb; clear hb hbox hg; have hnb90 := NB153_145.out; have hnc90 := NB145_153.out; obtain ⟨hcz91_0, hcz91_1, hcz91_2, hcz91_3, hfz91_0, hfz91_1, hfz91_2, hfz91_3⟩ := zy4 BK153; obtain ⟨hcz92_0, hcz92_1, hcz92_2, hcz92_3, hfz92_0, hfz92_1, hfz92_2, hfz92_3⟩ := zy4 BK145) | (go_at_call 114; (with_reducible refine (spec_byPlace.calls ((rd_T33 l0 x3_1).f0) ((rd_T33 l0 x3_1).f1) false ((rd_T33 l0 x3_1).f3) true _ A76.out).mono ?_); rintro e w93 ⟨rfl, hb⟩; replace BK145 := zc BK145 hb; replace BK153 := Aside0.mk (blk_below (g := gb153) (o := .cells #[.string ((rd_T33 l0 (ji21)).f0), .int .i64 ((rd_T33 l0 (ji21)).f1), .bool true, .int .i64 ((rd_T33 l0 (ji21)).f3)] 33 (0, 0)) (zbp BK153) hb); replace HB := zh HB hb; (try clear hb); (try clear hb2); (try clear hk); (try clear hi); obtain ⟨hcz94_0, hcz94_1, hcz94_2, hcz94_3, hfz94_0, hfz94_1, hfz94_2, hfz94_3⟩ := zy4 BK153; obtain ⟨hcz95_0, hcz95_1, hcz95_2, hcz95_3, hfz95_0, hfz95_1, hfz95_2, hfz95_3⟩ := zy4 BK145)); go_ret; exact ⟨by first | rfl | (simp [errW_none, errW_some] <;> rfl) | (simp only [← hji21]; first | rfl | (simp [errW_none, errW_some] <;> rfl)) | (simp [*, errW_none, errW_some] <;> rfl), zB HB⟩
              ·replace c79 := Bool.eq_false_iff.mpr c79; subst c79; rw [if_neg (show ¬ (false = true) by decide)] at H; have H' := Aside0.mk H; clear H; have p152 : 0 ≤ ((ji21) : Int) := of_decide_eq_true za; have q152 : (ji21) < (l0.length : Int) := of_decide_eq_true za; obtain ⟨ad152, e152, hx152_0, hx152_1, hx152_2, hx152_3⟩ := at_T33 HR0.out (ji21) p152 q152
               (try rw [← Nbq78.out] at hx152_2)
               obtain rfl : ad144 = ad152 := (by injection e152)
               replace hx152_0 := zt HB hx152_0; replace hx152_1 := zt HB hx152_1; replace hx152_2 := zt HB hx152_2; replace hx152_3 := zt HB hx152_3; replace p152 := eq_true p152; replace q152 := eq_true q152; go_wp2_with (first | ((with_reducible refine gate_dst (N := 5) rfl ?_); refine zx (N := 5) (cs := #[.string (⟨#[]⟩ : ByteArray), .int .i64 0, .bool false, .int .i64 0]) (t := 33) ?_; intro gb153 hg w96 hbox hb; have BK153 := Aside0.mk (hbox); have GW153 := zg HB hg; have GE153 := GW153; replace HB := zh HB hb; obtain ⟨NB145_153, NB153_145⟩ := ze BK145 hg; replace BK145 := zc BK145 hb; clear hb hbox hg; have hnb97 := NB153_145.out; have hnc97 := NB145_153.out; obtain ⟨hcz98_0, hcz98_1, hcz98_2, hcz98_3, hfz98_0, hfz98_1, hfz98_2, hfz98_3⟩ := zy4 BK153; obtain ⟨hcz99_0, hcz99_1, hcz99_2, hcz99_3, hfz99_0, hfz99_1, hfz99_2, hfz99_3⟩ := zy4 BK145) | (go_at_call 114; (with_reducible refine (spec_byPlace.calls ((rd_T33 l0 x3_1).f0) ((rd_T33 l0 x3_1).f1) ((rd_T33 l0 x3_1).f2) ((rd_T33 l0 x3_1).f3) true _ A76.out).mono ?_); rintro e w100 ⟨rfl, hb⟩; replace BK145 := zc BK145 hb; replace BK153 := Aside0.mk (blk_below (g := gb153) (o := .cells #[.string ((rd_T33 l0 (ji21)).f0), .int .i64 ((rd_T33 l0 (ji21)).f1), .bool false, .int .i64 ((rd_T33 l0 (ji21)).f3)] 33 (0, 0)) (zbp BK153) hb); replace HB := zh HB hb; (try clear hb); (try clear hb2); (try clear hk); (try clear hi); obtain ⟨hcz101_0, hcz101_1, hcz101_2, hcz101_3, hfz101_0, hfz101_1, hfz101_2, hfz101_3⟩ := zy4 BK153)); go_roundg kj3
               case measure => have := HK1.out; have := HJ3.out; omega
               case rel => (try rw [← Nbq78.out]); exact ⟨(wrap64 (x3_1 + 1)), zr, H', ⟨by have := HK1.out; have := HJ3.out; omega⟩, ⟨zB HB⟩⟩
             ·replace c77 := Bool.eq_false_iff.mpr c77; subst c77; rw [if_neg (show ¬ (false = true) by decide)] at H; have H' := Aside0.mk H; clear H; have p152 : 0 ≤ ((ji21) : Int) := of_decide_eq_true za; have q152 : (ji21) < (l0.length : Int) := of_decide_eq_true za; obtain ⟨ad152, e152, hx152_0, hx152_1, hx152_2, hx152_3⟩ := at_T33 HR0.out (ji21) p152 q152; obtain rfl : ad144 = ad152 := (by injection e152)
              replace hx152_0 := zt HB hx152_0; replace hx152_1 := zt HB hx152_1; replace hx152_2 := zt HB hx152_2; replace hx152_3 := zt HB hx152_3; replace p152 := eq_true p152; replace q152 := eq_true q152; go_wp2_with (first | ((with_reducible refine gate_dst (N := 5) rfl ?_); refine zx (N := 5) (cs := #[.string (⟨#[]⟩ : ByteArray), .int .i64 0, .bool false, .int .i64 0]) (t := 33) ?_; intro gb153 hg w102 hbox hb; have BK153 := Aside0.mk (hbox); have GW153 := zg HB hg; have GE153 := GW153; replace HB := zh HB hb; obtain ⟨NB145_153, NB153_145⟩ := ze BK145 hg; replace BK145 := zc BK145 hb; clear hb hbox hg; have hnb103 := NB153_145.out; have hnc103 := NB145_153.out; obtain ⟨hcz104_0, hcz104_1, hcz104_2, hcz104_3, hfz104_0, hfz104_1, hfz104_2, hfz104_3⟩ := zy4 BK153; obtain ⟨hcz105_0, hcz105_1, hcz105_2, hcz105_3, hfz105_0, hfz105_1, hfz105_2, hfz105_3⟩ := zy4 BK145) | (go_at_call 114; (with_reducible refine (spec_byPlace.calls ((rd_T33 l0 x3_1).f0) ((rd_T33 l0 x3_1).f1) ((rd_T33 l0 x3_1).f2) ((rd_T33 l0 x3_1).f3) false _ A76.out).mono ?_); rintro e w106 ⟨rfl, hb⟩; replace BK145 := zc BK145 hb; replace BK153 := Aside0.mk (blk_below (g := gb153) (o := .cells #[.string ((rd_T33 l0 (ji21)).f0), .int .i64 ((rd_T33 l0 (ji21)).f1), .bool ((rd_T33 l0 (ji21)).f2), .int .i64 ((rd_T33 l0 (ji21)).f3)] 33 (0, 0)) (zbp BK153) hb); replace HB := zh HB hb; (try clear hb); (try clear hb2); (try clear hk); (try clear hi))); go_roundg kj3
              case measure => have := HK1.out; have := HJ3.out; omega
              case rel => exact ⟨(wrap64 (x3_1 + 1)), zr, H', ⟨by have := HK1.out; have := HJ3.out; omega⟩, ⟨zB HB⟩⟩
          ·rw [if_neg c23] at H; exact absurd H (by simp)
         ·rw [if_neg c22] at H; exact absurd H (by simp)
    ·rw [if_neg c3] at H; exact absurd H (by simp)
   ·rw [if_neg c2] at H; have c2b0 : decide (x3_1 < (l0.length : Int)) = false := decide_eq_false c2; clear c2; obtain rfl := Option.some.inj H; go_wp2; go_ret; exact ⟨zv, zB HB⟩

end Go.Proofs.Ytlpmggokgcphiaa.Q

namespace Go.Proofs.Ytlpmggokgcphiaa.Q
open Go.RowKit Go.Proofs.YtlpmggokgcphiaaL.PrintWords Go.Proofs.YtlpmggokgcphiaaL.PrintLast Go.Proofs.YtlpmggokgcphiaaL.PrintMore
attribute [local go_sem] max2_int min2_int max_two min_two max_three min_three max_four min_four   -- for this text's walks alone
set_option linter.unusedVariables false
set_option linter.unusedSimpArgs false

theorem zi117_8 {w0 W W' : World} {g : Nat} {f0 f0' : List Int} {f1 f1' : Int} (h : Aside0 (IsS117 w0 W g f0 f1)) (i : IsS117 w0 W g f0 f1 → IsS117 w0 W' g f0' f1' := by intro hh_; repeat (first | (with_reducible first | exact hh_ | apply IsS117.alloc | apply IsS117.drewN | apply IsS117.drew | apply IsS117.set_1 | refine IsS117.far ?_ (Aside0.out (by assumption)) _) | exact hh_)) : IsS117 w0 W' g f0' f1' := i h.out
theorem zj117_8 {B : Nat} {w W W' : World} (h : Aside0 (Below B w W)) (i : Below B w W → Below B w W' := by intro hh_; repeat (first | (with_reducible first | exact hh_ | apply below_alloc | apply pw_below_drewN | apply below_drew1 | refine below_set ?_ (IsS117.ge (Aside0.out (by assumption))) | refine below_set ?_ (Aside0.out (by assumption))) | exact hh_)) : Below B w W' := i h.out
/-! ### spec_aNumber: function 105 -/
def spec_aNumber.f (k : Nat) (s0_0 : List Int) (s0_1 : Int) : Option (Int × Int) := (spec_reader_one.f k s0_0 s0_1 (([1, 2, 3, 0, 5, (-1), 7, 99, (-99)] : List Int))).bind fun bt160 => (some (bt160.1, bt160.2))
theorem spec_aNumber.mono : ∀ a0 a1 k, LeO (spec_aNumber.f k a0 a1) (spec_aNumber.f (k + 1) a0 a1) := by
 intro a0 a1 k; unfold spec_aNumber.f
 repeat' first
   | (with_reducible exact spec_reader_one.mono _ _ _ _)
   | (with_reducible exact LeO.refl _)
   | (with_reducible exact LeO.none _)
   | (with_reducible refine LeO.ite ?_ ?_)
   | (with_reducible refine LeO.bind ?_ (fun _ => ?_))
   | exact spec_reader_one.mono _ _ _ _
   | exact LeO.none _
   | refine LeO.ite ?_ ?_
   | refine LeO.bind ?_ (fun _ => ?_)
set_option maxHeartbeats 8000000 in
set_option maxRecDepth 100000 in
theorem spec_aNumber.calls (k : Nat) (g : Nat) (s0_0 : List Int) (s0_1 : Int) (r1 : Int) (r2 : Int) (w0 w : World) (hI : IsS117 w0 w g s0_0 s0_1) (hB : Below w0.heap.size w0 w) (h : spec_aNumber.f k s0_0 s0_1 = some (r1, r2)) :
  Calls Try.prog 105 #[.pointer (some ⟨g, 0, none⟩)] w fun e w' => e = .returned (.int .i64 r1) ∧ IsS117 w0 w' g s0_0 r2 ∧ Below w0.heap.size w0 w' ∧ KeepBut w w' g none := by
 have HI0 := Aside0.mk hI; have HK := Aside0.mk (KeepBut.refl w g none); have HL := Aside0.mk hB.size; clear hI; have HW0 := Aside0.mk hB.size; have HB := Aside0.mk hB; clear hB; have H : ((spec_reader_one.f k s0_0 s0_1 (([1, 2, 3, 0, 5, (-1), 7, 99, (-99)] : List Int))).bind fun bt160 => (some (bt160.1, bt160.2))) = some (r1, r2) := h; clear h; obtain ⟨y157, hy157⟩ : ∃ y_ : List Int, y_ = (([1, 2, 3, 0, 5, (-1), 7, 99, (-99)] : List Int)) := ⟨_, rfl⟩
 replace H : ((spec_reader_one.f k s0_0 s0_1 y157).bind fun bt160 => (some (bt160.1, bt160.2))) = some (r1, r2) := by first | (rw [hy157]; with_reducible exact H) | (have H2_ := (Option.bind_some _ _).symm.trans H; rw [hy157]; with_reducible exact H2_) | (have H2_ := (Option.bind_some _ _).symm.trans H; with_reducible exact H2_) | with_reducible exact H | (rw [hy157]; exact H) | exact H
 have Ny157 := Aside0.mk hy157; clear hy157; replace H := Option.bind_eq_some_iff.mp H; obtain ⟨⟨t160, t161⟩, A20, H⟩ := H
 (try dsimp only at H)
 have A2 := Aside0.mk A20; clear A20; simp only [Option.some.injEq, Prod.mk.injEq] at H; obtain ⟨rfl, rfl⟩ := H; go_enter Try.func105, Try.ntmps105; go_wp2_with (first | ((with_reducible refine gate_dst (N := 4) rfl ?_); refine Kd.R_lit (Kd.int .i64) _ 3 ?hg (N := 4) ?hd (xs := ([1, 2, 3, 0, 5, (-1), 7, 99, (-99)] : List Int)) (inner := [.int .i64 1, .int .i64 2, .int .i64 3, .int .i64 0, .int .i64 5, .int .i64 (-1), .int .i64 7, .int .i64 99, .int .i64 (-99)]) (ok := fun _ => True) (okp := fun _ => True) ?hr ?hp (fun _ hk => hk) trivial (Below.refl _ _) (Nat.le_refl _) (by simp) ?_; (case hd => rfl); (case hg => rfl); (case hr => first | (go_simp; done) | (go_simp; rfl)); (case hp => exact (Reps.one (show Kd.M (Kd.int .i64) _ _ _ 1 [.int .i64 1] from rfl) (Reps.one (show Kd.M (Kd.int .i64) _ _ _ 2 [.int .i64 2] from rfl) (Reps.one (show Kd.M (Kd.int .i64) _ _ _ 3 [.int .i64 3] from rfl) (Reps.one (show Kd.M (Kd.int .i64) _ _ _ 0 [.int .i64 0] from rfl) (Reps.one (show Kd.M (Kd.int .i64) _ _ _ 5 [.int .i64 5] from rfl) (Reps.one (show Kd.M (Kd.int .i64) _ _ _ (-1) [.int .i64 (-1)] from rfl) (Reps.one (show Kd.M (Kd.int .i64) _ _ _ 7 [.int .i64 7] from rfl) (Reps.one (show Kd.M (Kd.int .i64) _ _ _ 99 [.int .i64 99] from rfl) (Reps.one (show Kd.M (Kd.int .i64) _ _ _ (-99) [.int .i64 (-99)] from rfl) (Reps.none _ _))))))))))); intro v158 w3 ho4 hb hg_ hnew_; clear hg_ hnew_; (first | rw [← Ny157.out] at ho4 | (simp only [Int.reduceToNat] at ho4; rw [← Ny157.out] at ho4)); have HO159 := Aside0.mk (Kd.R_lower ho4 (keep_size (w := w) (g := g) (row := none) (zk HK))); replace HK := Aside0.mk (KeepBut.trans (zk HK) (KeepBut.of_below hb g none) (.inl rfl)); replace HB := Aside0.mk (below_step (zj117_8 HB) hb); replace HI0 := Aside0.mk (IsS117.below (zi117_8 HI0) hb); clear hb ho4; obtain ⟨Ao5, co5, eo5⟩ := Kd.R_slice HO159.out; subst eo5) | ((with_reducible refine gate_callee (f := 65) rfl ?_); refine goesL_ (some 5) rfl rfl Try.func65 (by kernel_rfl) rfl #[.pointer (some ⟨g, 0, none⟩), .slice Ao5 y157.length co5] rfl zl ?_; (with_reducible refine (spec_reader_one.calls k g s0_0 s0_1 _ _ y157 t160 t161 w0 _ ?side1 ?side2 ?side3 ?side4 ?side5 A2.out).mono ?_); (case side1 => exact zi117_8 HI0); (case side2 => exact zj117_8 HB); (case side3 => repeat (first | exact (Kd.R_reads' HO159.out).2.2 | (with_reducible refine Kd.C_alloc ?_ _) | (with_reducible refine Kd.C_drewN ?_ _) | (with_reducible refine Kd.C_drew ?_))); (case side4 => exact (Kd.R_reads' HO159.out).2.1); (case side5 => exact far_slice (IsS117.own_ne HI0.out HO159.out (by decide))); rintro e w6 ⟨rfl, hi, hb, hk⟩; refine ⟨_, rfl, ?_⟩; replace HO159 := Aside0.mk (Kd.R_mono (Kd.R_keep (IsS117.apart (show IsS117 w0 _ g s0_0 s0_1 from zi117_8 HI0) (zo HO159) (by decide)) hk (fun _ h => h.2)) (fun _ h => h.1)); replace HK := Aside0.mk (KeepBut.trans (zk HK) hk (.inl rfl)); replace HB := Aside0.mk (hb); replace HI0 := Aside0.mk (hi); (try clear hb); (try clear hb2); (try clear hk); (try clear hi))); go_ret; exact ⟨zv, by repeat (first | (with_reducible first | exact HI0.out | apply IsS117.alloc | apply IsS117.drewN | apply IsS117.drew | apply IsS117.set_1) | exact HI0.out), by repeat (first | (with_reducible first | exact HB.out | apply below_alloc | apply pw_below_drewN | apply below_drew1 | refine below_set ?_ (IsS117.ge HI0.out)) | exact HB.out), zk HK⟩

end Go.Proofs.Ytlpmggokgcphiaa.Q
