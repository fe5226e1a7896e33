-- written by px.py and merge.py (programs of this claim's), over the kit's print. Not trusted: Lean checks it.
import Derived.Test.YtjnfofgonddflaaQ0
import Derived.Test.YtjnfofgonddflaaM0FnExactNeededParams
import Derived.Test.YtjnfofgonddflaaM2FnExactNeededParams
namespace Go.Proofs.Ytjnfofgonddflaa.Q
open Go.RowKit Go.Proofs.YtjnfofgonddflaaL.PrintWords Go.Proofs.YtjnfofgonddflaaL.PrintLast Go.Proofs.YtjnfofgonddflaaL.PrintMore
attribute [local go_sem] max2_int min2_int max_two min_two max_three min_three max_four min_four   -- for this text's walks alone
set_option linter.unusedVariables false
set_option linter.unusedSimpArgs false

/-! ### spec_NeededParams: function 34 -/
def spec_NeededParams.l0 : Nat → List ByteArray → Int → List (S41) → Option (List ByteArray)
 | 0, _, _, _ => none
 | k + 1, x3, x4, x508000 => if x4 < (x508000.length : Int) then (if 0 ≤ x4 then ((spec_isSingle.f ((rd_T41 x508000 x4).f0) ((rd_T41 x508000 x4).f1) ((rd_T41 x508000 x4).f2) ((rd_T41 x508000 x4).f3)).bind fun t513 => (if t513 = true then (if ((rd_T41 x508000 x4).f2 = true) then (spec_NeededParams.l0 k x3 (wrap64 (x4 + 1)) x508000) else (if x3.length < 8796093022208 then (spec_NeededParams.l0 k (x3 ++ [(rd_T41 x508000 x4).f0]) (wrap64 (x4 + 1)) x508000) else (none))) else (spec_NeededParams.l0 k x3 (wrap64 (x4 + 1)) x508000))) else (none)) else (some x3)
def spec_NeededParams.f (k : Nat) (l0_0 : List (S41)) : Option (List ByteArray) := (spec_validSignature.f k l0_0).bind fun t508 => (if t508 = true then (spec_NeededParams.l0 k (([] : List ByteArray)) 0 l0_0) else (some ([] : List ByteArray)))
theorem spec_NeededParams.mono_l : ∀ k, (∀ y0 y1 y2, LeO (spec_NeededParams.l0 k y0 y1 y2) (spec_NeededParams.l0 (k + 1) y0 y1 y2))
 | 0 => fun _ _ _ r h => by simp [spec_NeededParams.l0] at h
 | k + 1 => by
  have ih0 := spec_NeededParams.mono_l k
  ·intro y0 y1 y2
   unfold spec_NeededParams.l0
   repeat' first
   | (with_reducible exact ih0 _ _ _)
   | (with_reducible exact spec_validSignature.mono _ _)
   | (with_reducible exact LeO.refl _)
   | (with_reducible exact LeO.none _)
   | (with_reducible refine LeO.ite ?_ ?_)
   | (with_reducible refine LeO.bind ?_ (fun _ => ?_))
   | exact ih0 _ _ _
   | exact spec_validSignature.mono _ _
   | exact LeO.none _
   | refine LeO.ite ?_ ?_
   | refine LeO.bind ?_ (fun _ => ?_)
theorem spec_NeededParams.mono : ∀ a0 k, LeO (spec_NeededParams.f k a0) (spec_NeededParams.f (k + 1) a0) := by
 intro a0 k
 have ih0 := spec_NeededParams.mono_l k
 unfold spec_NeededParams.f
 repeat' first
   | (with_reducible exact ih0 _ _ _)
   | (with_reducible exact spec_validSignature.mono _ _)
   | (with_reducible exact LeO.refl _)
   | (with_reducible exact LeO.none _)
   | (with_reducible refine LeO.ite ?_ ?_)
   | (with_reducible refine LeO.bind ?_ (fun _ => ?_))
   | exact ih0 _ _ _
   | exact spec_validSignature.mono _ _
   | exact LeO.none _
   | refine LeO.ite ?_ ?_
   | refine LeO.bind ?_ (fun _ => ?_)
set_option maxHeartbeats 8000000 in
set_option maxRecDepth 100000 in
theorem spec_NeededParams.calls (k : Nat) (A0_0 : Option Addr) (c0_0 : Nat) (l0_0 : List (S41)) (r : List ByteArray) (w : World) (hr0_0 : Kd.C k41 w A0_0 l0_0.length l0_0) (hc0_0 : l0_0.length ≤ c0_0) (h : spec_NeededParams.f k l0_0 = some r) :
  Calls Try.prog 34 #[.agg #[.slice A0_0 l0_0.length c0_0]] w fun e w' => ∃ v0_ : Value, e = .returned (v0_) ∧ Kd.R Kd.string 9 w' w.heap.size (fun _ => True) v0_ r ∧ Below w.heap.size w w' := by
 have hu25 := Try.underlying25
 have hu41 := Try.underlying41
 have HR0_0 := Aside0.mk hr0_0
 have HC0_0 := Aside0.mk hc0_0
 clear hr0_0 hc0_0
 have HB := Aside0.mk (Below.refl w.heap.size w)
 have H : ((spec_validSignature.f k l0_0).bind fun t508 => (if t508 = true then (spec_NeededParams.l0 k (([] : List ByteArray)) 0 l0_0) else (some ([] : List ByteArray)))) = some r := h
 clear h
 replace H := Option.bind_eq_some_iff.mp H
 obtain ⟨t508, A20, H⟩ := H
 (try dsimp only at H)
 have A2 := Aside0.mk A20
 clear A20
 by_cases c3 : t508 = true
 ·subst c3
  rw [if_pos rfl] at H
  obtain ⟨y509, hy509⟩ : ∃ y_ : List ByteArray, y_ = (([] : List ByteArray)) := ⟨_, rfl⟩
  replace H : (spec_NeededParams.l0 k y509 0 l0_0) = some r := by first | (rw [hy509]; with_reducible exact H) | (have H2_ := (Option.bind_some _ _).symm.trans H; rw [hy509]; with_reducible exact H2_) | (have H2_ := (Option.bind_some _ _).symm.trans H; with_reducible exact H2_) | with_reducible exact H | (rw [hy509]; exact H) | exact H
  have Ny509 := Aside0.mk hy509
  clear hy509
  have H' := Aside0.mk H
  clear H
  go_enter Try.func34, Try.ntmps34
  go_wp2_with (first | ((with_reducible refine gate_dst (N := 1) rfl ?_); refine box_event ?hg (N := 1) ?hd (cs := #[.slice A0_0 l0_0.length c0_0]) (t := 25) ?hr ?_; (case hd => rfl); (case hg => rfl); (case hr => first | (go_simp; done) | (go_simp; rfl)); intro gb507 hg w4 hbox hb; have BK507 := Aside0.mk (hbox); have GW507 := Aside0.mk ((by rw [hg]; exact (below_size (zB HB)) : w.heap.size ≤ gb507)); have GE507 := Aside0.mk ((by rw [hg]; exact (below_size (zB HB)) : w.heap.size ≤ gb507)); replace HB := Aside0.mk (below_step (zB HB) hb); clear hb hbox hg; have hcz5_0 : w4.cell? ⟨gb507, 0, none⟩ = some (.slice A0_0 l0_0.length c0_0) := (blk_cell BK507.out 0).trans rfl; have hfz5_0 := blk_frozen BK507.out 0) | ((with_reducible refine gate_callee (f := 55) rfl ?_); refine goesL_ (some 6) rfl rfl Try.func55 (by kernel_rfl) rfl #[.agg #[.slice A0_0 l0_0.length c0_0]] rfl zl ?_; (with_reducible refine (spec_validSignature.calls k _ _ l0_0 true _ ?side1 ?side2 A2.out).mono ?_); (case side1 => repeat (first | exact (Kd.C_below HR0_0.out HB.out) | (with_reducible refine Kd.C_alloc ?_ _) | (with_reducible refine Kd.C_drewN ?_ _) | (with_reducible refine Kd.C_drew ?_))); (case side2 => exact HC0_0.out); rintro e w6 ⟨rfl, hb⟩; refine ⟨_, rfl, ?_⟩; replace BK507 := Aside0.mk (blk_below (g := gb507) (o := .cells #[.slice A0_0 l0_0.length c0_0] 25 (0, 0)) (zb BK507) hb); replace HB := Aside0.mk (below_step (zB HB) hb); (try clear hb); (try clear hb2); (try clear hk); (try clear hi)) | ((with_reducible refine gate_dst (N := 8) rfl ?_); refine Kd.R_lit Kd.string _ 9 ?hg (N := 8) ?hd (xs := ([] : List ByteArray)) (inner := []) (ok := fun _ => True) (okp := fun _ => True) ?hr ?hp (fun _ hk => hk) trivial (Below.refl _ _) (Nat.le_refl _) (by simp) ?_; (case hd => rfl); (case hg => rfl); (case hr => first | (go_simp; done) | (go_simp; rfl)); (case hp => exact (Reps.none _ _)); intro v510 w7 ho8 hb hg_ hnew_; clear hg_ hnew_; (first | rw [← Ny509.out] at ho8 | (simp only [Int.reduceToNat] at ho8; rw [← Ny509.out] at ho8)); have HO511 := Aside0.mk (Kd.R_lower ho8 (below_size (zB HB))); replace BK507 := Aside0.mk (blk_below (g := gb507) (o := .cells #[.slice A0_0 l0_0.length c0_0] 25 (0, 0)) (zb BK507) hb); replace HB := Aside0.mk (below_step (zB HB) hb); clear hb ho8))
  go_loopg [3, 4] k (fun kq v3 v4 w' => ∃ (x3_1 : List ByteArray) (x4_1 : Int), v4 = .int .i64 x4_1 ∧ Aside0 (spec_NeededParams.l0 kq x3_1 x4_1 l0_0 = some r) ∧ Aside0 (kq ≤ k) ∧ Aside0 (Kd.R Kd.string 9 w' w.heap.size (fun _ => True) v3 x3_1) ∧ Aside0 (w'.heap[gb507]? = some (.cells #[(.slice A0_0 l0_0.length c0_0)] 25 (0, 0))) ∧ Aside0 (Below w.heap.size w w'))
  case atStart => exact ⟨(y509), (0), zr, H', ⟨Nat.le_refl _⟩, ⟨zo HO511⟩, ⟨zb BK507⟩, ⟨zB HB⟩⟩
  case round =>
   clear H'
   try clear p2
   try clear c3
   try clear c5
   try clear hcz5_0
   try clear hfz5_0
   obtain ⟨x3_1, x4_1, rfl, HA, HK1, HO_3, BK507, HB⟩ := hrel
   cases gk with
   | zero => exact absurd HA.out (by simp [spec_NeededParams.l0])
   | succ k1 =>
    have H := HA.out
    clear HA
    simp only [spec_NeededParams.l0] at H
    by_cases c9 : x4_1 < (l0_0.length : Int)
    ·rw [if_pos c9] at H
     have c9b0 : decide (x4_1 < (l0_0.length : Int)) = true := decide_eq_true c9
     clear c9
     by_cases c10 : 0 ≤ x4_1
     ·rw [if_pos c10] at H
      have c10b0 : decide (0 ≤ x4_1) = true := decide_eq_true c10
      clear c10
      replace H := Option.bind_eq_some_iff.mp H
      obtain ⟨t513, A110, H⟩ := H
      (try dsimp only at H)
      have A11 := Aside0.mk A110
      clear A110
      by_cases c12 : t513 = true
      ·subst c12
       rw [if_pos rfl] at H
       obtain ⟨bq13, hbq13⟩ : ∃ b_ : Bool, b_ = ((rd_T41 l0_0 x4_1).f2) := ⟨_, rfl⟩
       replace H : (if (bq13 = true) then (spec_NeededParams.l0 k1 x3_1 (wrap64 (x4_1 + 1)) l0_0) else (if x3_1.length < 8796093022208 then (spec_NeededParams.l0 k1 (x3_1 ++ [(rd_T41 l0_0 x4_1).f0]) (wrap64 (x4_1 + 1)) l0_0) else (none))) = some r := by rw [← hbq13] at H; exact H
       (try rw [← hbq13] at BK507)
       (try rw [← hbq13] at A2)
       (try rw [← hbq13] at A11)
       have Nbq13 := Aside0.mk hbq13
       clear hbq13
       by_cases c14 : (bq13 = true)
       ·subst c14
        rw [if_pos rfl] at H
        have H' := Aside0.mk H
        clear H
        have hcz15_0 : wr.cell? ⟨gb507, 0, none⟩ = some (.slice A0_0 l0_0.length c0_0) := (blk_cell BK507.out 0).trans rfl
        have hfz15_0 := blk_frozen BK507.out 0
        have p512 : 0 ≤ (x4_1 : Int) := of_decide_eq_true za
        have q512 : x4_1 < (l0_0.length : Int) := of_decide_eq_true za
        obtain ⟨ad512, e512, hx512_0, hx512_1, hx512_2, hx512_3⟩ := at_T41 HR0_0.out x4_1 p512 q512
        (try rw [← Nbq13.out] at hx512_2)
        cases e512
        replace hx512_0 := (HB.out.cell (World.block_lt_of_cell? w _ hx512_0)).trans hx512_0
        replace hx512_1 := (HB.out.cell (World.block_lt_of_cell? w _ hx512_1)).trans hx512_1
        replace hx512_2 := (HB.out.cell (World.block_lt_of_cell? w _ hx512_2)).trans hx512_2
        replace hx512_3 := (HB.out.cell (World.block_lt_of_cell? w _ hx512_3)).trans hx512_3
        replace p512 := eq_true p512
        replace q512 := eq_true q512
        go_wp2_with (first | ((with_reducible refine gate_callee (f := 72) rfl ?_); refine goesL_ (some 21) rfl rfl Try.func72 (by kernel_rfl) rfl #[.agg #[.string ((rd_T41 l0_0 x4_1).f0), .int .i64 ((rd_T41 l0_0 x4_1).f1), .bool true, .int .i64 ((rd_T41 l0_0 x4_1).f3)]] rfl zl ?_; (with_reducible refine (spec_isSingle.calls ((rd_T41 l0_0 x4_1).f0) ((rd_T41 l0_0 x4_1).f1) true ((rd_T41 l0_0 x4_1).f3) true _ A11.out).mono ?_); rintro e w16 ⟨rfl, hb⟩; refine ⟨_, rfl, ?_⟩; replace HO_3 := Aside0.mk (Kd.R_below (zo HO_3) hb); replace BK507 := Aside0.mk (blk_below (g := gb507) (o := .cells #[.slice (some ad512) l0_0.length c0_0] 25 (0, 0)) (zb BK507) hb); replace HB := Aside0.mk (below_step (zB HB) hb); (try clear hb); (try clear hb2); (try clear hk); (try clear hi); have hcz17_0 : w16.cell? ⟨gb507, 0, none⟩ = some (.slice (some ad512) l0_0.length c0_0) := (blk_cell BK507.out 0).trans rfl; have hfz17_0 := blk_frozen BK507.out 0; have p514 : 0 ≤ (x4_1 : Int) := of_decide_eq_true za; have q514 : x4_1 < (l0_0.length : Int) := of_decide_eq_true za; obtain ⟨ad514, e514, hx514_0, hx514_1, hx514_2, hx514_3⟩ := at_T41 HR0_0.out x4_1 p514 q514; (try rw [← Nbq13.out] at hx514_2); obtain rfl : ad512 = ad514 := (by injection e514); replace hx514_0 := (HB.out.cell (World.block_lt_of_cell? w _ hx514_0)).trans hx514_0; replace hx514_1 := (HB.out.cell (World.block_lt_of_cell? w _ hx514_1)).trans hx514_1; replace hx514_2 := (HB.out.cell (World.block_lt_of_cell? w _ hx514_2)).trans hx514_2; replace hx514_3 := (HB.out.cell (World.block_lt_of_cell? w _ hx514_3)).trans hx514_3; replace p514 := eq_true p514; replace q514 := eq_true q514))
        go_roundg k1
        case measure => have := HK1.out; omega
        case rel => (try rw [← Nbq13.out]); exact ⟨(x3_1), (wrap64 (x4_1 + 1)), zr, H', ⟨by have := HK1.out; omega⟩, ⟨zo HO_3⟩, ⟨zb BK507⟩, ⟨zB HB⟩⟩
       ·replace c14 := Bool.eq_false_iff.mpr c14
        subst c14
        rw [if_neg (show ¬ (false = true) by decide)] at H
        by_cases c18 : x3_1.length < 8796093022208
        ·rw [if_pos c18] at H
         have LMc18 := Aside0.mk c18
         clear c18
         obtain ⟨y516, hy516⟩ : ∃ y_ : List ByteArray, y_ = (x3_1 ++ [(rd_T41 l0_0 x4_1).f0]) := ⟨_, rfl⟩
         replace H : (spec_NeededParams.l0 k1 y516 (wrap64 (x4_1 + 1)) l0_0) = some r := by first | (rw [hy516]; with_reducible exact H) | (have H2_ := (Option.bind_some _ _).symm.trans H; rw [hy516]; with_reducible exact H2_) | (have H2_ := (Option.bind_some _ _).symm.trans H; with_reducible exact H2_) | with_reducible exact H | (rw [hy516]; exact H) | exact H
         have Ny516 := Aside0.mk hy516
         clear hy516
         have H' := Aside0.mk H
         clear H
         have hcz19_0 : wr.cell? ⟨gb507, 0, none⟩ = some (.slice A0_0 l0_0.length c0_0) := (blk_cell BK507.out 0).trans rfl
         have hfz19_0 := blk_frozen BK507.out 0
         have p512 : 0 ≤ (x4_1 : Int) := of_decide_eq_true za
         have q512 : x4_1 < (l0_0.length : Int) := of_decide_eq_true za
         obtain ⟨ad512, e512, hx512_0, hx512_1, hx512_2, hx512_3⟩ := at_T41 HR0_0.out x4_1 p512 q512
         (try rw [← Nbq13.out] at hx512_2)
         cases e512
         replace hx512_0 := (HB.out.cell (World.block_lt_of_cell? w _ hx512_0)).trans hx512_0
         replace hx512_1 := (HB.out.cell (World.block_lt_of_cell? w _ hx512_1)).trans hx512_1
         replace hx512_2 := (HB.out.cell (World.block_lt_of_cell? w _ hx512_2)).trans hx512_2
         replace hx512_3 := (HB.out.cell (World.block_lt_of_cell? w _ hx512_3)).trans hx512_3
         replace p512 := eq_true p512
         replace q512 := eq_true q512
         go_wp2_with (first | ((with_reducible refine gate_callee (f := 72) rfl ?_); refine goesL_ (some 21) rfl rfl Try.func72 (by kernel_rfl) rfl #[.agg #[.string ((rd_T41 l0_0 x4_1).f0), .int .i64 ((rd_T41 l0_0 x4_1).f1), .bool false, .int .i64 ((rd_T41 l0_0 x4_1).f3)]] rfl zl ?_; (with_reducible refine (spec_isSingle.calls ((rd_T41 l0_0 x4_1).f0) ((rd_T41 l0_0 x4_1).f1) false ((rd_T41 l0_0 x4_1).f3) true _ A11.out).mono ?_); rintro e w20 ⟨rfl, hb⟩; refine ⟨_, rfl, ?_⟩; replace HO_3 := Aside0.mk (Kd.R_below (zo HO_3) hb); replace BK507 := Aside0.mk (blk_below (g := gb507) (o := .cells #[.slice (some ad512) l0_0.length c0_0] 25 (0, 0)) (zb BK507) hb); replace HB := Aside0.mk (below_step (zB HB) hb); (try clear hb); (try clear hb2); (try clear hk); (try clear hi); have hcz21_0 : w20.cell? ⟨gb507, 0, none⟩ = some (.slice (some ad512) l0_0.length c0_0) := (blk_cell BK507.out 0).trans rfl; have hfz21_0 := blk_frozen BK507.out 0; have p514 : 0 ≤ (x4_1 : Int) := of_decide_eq_true za; have q514 : x4_1 < (l0_0.length : Int) := of_decide_eq_true za; obtain ⟨ad514, e514, hx514_0, hx514_1, hx514_2, hx514_3⟩ := at_T41 HR0_0.out x4_1 p514 q514; (try rw [← Nbq13.out] at hx514_2); obtain rfl : ad512 = ad514 := (by injection e514); replace hx514_0 := (HB.out.cell (World.block_lt_of_cell? w _ hx514_0)).trans hx514_0; replace hx514_1 := (HB.out.cell (World.block_lt_of_cell? w _ hx514_1)).trans hx514_1; replace hx514_2 := (HB.out.cell (World.block_lt_of_cell? w _ hx514_2)).trans hx514_2; replace hx514_3 := (HB.out.cell (World.block_lt_of_cell? w _ hx514_3)).trans hx514_3; replace p514 := eq_true p514; replace q514 := eq_true q514; have p515 : 0 ≤ (x4_1 : Int) := of_decide_eq_true za; have q515 : x4_1 < (l0_0.length : Int) := of_decide_eq_true za; obtain ⟨ad515, e515, hx515_0, hx515_1, hx515_2, hx515_3⟩ := at_T41 HR0_0.out x4_1 p515 q515; (try rw [← Nbq13.out] at hx515_2); obtain rfl : ad512 = ad515 := (by injection e515); replace hx515_0 := (HB.out.cell (World.block_lt_of_cell? w _ hx515_0)).trans hx515_0; replace hx515_1 := (HB.out.cell (World.block_lt_of_cell? w _ hx515_1)).trans hx515_1; replace hx515_2 := (HB.out.cell (World.block_lt_of_cell? w _ hx515_2)).trans hx515_2; replace hx515_3 := (HB.out.cell (World.block_lt_of_cell? w _ hx515_3)).trans hx515_3; replace p515 := eq_true p515; replace q515 := eq_true q515) | ((with_reducible refine gate_builtin (b := .append) (xs := #[.tmp 31, .tmp 38]) rfl ?_); at_builtin; refine Kd.R_append Kd.string (w0 := w) w.heap.size rfl (.tmp 31) (.tmp 38) 45 9 (.string ⟨#[]⟩) 16 rfl Try.underlying45 info9 rfl (by decide) (by omega) u3 x3_1 ((rd_T41 l0_0 x4_1).f0) [.string ((rd_T41 l0_0 x4_1).f0)] (fun _ => True) (fun _ => False) rfl rfl ?aP (fun _ hk => hk.elim) ?aF ?aO ?aB ?aS ?aL ?_; (case aP => exact rfl); (case aB => exact (zB HB)); (case aF => exact (fun _ _ => trivial)); (case aO => exact (zo HO_3)); (case aS => exact (below_size (zB HB))); (case aL => have := LMc18.out; omega); intro v517 w22 ho hb hg hat; rw [← Ny516.out] at ho; have n0_ := Aside0.mk (blk_grown (g := gb507) (o := .cells #[.slice (some ad512) l0_0.length c0_0] 25 (0, 0)) (zb BK507) hg (Kd.R_ne HO_3.out BK507.out (by decide))); have n1_ := Aside0.mk (hb); have n2_ := Aside0.mk (ho); clear BK507; clear HB; clear HO_3; have BK507 := n0_; have HB := n1_; have HO518 := n2_; clear n0_ n1_ n2_; clear ho hb hg hat))
         go_roundg k1
         case measure => have := HK1.out; omega
         case rel => (try rw [← Nbq13.out]); exact ⟨(y516), (wrap64 (x4_1 + 1)), zr, H', ⟨by have := HK1.out; omega⟩, ⟨zo HO518⟩, ⟨zb BK507⟩, ⟨zB HB⟩⟩
        ·rw [if_neg c18] at H
         exact absurd H (by simp)
      ·replace c12 := Bool.eq_false_iff.mpr c12
       subst c12
       rw [if_neg (show ¬ (false = true) by decide)] at H
       have H' := Aside0.mk H
       clear H
       have hcz23_0 : wr.cell? ⟨gb507, 0, none⟩ = some (.slice A0_0 l0_0.length c0_0) := (blk_cell BK507.out 0).trans rfl
       have hfz23_0 := blk_frozen BK507.out 0
       have p512 : 0 ≤ (x4_1 : Int) := of_decide_eq_true za
       have q512 : x4_1 < (l0_0.length : Int) := of_decide_eq_true za
       obtain ⟨ad512, e512, hx512_0, hx512_1, hx512_2, hx512_3⟩ := at_T41 HR0_0.out x4_1 p512 q512
       cases e512
       replace hx512_0 := (HB.out.cell (World.block_lt_of_cell? w _ hx512_0)).trans hx512_0
       replace hx512_1 := (HB.out.cell (World.block_lt_of_cell? w _ hx512_1)).trans hx512_1
       replace hx512_2 := (HB.out.cell (World.block_lt_of_cell? w _ hx512_2)).trans hx512_2
       replace hx512_3 := (HB.out.cell (World.block_lt_of_cell? w _ hx512_3)).trans hx512_3
       replace p512 := eq_true p512
       replace q512 := eq_true q512
       go_wp2_with (first | ((with_reducible refine gate_callee (f := 72) rfl ?_); refine goesL_ (some 21) rfl rfl Try.func72 (by kernel_rfl) rfl #[.agg #[.string ((rd_T41 l0_0 x4_1).f0), .int .i64 ((rd_T41 l0_0 x4_1).f1), .bool ((rd_T41 l0_0 x4_1).f2), .int .i64 ((rd_T41 l0_0 x4_1).f3)]] rfl zl ?_; (with_reducible refine (spec_isSingle.calls ((rd_T41 l0_0 x4_1).f0) ((rd_T41 l0_0 x4_1).f1) ((rd_T41 l0_0 x4_1).f2) ((rd_T41 l0_0 x4_1).f3) false _ A11.out).mono ?_); rintro e w24 ⟨rfl, hb⟩; refine ⟨_, rfl, ?_⟩; replace HO_3 := Aside0.mk (Kd.R_below (zo HO_3) hb); replace BK507 := Aside0.mk (blk_below (g := gb507) (o := .cells #[.slice (some ad512) l0_0.length c0_0] 25 (0, 0)) (zb BK507) hb); replace HB := Aside0.mk (below_step (zB HB) hb); (try clear hb); (try clear hb2); (try clear hk); (try clear hi)))
       go_roundg k1
       case measure => have := HK1.out; omega
       case rel => exact ⟨(x3_1), (wrap64 (x4_1 + 1)), zr, H', ⟨by have := HK1.out; omega⟩, ⟨zo HO_3⟩, ⟨zb BK507⟩, ⟨zB HB⟩⟩
     ·rw [if_neg c10] at H
      exact absurd H (by simp)
    ·rw [if_neg c9] at H
     have c9b0 : decide (x4_1 < (l0_0.length : Int)) = false := decide_eq_false c9
     clear c9
     obtain rfl := Option.some.inj H
     have hcz25_0 : wr.cell? ⟨gb507, 0, none⟩ = some (.slice A0_0 l0_0.length c0_0) := (blk_cell BK507.out 0).trans rfl
     have hfz25_0 := blk_frozen BK507.out 0
     go_wp2
     go_ret
     exact ⟨_, by first | rfl | (simp [errW_none, errW_some] <;> rfl) | (simp [*, errW_none, errW_some] <;> rfl), by (with_reducible repeat (first | apply Kd.R_alloc | apply Kd.R_drewN | apply Kd.R_drew)); exact HO_3.out, zB HB⟩
 ·replace c3 := Bool.eq_false_iff.mpr c3
  subst c3
  rw [if_neg (show ¬ (false = true) by decide)] at H
  obtain rfl := Option.some.inj H
  go_enter Try.func34, Try.ntmps34
  go_wp2_with (first | ((with_reducible refine gate_dst (N := 1) rfl ?_); refine box_event ?hg (N := 1) ?hd (cs := #[.slice A0_0 l0_0.length c0_0]) (t := 25) ?hr ?_; (case hd => rfl); (case hg => rfl); (case hr => first | (go_simp; done) | (go_simp; rfl)); intro gb507 hg w26 hbox hb; have BK507 := Aside0.mk (hbox); have GW507 := Aside0.mk ((by rw [hg]; exact (below_size (zB HB)) : w.heap.size ≤ gb507)); have GE507 := Aside0.mk ((by rw [hg]; exact (below_size (zB HB)) : w.heap.size ≤ gb507)); replace HB := Aside0.mk (below_step (zB HB) hb); clear hb hbox hg; have hcz27_0 : w26.cell? ⟨gb507, 0, none⟩ = some (.slice A0_0 l0_0.length c0_0) := (blk_cell BK507.out 0).trans rfl; have hfz27_0 := blk_frozen BK507.out 0) | ((with_reducible refine gate_callee (f := 55) rfl ?_); refine goesL_ (some 6) rfl rfl Try.func55 (by kernel_rfl) rfl #[.agg #[.slice A0_0 l0_0.length c0_0]] rfl zl ?_; (with_reducible refine (spec_validSignature.calls k _ _ l0_0 false _ ?side1 ?side2 A2.out).mono ?_); (case side1 => repeat (first | exact (Kd.C_below HR0_0.out HB.out) | (with_reducible refine Kd.C_alloc ?_ _) | (with_reducible refine Kd.C_drewN ?_ _) | (with_reducible refine Kd.C_drew ?_))); (case side2 => exact HC0_0.out); rintro e w28 ⟨rfl, hb⟩; refine ⟨_, rfl, ?_⟩; replace BK507 := Aside0.mk (blk_below (g := gb507) (o := .cells #[.slice A0_0 l0_0.length c0_0] 25 (0, 0)) (zb BK507) hb); replace HB := Aside0.mk (below_step (zB HB) hb); (try clear hb); (try clear hb2); (try clear hk); (try clear hi)))
  go_ret
  exact ⟨_, by first | rfl | (simp [errW_none, errW_some] <;> rfl) | (simp [*, errW_none, errW_some] <;> rfl), by first | exact Kd.R_nil _ _ _ _ _ | exact Kd.N_nil _ _ _ _ _ | exact Kd.V_nil _ _ _ _ _ | exact Kd.Q_nil _ _ _ _ _ | exact Kd.S_nil _ _ _ _ _, zB HB⟩

end Go.Proofs.Ytjnfofgonddflaa.Q

namespace Go.Proofs.Ytjnfofgonddflaa.Q
open Go.RowKit Go.Proofs.YtjnfofgonddflaaL.PrintWords Go.Proofs.YtjnfofgonddflaaL.PrintLast Go.Proofs.YtjnfofgonddflaaL.PrintMore
attribute [local go_sem] max2_int min2_int max_two min_two max_three min_three max_four min_four   -- for this text's walks alone
set_option linter.unusedVariables false
set_option linter.unusedSimpArgs false

/-! ### impl_in: function 50 -/
def impl_in.f (a0 : Int) (a1 : Int) (a2 : Int) : Option (Bool) := if a0 ≥ a1 then (some (decide (a0 ≤ a2))) else (some false)
set_option maxHeartbeats 8000000 in
set_option maxRecDepth 100000 in
theorem impl_in.calls (a0 : Int) (a1 : Int) (a2 : Int) (r : Bool) (w : World) (h : impl_in.f a0 a1 a2 = some r) :
  Calls Try.prog 50 #[.int .i64 a0, .int .i64 a1, .int .i64 a2] w fun e w' => e = .returned (.bool r) ∧ Drawn0 w w' := by
 have H : (if a0 ≥ a1 then (some (decide (a0 ≤ a2))) else (some false)) = some r := h
 clear h
 by_cases c4 : a0 ≥ a1
 ·rw [if_pos c4] at H
  have c4b0 : decide (a1 ≤ a0) = true := decide_eq_true c4
  clear c4
  obtain rfl := Option.some.inj H
  go_enter Try.func50, Try.ntmps50
  go_wp2
  go_ret
  exact ⟨by first | rfl | (simp; done) | (simp [*]; done), by repeat (first | exact Drawn0.refl _ | apply Drawn0.step)⟩
 ·rw [if_neg c4] at H
  have c4b0 : decide (a1 ≤ a0) = false := decide_eq_false c4
  clear c4
  obtain rfl := Option.some.inj H
  go_enter Try.func50, Try.ntmps50
  go_wp2
  go_ret
  exact ⟨by first | rfl | (simp; done) | (simp [*]; done), by repeat (first | exact Drawn0.refl _ | apply Drawn0.step)⟩

/-! ### impl_isName: function 49 -/
def impl_isName.l0 : Nat → ByteArray → Int → Option (Bool)
 | 0, _, _ => none
 | k + 1, x0, x3 => if x3 < (x0.size : Int) then (if 0 ≤ x3 then (if (bt x0 x3) < 97 then (some false) else (if (bt x0 x3) > 122 then (some false) else (impl_isName.l0 k x0 (wrap64 (x3 + 1))))) else (none)) else ((impl_in.f (x0.size : Int) 1 6).bind fun t237 => (some t237))
def impl_isName.f (k : Nat) (a0 : ByteArray) : Option (Bool) := impl_isName.l0 k a0 0
theorem impl_isName.mono_l : ∀ k, (∀ y0 y1, LeO (impl_isName.l0 k y0 y1) (impl_isName.l0 (k + 1) y0 y1))
 | 0 => fun _ _ r h => by simp [impl_isName.l0] at h
 | k + 1 => by
  have ih0 := impl_isName.mono_l k
  ·intro y0 y1
   unfold impl_isName.l0
   repeat' first
   | (with_reducible exact ih0 _ _)
   | (with_reducible exact LeO.refl _)
   | (with_reducible exact LeO.none _)
   | (with_reducible refine LeO.ite ?_ ?_)
   | (with_reducible refine LeO.bind ?_ (fun _ => ?_))
   | exact ih0 _ _
   | exact LeO.none _
   | refine LeO.ite ?_ ?_
   | refine LeO.bind ?_ (fun _ => ?_)
theorem impl_isName.mono : ∀ a0 k, LeO (impl_isName.f k a0) (impl_isName.f (k + 1) a0) := by
 intro a0 k
 have ih0 := impl_isName.mono_l k
 unfold impl_isName.f
 repeat' first
   | (with_reducible exact ih0 _ _)
   | (with_reducible exact LeO.refl _)
   | (with_reducible exact LeO.none _)
   | (with_reducible refine LeO.ite ?_ ?_)
   | (with_reducible refine LeO.bind ?_ (fun _ => ?_))
   | exact ih0 _ _
   | exact LeO.none _
   | refine LeO.ite ?_ ?_
   | refine LeO.bind ?_ (fun _ => ?_)
set_option maxHeartbeats 8000000 in
set_option maxRecDepth 100000 in
theorem impl_isName.calls (k : Nat) (a0 : ByteArray) (r : Bool) (w : World) (h : impl_isName.f k a0 = some r) :
  Calls Try.prog 49 #[.string a0] w fun e w' => e = .returned (.bool r) ∧ Drawn0 w w' := by
 have H : (impl_isName.l0 k a0 0) = some r := h
 clear h
 have H' := Aside0.mk H
 clear H
 go_enter Try.func49, Try.ntmps49
 go_wp2
 go_loopg [3] k (fun kq v3 w' => ∃ (x3_1 : Int), v3 = .int .i64 x3_1 ∧ Aside0 (impl_isName.l0 kq a0 x3_1 = some r) ∧ Aside0 (kq ≤ k) ∧ Drawn0 w w')
 case atStart => exact ⟨(0), zr, H', ⟨Nat.le_refl _⟩, by repeat (first | exact Drawn0.refl _ | apply Drawn0.step)⟩
 case round =>
  clear H'
  obtain ⟨x3_1, rfl, HA, HK1, ⟨m1, rfl⟩⟩ := hrel
  cases gk with
  | zero => exact absurd HA.out (by simp [impl_isName.l0])
  | succ k1 =>
   have H := HA.out
   clear HA
   simp only [impl_isName.l0] at H
   by_cases c2 : x3_1 < (a0.size : Int)
   ·rw [if_pos c2] at H
    have c2b0 : decide (x3_1 < (a0.size : Int)) = true := decide_eq_true c2
    clear c2
    by_cases c3 : 0 ≤ x3_1
    ·rw [if_pos c3] at H
     have c3b0 : decide (0 ≤ x3_1) = true := decide_eq_true c3
     clear c3
     by_cases c5 : (bt a0 x3_1) < 97
     ·rw [if_pos c5] at H
      have c5b0 : decide ((bt a0 x3_1) < 97) = true := decide_eq_true c5
      clear c5
      obtain rfl := Option.some.inj H
      have p4 : 0 ≤ (x3_1 : Int) := of_decide_eq_true za
      have q4 : x3_1 < (a0.size : Int) := of_decide_eq_true za
      have hx4 := bt_at a0 x3_1
      replace p4 := eq_true p4
      replace q4 := eq_true q4
      go_wp2
      go_ret
      exact ⟨by first | rfl | (simp; done) | (simp [*]; done), by repeat (first | exact Drawn0.refl _ | apply Drawn0.step)⟩
     ·rw [if_neg c5] at H
      have c5b0 : decide ((bt a0 x3_1) < 97) = false := decide_eq_false c5
      clear c5
      by_cases c7 : (bt a0 x3_1) > 122
      ·rw [if_pos c7] at H
       have c7b0 : decide (122 < (bt a0 x3_1)) = true := decide_eq_true c7
       clear c7
       obtain rfl := Option.some.inj H
       have p4 : 0 ≤ (x3_1 : Int) := of_decide_eq_true za
       have q4 : x3_1 < (a0.size : Int) := of_decide_eq_true za
       have hx4 := bt_at a0 x3_1
       replace p4 := eq_true p4
       replace q4 := eq_true q4
       have p6 : 0 ≤ (x3_1 : Int) := of_decide_eq_true za
       have q6 : x3_1 < (a0.size : Int) := of_decide_eq_true za
       have hx6 := bt_at a0 x3_1
       replace p6 := eq_true p6
       replace q6 := eq_true q6
       go_wp2
       go_ret
       exact ⟨by first | rfl | (simp; done) | (simp [*]; done), by repeat (first | exact Drawn0.refl _ | apply Drawn0.step)⟩
      ·rw [if_neg c7] at H
       have c7b0 : decide (122 < (bt a0 x3_1)) = false := decide_eq_false c7
       clear c7
       have H' := Aside0.mk H
       clear H
       have p4 : 0 ≤ (x3_1 : Int) := of_decide_eq_true za
       have q4 : x3_1 < (a0.size : Int) := of_decide_eq_true za
       have hx4 := bt_at a0 x3_1
       replace p4 := eq_true p4
       replace q4 := eq_true q4
       have p6 : 0 ≤ (x3_1 : Int) := of_decide_eq_true za
       have q6 : x3_1 < (a0.size : Int) := of_decide_eq_true za
       have hx6 := bt_at a0 x3_1
       replace p6 := eq_true p6
       replace q6 := eq_true q6
       go_wp2
       go_roundg k1
       case measure => have := HK1.out; omega
       case rel => exact ⟨(wrap64 (x3_1 + 1)), zr, H', ⟨by have := HK1.out; omega⟩, by repeat (first | exact Drawn0.refl _ | apply Drawn0.step)⟩
    ·rw [if_neg c3] at H
     exact absurd H (by simp)
   ·rw [if_neg c2] at H
    have c2b0 : decide (x3_1 < (a0.size : Int)) = false := decide_eq_false c2
    clear c2
    replace H := Option.bind_eq_some_iff.mp H
    obtain ⟨t237, A80, H⟩ := H
    (try dsimp only at H)
    have A8 := Aside0.mk A80
    clear A80
    obtain rfl := Option.some.inj H
    go_wp2_with (first | ((with_reducible refine gate_callee (f := 50) rfl ?_); refine goesL_ (some 22) rfl rfl Try.func50 (by kernel_rfl) rfl #[.int .i64 (a0.size : Int), .int .i64 1, .int .i64 6] rfl zl ?_; (with_reducible refine (impl_in.calls (a0.size : Int) 1 6 t237 _ A8.out).mono ?_); rintro e w' ⟨rfl, ⟨nd, rfl⟩⟩; refine ⟨_, rfl, ?_⟩))
    go_ret
    exact ⟨by first | rfl | (simp; done) | (simp [*]; done), by repeat (first | exact Drawn0.refl _ | apply Drawn0.step)⟩

/-! ### impl_isValue: function 51 -/
def impl_isValue.f (a0 : Int) : Option (Bool) := (impl_in.f a0 (-99) 99).bind fun t238 => (some t238)
set_option maxHeartbeats 8000000 in
set_option maxRecDepth 100000 in
theorem impl_isValue.calls (a0 : Int) (r : Bool) (w : World) (h : impl_isValue.f a0 = some r) :
  Calls Try.prog 51 #[.int .i64 a0] w fun e w' => e = .returned (.bool r) ∧ Drawn0 w w' := by
 have H : ((impl_in.f a0 (-99) 99).bind fun t238 => (some t238)) = some r := h
 clear h
 replace H := Option.bind_eq_some_iff.mp H
 obtain ⟨t238, A20, H⟩ := H
 (try dsimp only at H)
 have A2 := Aside0.mk A20
 clear A20
 obtain rfl := Option.some.inj H
 go_enter Try.func51, Try.ntmps51
 go_wp2_with (first | ((with_reducible refine gate_callee (f := 50) rfl ?_); refine goesL_ (some 4) rfl rfl Try.func50 (by kernel_rfl) rfl #[.int .i64 a0, .int .i64 (-99), .int .i64 99] rfl zl ?_; (with_reducible refine (impl_in.calls a0 (-99) 99 t238 _ A2.out).mono ?_); rintro e w' ⟨rfl, ⟨nd, rfl⟩⟩; refine ⟨_, rfl, ?_⟩))
 go_ret
 exact ⟨by first | rfl | (simp; done) | (simp [*]; done), by repeat (first | exact Drawn0.refl _ | apply Drawn0.step)⟩

/-! ### impl_Param_placed: function 53 -/
def impl_Param_placed.f (a0_0 : ByteArray) (a0_1 : Int) (a0_2 : Bool) (a0_3 : Int) : Option (Bool) := if a0_1 = 0 then (some true) else (some (a0_1 == 1))
set_option maxHeartbeats 8000000 in
set_option maxRecDepth 100000 in
theorem impl_Param_placed.calls (a0_0 : ByteArray) (a0_1 : Int) (a0_2 : Bool) (a0_3 : Int) (r : Bool) (w : World) (h : impl_Param_placed.f a0_0 a0_1 a0_2 a0_3 = some r) :
  Calls Try.prog 53 #[.agg #[.string a0_0, .int .i64 a0_1, .bool a0_2, .int .i64 a0_3]] w fun e w' => e = .returned (.bool r) ∧ Below w.heap.size w w' := by
 have hu41 := Try.underlying41
 have HB := Aside0.mk (Below.refl w.heap.size w)
 have H : (if a0_1 = 0 then (some true) else (some (a0_1 == 1))) = some r := h
 clear h
 by_cases c2 : a0_1 = 0
 ·rw [if_pos c2] at H
  have c2b0 : (a0_1 == 0) = true := beq_iff_eq.mpr c2
  have c2b1 : (a0_1 != 0) = false := bne_eq_false_iff_eq.mpr c2
  clear c2
  obtain rfl := Option.some.inj H
  go_enter Try.func53, Try.ntmps53
  go_wp2_with (first | ((with_reducible refine gate_dst (N := 1) rfl ?_); refine box_event ?hg (N := 1) ?hd (cs := #[.string a0_0, .int .i64 a0_1, .bool a0_2, .int .i64 a0_3]) (t := 41) ?hr ?_; (case hd => rfl); (case hg => rfl); (case hr => first | (go_simp; done) | (go_simp; rfl)); intro gb239 hg w3 hbox hb; have BK239 := Aside0.mk (hbox); have GW239 := Aside0.mk ((by rw [hg]; exact (below_size (zB HB)) : w.heap.size ≤ gb239)); have GE239 := Aside0.mk ((by rw [hg]; exact (below_size (zB HB)) : w.heap.size ≤ gb239)); replace HB := Aside0.mk (below_step (zB HB) hb); clear hb hbox hg; have hcz4_0 : w3.cell? ⟨gb239, 0, none⟩ = some (.string a0_0) := (blk_cell BK239.out 0).trans rfl; have hcz4_1 : w3.cell? ⟨gb239, 1, none⟩ = some (.int .i64 a0_1) := (blk_cell BK239.out 1).trans rfl; have hcz4_2 : w3.cell? ⟨gb239, 2, none⟩ = some (.bool a0_2) := (blk_cell BK239.out 2).trans rfl; have hcz4_3 : w3.cell? ⟨gb239, 3, none⟩ = some (.int .i64 a0_3) := (blk_cell BK239.out 3).trans rfl; have hfz4_0 := blk_frozen BK239.out 0; have hfz4_1 := blk_frozen BK239.out 1; have hfz4_2 := blk_frozen BK239.out 2; have hfz4_3 := blk_frozen BK239.out 3))
  go_ret
  exact ⟨by first | rfl | (simp [errW_none, errW_some] <;> rfl) | (simp [*, errW_none, errW_some] <;> rfl), zB HB⟩
 ·rw [if_neg c2] at H
  have c2b0 : (a0_1 == 0) = false := beq_eq_false_iff_ne.mpr c2
  have c2b1 : (a0_1 != 0) = true := bne_iff_ne.mpr c2
  obtain rfl := Option.some.inj H
  go_enter Try.func53, Try.ntmps53
  go_wp2_with (first | ((with_reducible refine gate_dst (N := 1) rfl ?_); refine box_event ?hg (N := 1) ?hd (cs := #[.string a0_0, .int .i64 a0_1, .bool a0_2, .int .i64 a0_3]) (t := 41) ?hr ?_; (case hd => rfl); (case hg => rfl); (case hr => first | (go_simp; done) | (go_simp; rfl)); intro gb239 hg w5 hbox hb; have BK239 := Aside0.mk (hbox); have GW239 := Aside0.mk ((by rw [hg]; exact (below_size (zB HB)) : w.heap.size ≤ gb239)); have GE239 := Aside0.mk ((by rw [hg]; exact (below_size (zB HB)) : w.heap.size ≤ gb239)); replace HB := Aside0.mk (below_step (zB HB) hb); clear hb hbox hg; have hcz6_0 : w5.cell? ⟨gb239, 0, none⟩ = some (.string a0_0) := (blk_cell BK239.out 0).trans rfl; have hcz6_1 : w5.cell? ⟨gb239, 1, none⟩ = some (.int .i64 a0_1) := (blk_cell BK239.out 1).trans rfl; have hcz6_2 : w5.cell? ⟨gb239, 2, none⟩ = some (.bool a0_2) := (blk_cell BK239.out 2).trans rfl; have hcz6_3 : w5.cell? ⟨gb239, 3, none⟩ = some (.int .i64 a0_3) := (blk_cell BK239.out 3).trans rfl; have hfz6_0 := blk_frozen BK239.out 0; have hfz6_1 := blk_frozen BK239.out 1; have hfz6_2 := blk_frozen BK239.out 2; have hfz6_3 := blk_frozen BK239.out 3))
  go_ret
  exact ⟨by first | rfl | (simp [errW_none, errW_some] <;> rfl) | (simp [*, errW_none, errW_some] <;> rfl), zB HB⟩

/-! ### impl_Param_single: function 52 -/
def impl_Param_single.f (a0_0 : ByteArray) (a0_1 : Int) (a0_2 : Bool) (a0_3 : Int) : Option (Bool) := (impl_Param_placed.f a0_0 a0_1 a0_2 a0_3).bind fun t241 => (if t241 = true then (some true) else (some (a0_1 == 3)))
set_option maxHeartbeats 8000000 in
set_option maxRecDepth 100000 in
theorem impl_Param_single.calls (a0_0 : ByteArray) (a0_1 : Int) (a0_2 : Bool) (a0_3 : Int) (r : Bool) (w : World) (h : impl_Param_single.f a0_0 a0_1 a0_2 a0_3 = some r) :
  Calls Try.prog 52 #[.agg #[.string a0_0, .int .i64 a0_1, .bool a0_2, .int .i64 a0_3]] w fun e w' => e = .returned (.bool r) ∧ Below w.heap.size w w' := by
 have hu41 := Try.underlying41
 have HB := Aside0.mk (Below.refl w.heap.size w)
 have H : ((impl_Param_placed.f a0_0 a0_1 a0_2 a0_3).bind fun t241 => (if t241 = true then (some true) else (some (a0_1 == 3)))) = some r := h
 clear h
 replace H := Option.bind_eq_some_iff.mp H
 obtain ⟨t241, A20, H⟩ := H
 (try dsimp only at H)
 have A2 := Aside0.mk A20
 clear A20
 by_cases c3 : t241 = true
 ·subst c3
  rw [if_pos rfl] at H
  obtain rfl := Option.some.inj H
  go_enter Try.func52, Try.ntmps52
  go_wp2_with (first | ((with_reducible refine gate_dst (N := 1) rfl ?_); refine box_event ?hg (N := 1) ?hd (cs := #[.string a0_0, .int .i64 a0_1, .bool a0_2, .int .i64 a0_3]) (t := 41) ?hr ?_; (case hd => rfl); (case hg => rfl); (case hr => first | (go_simp; done) | (go_simp; rfl)); intro gb240 hg w4 hbox hb; have BK240 := Aside0.mk (hbox); have GW240 := Aside0.mk ((by rw [hg]; exact (below_size (zB HB)) : w.heap.size ≤ gb240)); have GE240 := Aside0.mk ((by rw [hg]; exact (below_size (zB HB)) : w.heap.size ≤ gb240)); replace HB := Aside0.mk (below_step (zB HB) hb); clear hb hbox hg; have hcz5_0 : w4.cell? ⟨gb240, 0, none⟩ = some (.string a0_0) := (blk_cell BK240.out 0).trans rfl; have hcz5_1 : w4.cell? ⟨gb240, 1, none⟩ = some (.int .i64 a0_1) := (blk_cell BK240.out 1).trans rfl; have hcz5_2 : w4.cell? ⟨gb240, 2, none⟩ = some (.bool a0_2) := (blk_cell BK240.out 2).trans rfl; have hcz5_3 : w4.cell? ⟨gb240, 3, none⟩ = some (.int .i64 a0_3) := (blk_cell BK240.out 3).trans rfl; have hfz5_0 := blk_frozen BK240.out 0; have hfz5_1 := blk_frozen BK240.out 1; have hfz5_2 := blk_frozen BK240.out 2; have hfz5_3 := blk_frozen BK240.out 3) | ((with_reducible refine gate_callee (f := 53) rfl ?_); refine goesL_ (some 4) rfl rfl Try.func53 (by kernel_rfl) rfl #[.agg #[.string a0_0, .int .i64 a0_1, .bool a0_2, .int .i64 a0_3]] rfl zl ?_; (with_reducible refine (impl_Param_placed.calls a0_0 a0_1 a0_2 a0_3 true _ A2.out).mono ?_); rintro e w6 ⟨rfl, hb⟩; refine ⟨_, rfl, ?_⟩; replace BK240 := Aside0.mk (blk_below (g := gb240) (o := .cells #[.string a0_0, .int .i64 a0_1, .bool a0_2, .int .i64 a0_3] 41 (0, 0)) (zb BK240) hb); replace HB := Aside0.mk (below_step (zB HB) hb); (try clear hb); (try clear hb2); (try clear hk); (try clear hi)))
  go_ret
  exact ⟨by first | rfl | (simp [errW_none, errW_some] <;> rfl) | (simp [*, errW_none, errW_some] <;> rfl), zB HB⟩
 ·replace c3 := Bool.eq_false_iff.mpr c3
  subst c3
  rw [if_neg (show ¬ (false = true) by decide)] at H
  obtain rfl := Option.some.inj H
  go_enter Try.func52, Try.ntmps52
  go_wp2_with (first | ((with_reducible refine gate_dst (N := 1) rfl ?_); refine box_event ?hg (N := 1) ?hd (cs := #[.string a0_0, .int .i64 a0_1, .bool a0_2, .int .i64 a0_3]) (t := 41) ?hr ?_; (case hd => rfl); (case hg => rfl); (case hr => first | (go_simp; done) | (go_simp; rfl)); intro gb240 hg w7 hbox hb; have BK240 := Aside0.mk (hbox); have GW240 := Aside0.mk ((by rw [hg]; exact (below_size (zB HB)) : w.heap.size ≤ gb240)); have GE240 := Aside0.mk ((by rw [hg]; exact (below_size (zB HB)) : w.heap.size ≤ gb240)); replace HB := Aside0.mk (below_step (zB HB) hb); clear hb hbox hg; have hcz8_0 : w7.cell? ⟨gb240, 0, none⟩ = some (.string a0_0) := (blk_cell BK240.out 0).trans rfl; have hcz8_1 : w7.cell? ⟨gb240, 1, none⟩ = some (.int .i64 a0_1) := (blk_cell BK240.out 1).trans rfl; have hcz8_2 : w7.cell? ⟨gb240, 2, none⟩ = some (.bool a0_2) := (blk_cell BK240.out 2).trans rfl; have hcz8_3 : w7.cell? ⟨gb240, 3, none⟩ = some (.int .i64 a0_3) := (blk_cell BK240.out 3).trans rfl; have hfz8_0 := blk_frozen BK240.out 0; have hfz8_1 := blk_frozen BK240.out 1; have hfz8_2 := blk_frozen BK240.out 2; have hfz8_3 := blk_frozen BK240.out 3) | ((with_reducible refine gate_callee (f := 53) rfl ?_); refine goesL_ (some 4) rfl rfl Try.func53 (by kernel_rfl) rfl #[.agg #[.string a0_0, .int .i64 a0_1, .bool a0_2, .int .i64 a0_3]] rfl zl ?_; (with_reducible refine (impl_Param_placed.calls a0_0 a0_1 a0_2 a0_3 false _ A2.out).mono ?_); rintro e w9 ⟨rfl, hb⟩; refine ⟨_, rfl, ?_⟩; replace BK240 := Aside0.mk (blk_below (g := gb240) (o := .cells #[.string a0_0, .int .i64 a0_1, .bool a0_2, .int .i64 a0_3] 41 (0, 0)) (zb BK240) hb); replace HB := Aside0.mk (below_step (zB HB) hb); (try clear hb); (try clear hb2); (try clear hk); (try clear hi); have hcz10_0 : w9.cell? ⟨gb240, 0, none⟩ = some (.string a0_0) := (blk_cell BK240.out 0).trans rfl; have hcz10_1 : w9.cell? ⟨gb240, 1, none⟩ = some (.int .i64 a0_1) := (blk_cell BK240.out 1).trans rfl; have hcz10_2 : w9.cell? ⟨gb240, 2, none⟩ = some (.bool a0_2) := (blk_cell BK240.out 2).trans rfl; have hcz10_3 : w9.cell? ⟨gb240, 3, none⟩ = some (.int .i64 a0_3) := (blk_cell BK240.out 3).trans rfl; have hfz10_0 := blk_frozen BK240.out 0; have hfz10_1 := blk_frozen BK240.out 1; have hfz10_2 := blk_frozen BK240.out 2; have hfz10_3 := blk_frozen BK240.out 3))
  go_ret
  exact ⟨by first | rfl | (simp [errW_none, errW_some] <;> rfl) | (simp [*, errW_none, errW_some] <;> rfl), zB HB⟩

end Go.Proofs.Ytjnfofgonddflaa.Q

namespace Go.Proofs.Ytjnfofgonddflaa.Q
open Go.RowKit Go.Proofs.YtjnfofgonddflaaL.PrintWords Go.Proofs.YtjnfofgonddflaaL.PrintLast Go.Proofs.YtjnfofgonddflaaL.PrintMore
attribute [local go_sem] max2_int min2_int max_two min_two max_three min_three max_four min_four   -- for this text's walks alone
set_option linter.unusedVariables false
set_option linter.unusedSimpArgs false

/-! ### slices.IndexFunc at impl.Param: function 84 -/
set_option maxHeartbeats 8000000 in
set_option maxRecDepth 100000 in
theorem ix84.calls (p : S41 → Bool) (g : Nat) (lb : Array Value) (eg : ∀ args w, (callFunc g args).run Try.prog w = .ok (.enter g args) w) (A0 : Option Addr) (c0 : Nat) (l0 : List (S41)) (w : World)
  (hp : PxPred Try.prog g lb (fun x : S41 => .agg #[.string x.f0, .int .i64 x.f1, .bool x.f2, .int .i64 x.f3]) p w) (hr0 : Kd.C k41 w A0 l0.length l0) :
  Calls Try.prog 84 #[.slice A0 l0.length c0, .func (.func g) #[] lb] w fun e w' => e = .returned (.int .i64 (pxIdx p l0)) ∧ Below w.heap.size w w' := by
 have HR := Aside0.mk hr0
 clear hr0
 have hbig : l0.length ≤ 9223372036854775807 := HR.out.2.1
 have hu41 := Try.underlying41
 go_enter Try.func84, Try.ntmps84
 go_wp2
 go_loopg [5, 8] l0.length (fun gg _ s8 wr => ∃ kk : Nat, kk ≤ l0.length ∧ l0.length - kk ≤ gg ∧ s8 = .int .i64 kk ∧ Aside0 (Below w.heap.size w wr) ∧ Aside0 (∀ j, j < kk → p (l0.getD j z41) = false))
 case atStart => exact ⟨0, Nat.zero_le _, by omega, rfl, ⟨Below.refl _ w⟩, ⟨fun j hj => absurd hj (Nat.not_lt_zero _)⟩⟩
 case round =>
  obtain ⟨kk, hkk, hg, rfl, BW, A⟩ := hrel
  by_cases hlt : kk < l0.length
  ·have hltz : (kk : Int) < (l0.length : Int) := by omega
   have hz0 : (0 : Int) ≤ (kk : Int) := by omega
   obtain ⟨ad, e, hx0, hx1, hx2, hx3⟩ := at_T41 (Kd.C_below HR.out BW.out) (kk : Int) hz0 hltz
   simp only [Int.toNat_natCast] at hx0 hx1 hx2 hx3
   cases e
   have hcall := hp wr (rd_T41 l0 (kk : Int)) BW.out
   clear hp
   have B := Aside0.mk (show rd_T41 l0 (kk : Int) = l0.getD kk z41 from rfl)
   generalize hy : rd_T41 l0 (kk : Int) = y at hx0 hx1 hx2 hx3 hcall B
   clear hy
   cases hq : p y with
   | true =>
    rw [hq] at hcall
    go_wp2_with fail
    refine hcall.mono ?_
    rintro e w' ⟨rfl, hb'⟩
    clear hcall
    go_wp2
    go_ret
    refine ⟨?_, below_then BW.out BW.out.size hb'⟩
    rw [pxIdx_hit p l0 z41 kk hlt (by rw [← B.out]; exact hq) A.out]; rfl
   | false =>
    rw [hq] at hcall
    go_wp2_with fail
    refine hcall.mono ?_
    rintro e w' ⟨rfl, hb'⟩
    clear hcall
    go_wp2
    go_roundg (l0.length - (kk + 1))
    case measure => omega
    case rel =>
     refine ⟨kk + 1, by omega, by omega, by go_num, ⟨below_then BW.out BW.out.size hb'⟩, ⟨fun j hj => ?_⟩⟩
     by_cases e : j = kk
     ·subst e
      rw [← B.out]; exact hq
     ·exact A.out j (by omega)
  ·have hltz : ¬ (kk : Int) < (l0.length : Int) := by omega
   have : kk = l0.length := by omega
   subst this
   go_wp2
   go_ret
   refine ⟨?_, BW.out⟩
   rw [pxIdx_miss p l0 z41 A.out]; rfl
set_option maxHeartbeats 8000000 in
set_option maxRecDepth 100000 in
theorem impl_find.pred85 (a1 : ByteArray) (B : Nat) (w : World) (hc : w.cell? ⟨B, 0, none⟩ = some (.string a1)) :
  PxPred Try.prog 85 #[.pointer (some ⟨B, 0, none⟩)] (fun x : S41 => .agg #[.string x.f0, .int .i64 x.f1, .bool x.f2, .int .i64 x.f3]) (fun x : S41 => x.f0.toList == a1.toList) w := by
 intro W x hb
 have hc' := px_cell hb hc
 have hB' : B < W.heap.size := World.block_lt_of_cell? W _ hc'
 clear hc
 show Calls Try.prog 85 #[.agg #[.string x.f0, .int .i64 x.f1, .bool x.f2, .int .i64 x.f3], .pointer (some ⟨B, 0, none⟩)] W _
 have hu41 := Try.underlying41
 go_enter Try.func85, Try.ntmps85
 go_wp2
 go_ret
 exact ⟨rfl, px_alloc _ _⟩
/-! ### impl_find: function 54 (a contract of our own) -/
def impl_find.f (l0 : List (S41)) (a1 : ByteArray) : Option (Int) := some (pxIdx (fun x : S41 => x.f0.toList == a1.toList) l0)
set_option maxHeartbeats 8000000 in
set_option maxRecDepth 100000 in
theorem impl_find.calls (A0 : Option Addr) (c0 : Nat) (l0 : List (S41)) (a1 : ByteArray) (r : Int) (w : World) (hr0 : Kd.C k41 w A0 l0.length l0) (hc0 : l0.length ≤ c0) (h : impl_find.f l0 a1 = some r) :
  Calls Try.prog 54 #[.slice A0 l0.length c0, .string a1] w fun e w' => e = .returned (.int .i64 r) ∧ Below w.heap.size w w' := by
 have HR := Aside0.mk hr0
 clear hr0
 obtain rfl := Option.some.inj h
 clear h
 have eg := px_enters Try.func85 (by kernel_rfl) rfl
 go_enter Try.func54, Try.ntmps54
 go_wp2_with fail
 refine (ix84.calls (fun x : S41 => x.f0.toList == a1.toList) 85 _ eg A0 c0 l0 _ (impl_find.pred85 a1 w.heap.size _ ?_) ?_).mono ?_
 ·go_simp
 ·exact Kd.C_below HR.out (px_alloc _ _)
 rintro e w' ⟨rfl, hb'⟩
 go_wp2
 go_ret
 exact ⟨rfl, below_then (px_alloc _ _) (by simp) hb'⟩

end Go.Proofs.Ytjnfofgonddflaa.Q
