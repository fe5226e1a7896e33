-- written by px.py and merge.py (programs of this claim's), over the kit's print. Not trusted: Lean checks it.
import Derived.Test.YtjnfofgonddflaaQ0
import Derived.Test.YtjnfofgonddflaaM1FnExactPlacesOnly
import Derived.Test.YtjnfofgonddflaaM3FnExactPlacesOnly
namespace Go.Proofs.Ytjnfofgonddflaa.Q
open Go.RowKit Go.Proofs.YtjnfofgonddflaaL.PrintWords Go.Proofs.YtjnfofgonddflaaL.PrintLast Go.Proofs.YtjnfofgonddflaaL.PrintMore
attribute [local go_sem] max2_int min2_int max_two min_two max_three min_three max_four min_four   -- for this text's walks alone
set_option linter.unusedVariables false
set_option linter.unusedSimpArgs false

/-! ### spec_PlacesOnly: function 43 -/
def spec_PlacesOnly.l0 : Nat → List (S41) → Int → Option ((List (S41)))
 | 0, _, _ => none
 | k + 1, x3, x4 => if x4 < (x3.length : Int) then (if 0 ≤ x4 then (if ((rd_T41 x3 x4).f1) = 1 then (spec_PlacesOnly.l0 k (x3.set (x4 : Int).toNat (⟨(rd_T41 x3 x4).f0, 0, (rd_T41 x3 x4).f2, (rd_T41 x3 x4).f3⟩ : S41)) (wrap64 (x4 + 1))) else (spec_PlacesOnly.l0 k x3 (wrap64 (x4 + 1)))) else (none)) else (some x3)
def spec_PlacesOnly.f (k : Nat) (l0_0 : List (S41)) : Option ((List (S41))) := (spec_validSignature.f k l0_0).bind fun t676 => (if t676 = true then ((spec_copyParams.f l0_0).bind fun t677 => (spec_PlacesOnly.l0 k t677 0)) else (some ([] : List (S41))))
theorem spec_PlacesOnly.mono_l : ∀ k, (∀ y0 y1, LeO (spec_PlacesOnly.l0 k y0 y1) (spec_PlacesOnly.l0 (k + 1) y0 y1))
 | 0 => fun _ _ r h => by simp [spec_PlacesOnly.l0] at h
 | k + 1 => by
  have ih0 := spec_PlacesOnly.mono_l k
  ·intro y0 y1
   unfold spec_PlacesOnly.l0
   repeat' first
   | (with_reducible exact ih0 _ _)
   | (with_reducible exact spec_validSignature.mono _ _)
   | (with_reducible exact LeO.refl _)
   | (with_reducible exact LeO.none _)
   | (with_reducible refine LeO.ite ?_ ?_)
   | (with_reducible refine LeO.bind ?_ (fun _ => ?_))
   | exact ih0 _ _
   | exact spec_validSignature.mono _ _
   | exact LeO.none _
   | refine LeO.ite ?_ ?_
   | refine LeO.bind ?_ (fun _ => ?_)
theorem spec_PlacesOnly.mono : ∀ a0 k, LeO (spec_PlacesOnly.f k a0) (spec_PlacesOnly.f (k + 1) a0) := by
 intro a0 k
 have ih0 := spec_PlacesOnly.mono_l k
 unfold spec_PlacesOnly.f
 repeat' first
   | (with_reducible exact ih0 _ _)
   | (with_reducible exact spec_validSignature.mono _ _)
   | (with_reducible exact LeO.refl _)
   | (with_reducible exact LeO.none _)
   | (with_reducible refine LeO.ite ?_ ?_)
   | (with_reducible refine LeO.bind ?_ (fun _ => ?_))
   | exact ih0 _ _
   | exact spec_validSignature.mono _ _
   | exact LeO.none _
   | refine LeO.ite ?_ ?_
   | refine LeO.bind ?_ (fun _ => ?_)
set_option maxHeartbeats 8000000 in
set_option maxRecDepth 100000 in
theorem spec_PlacesOnly.calls (k : Nat) (A0_0 : Option Addr) (c0_0 : Nat) (l0_0 : List (S41)) (r : List (S41)) (w : World) (hr0_0 : Kd.C k41 w A0_0 l0_0.length l0_0) (hc0_0 : l0_0.length ≤ c0_0) (h : spec_PlacesOnly.f k l0_0 = some r) :
  Calls Try.prog 43 #[.agg #[.slice A0_0 l0_0.length c0_0]] w fun e w' => ∃ v0_ : Value, e = .returned (.agg #[v0_]) ∧ Kd.R k41 41 w' w.heap.size (fun _ => True) v0_ r ∧ Below w.heap.size w w' := by
 have hu25 := Try.underlying25
 have HR0_0 := Aside0.mk hr0_0
 have HC0_0 := Aside0.mk hc0_0
 clear hr0_0 hc0_0
 have HB := Aside0.mk (Below.refl w.heap.size w)
 have H : ((spec_validSignature.f k l0_0).bind fun t676 => (if t676 = true then ((spec_copyParams.f l0_0).bind fun t677 => (spec_PlacesOnly.l0 k t677 0)) else (some ([] : List (S41))))) = some r := h
 clear h
 replace H := Option.bind_eq_some_iff.mp H
 obtain ⟨t676, A20, H⟩ := H
 (try dsimp only at H)
 have A2 := Aside0.mk A20
 clear A20
 by_cases c3 : t676 = true
 ·subst c3
  rw [if_pos rfl] at H
  replace H := Option.bind_eq_some_iff.mp H
  obtain ⟨t677, A40, H⟩ := H
  (try dsimp only at H)
  have A4 := Aside0.mk A40
  clear A40
  have H' := Aside0.mk H
  clear H
  go_enter Try.func43, Try.ntmps43
  go_wp2_with (first | ((with_reducible refine gate_dst (N := 1) rfl ?_); refine box_event ?hg (N := 1) ?hd (cs := #[.slice A0_0 l0_0.length c0_0]) (t := 25) ?hr ?_; (case hd => rfl); (case hg => rfl); (case hr => first | (go_simp; done) | (go_simp; rfl)); intro gb674 hg w5 hbox hb; have BK674 := Aside0.mk (hbox); have GW674 := Aside0.mk ((by rw [hg]; exact (below_size (zB HB)) : w.heap.size ≤ gb674)); have GE674 := Aside0.mk ((by rw [hg]; exact (below_size (zB HB)) : w.heap.size ≤ gb674)); replace HB := Aside0.mk (below_step (zB HB) hb); clear hb hbox hg) | ((with_reducible refine gate_dst (N := 2) rfl ?_); refine box_event ?hg (N := 2) ?hd (cs := #[.slice none 0 0]) (t := 25) ?hr ?_; (case hd => rfl); (case hg => rfl); (case hr => first | (go_simp; done) | (go_simp; rfl)); intro gb675 hg w6 hbox hb; have BK675 := Aside0.mk (hbox); have GW675 := Aside0.mk ((by rw [hg]; exact (below_size (zB HB)) : w.heap.size ≤ gb675)); have GE675 := Aside0.mk ((by rw [hg]; exact (below_size (zB HB)) : w.heap.size ≤ gb675)); replace HB := Aside0.mk (below_step (zB HB) hb); have NB674_675 := Aside0.mk ((by rw [hg]; exact Nat.ne_of_lt (blk_lt (g := gb674) (o := .cells #[.slice A0_0 l0_0.length c0_0] 25 (0, 0)) (zb BK674)) : gb674 ≠ gb675)); have NB675_674 := Aside0.mk ((by rw [hg]; exact Nat.ne_of_gt (blk_lt (g := gb674) (o := .cells #[.slice A0_0 l0_0.length c0_0] 25 (0, 0)) (zb BK674)) : gb675 ≠ gb674)); replace BK674 := Aside0.mk (blk_below (g := gb674) (o := .cells #[.slice A0_0 l0_0.length c0_0] 25 (0, 0)) (zb BK674) hb); clear hb hbox hg; have hnb7 := NB674_675.out; have hnc7 := NB675_674.out; have hcz8_0 : w6.cell? ⟨gb674, 0, none⟩ = some (.slice A0_0 l0_0.length c0_0) := (blk_cell BK674.out 0).trans rfl; have hfz8_0 := blk_frozen BK674.out 0) | ((with_reducible refine gate_callee (f := 55) rfl ?_); refine goesL_ (some 6) rfl rfl Try.func55 (by kernel_rfl) rfl #[.agg #[.slice A0_0 l0_0.length c0_0]] rfl zl ?_; (with_reducible refine (spec_validSignature.calls k _ _ l0_0 true _ ?side1 ?side2 A2.out).mono ?_); (case side1 => repeat (first | exact (Kd.C_below HR0_0.out HB.out) | (with_reducible refine Kd.C_alloc ?_ _) | (with_reducible refine Kd.C_drewN ?_ _) | (with_reducible refine Kd.C_drew ?_))); (case side2 => exact HC0_0.out); rintro e w9 ⟨rfl, hb⟩; refine ⟨_, rfl, ?_⟩; replace BK674 := Aside0.mk (blk_below (g := gb674) (o := .cells #[.slice A0_0 l0_0.length c0_0] 25 (0, 0)) (zb BK674) hb); replace BK675 := Aside0.mk (blk_below (g := gb675) (o := .cells #[.slice none 0 0] 25 (0, 0)) (zb BK675) hb); replace HB := Aside0.mk (below_step (zB HB) hb); (try clear hb); (try clear hb2); (try clear hk); (try clear hi); have hcz10_0 : w9.cell? ⟨gb674, 0, none⟩ = some (.slice A0_0 l0_0.length c0_0) := (blk_cell BK674.out 0).trans rfl; have hfz10_0 := blk_frozen BK674.out 0) | ((with_reducible refine gate_callee (f := 76) rfl ?_); refine goesL_ (some 11) rfl rfl Try.func76 (by kernel_rfl) rfl #[.slice A0_0 l0_0.length c0_0] rfl zl ?_; (with_reducible refine (spec_copyParams.calls _ _ l0_0 t677 _ ?side1 ?side2 A4.out).mono ?_); (case side1 => repeat (first | exact (Kd.C_below HR0_0.out HB.out) | (with_reducible refine Kd.C_alloc ?_ _) | (with_reducible refine Kd.C_drewN ?_ _) | (with_reducible refine Kd.C_drew ?_))); (case side2 => exact HC0_0.out); rintro e w11 ⟨v678, rfl, ho0, hb⟩; refine ⟨_, rfl, ?_⟩; have HO679 := Aside0.mk (Kd.R_lower ho0 (below_size (zB HB))); replace BK674 := Aside0.mk (blk_below (g := gb674) (o := .cells #[.slice A0_0 l0_0.length c0_0] 25 (0, 0)) (zb BK674) hb); replace BK675 := Aside0.mk (blk_below (g := gb675) (o := .cells #[.slice none 0 0] 25 (0, 0)) (zb BK675) hb); replace HB := Aside0.mk (below_step (zB HB) hb); (try clear hb); (try clear hb2); (try clear hk); (try clear hi); (try clear ho0)))
  go_loopg [4] k (fun kq v4 w' => ∃ (x3_1 : List (S41)) (x4_1 : Int), v4 = .int .i64 x4_1 ∧ Aside0 (spec_PlacesOnly.l0 kq x3_1 x4_1 = some r) ∧ Aside0 (kq ≤ k) ∧ Aside0 (Kd.R k41 41 w' w.heap.size (fun _ => True) v678 x3_1) ∧ Aside0 (w'.heap[gb674]? = some (.cells #[(.slice A0_0 l0_0.length c0_0)] 25 (0, 0))) ∧ Aside0 (w'.heap[gb675]? = some (.cells #[(.slice none 0 0)] 25 (0, 0))) ∧ Aside0 (Below w.heap.size w w'))
  case atStart => exact ⟨(t677), (0), zr, H', ⟨Nat.le_refl _⟩, ⟨zo HO679⟩, ⟨zb BK674⟩, ⟨zb BK675⟩, ⟨zB HB⟩⟩
  case round =>
   clear H'
   try clear p2
   try clear c3
   try clear c4
   try clear c5
   try clear c7
   try clear hcz10_0
   try clear hcz8_0
   try clear hfz10_0
   try clear hfz8_0
   obtain ⟨x3_1, x4_1, rfl, HA, HK1, HO_3, BK674, BK675, HB⟩ := hrel
   cases gk with
   | zero => exact absurd HA.out (by simp [spec_PlacesOnly.l0])
   | succ k1 =>
    have H := HA.out
    clear HA
    simp only [spec_PlacesOnly.l0] at H
    by_cases c12 : x4_1 < (x3_1.length : Int)
    ·rw [if_pos c12] at H
     have c12b0 : decide (x4_1 < (x3_1.length : Int)) = true := decide_eq_true c12
     clear c12
     by_cases c13 : 0 ≤ x4_1
     ·rw [if_pos c13] at H
      have c13b0 : decide (0 ≤ x4_1) = true := decide_eq_true c13
      clear c13
      by_cases c14 : ((rd_T41 x3_1 x4_1).f1) = 1
      ·rw [if_pos c14] at H
       have c14b0 : (((rd_T41 x3_1 x4_1).f1) == 1) = true := beq_iff_eq.mpr c14
       have c14b1 : (((rd_T41 x3_1 x4_1).f1) != 1) = false := bne_eq_false_iff_eq.mpr c14
       clear c14
       obtain ⟨y681, hy681⟩ : ∃ y_ : List (S41), y_ = (x3_1.set (x4_1 : Int).toNat (⟨(rd_T41 x3_1 x4_1).f0, 0, (rd_T41 x3_1 x4_1).f2, (rd_T41 x3_1 x4_1).f3⟩ : S41)) := ⟨_, rfl⟩
       replace H : (spec_PlacesOnly.l0 k1 y681 (wrap64 (x4_1 + 1))) = some r := by first | (rw [hy681]; with_reducible exact H) | (have H2_ := (Option.bind_some _ _).symm.trans H; rw [hy681]; with_reducible exact H2_) | (have H2_ := (Option.bind_some _ _).symm.trans H; with_reducible exact H2_) | with_reducible exact H | (rw [hy681]; exact H) | exact H
       have Ny681 := Aside0.mk hy681
       clear hy681
       have H' := Aside0.mk H
       clear H
       obtain ⟨Ao16, co16, eo16⟩ := Kd.R_slice HO_3.out
       subst eo16
       have p680 : 0 ≤ (x4_1 : Int) := of_decide_eq_true za
       have q680 : x4_1 < (x3_1.length : Int) := of_decide_eq_true za
       obtain ⟨ad680, e680, hx680_0, hx680_1, hx680_2, hx680_3⟩ := at_T41 (Kd.R_reads' HO_3.out).2.2 x4_1 p680 q680
       cases e680
       replace p680 := eq_true p680
       replace q680 := eq_true q680
       have p15 : 0 ≤ (x4_1 : Int) := of_decide_eq_true za
       have q15 : (x4_1 : Int) < ((x3_1.length : Int) : Int) := of_decide_eq_true za
       obtain ⟨go15, co15, eo15, gb15, gl15, cl15, HG15⟩ := Kd.R_form HO_3.out (by omega)
       (first | cases eo15 | (injection eo15 with ea_ en_ ec_; (first | subst ea_ | (injection ea_ with ea_; subst ea_)); subst ec_; clear en_))
       have GB15 := Aside0.mk gb15
       have GG15 := Aside0.mk HG15
       clear gb15 gl15 HG15
       (first | simp only [add_plain] at hx680_0 | skip)
       (first | simp only [add_plain] at hx680_1 | skip)
       (first | simp only [add_plain] at hx680_2 | skip)
       (first | simp only [add_plain] at hx680_3 | skip)
       obtain ⟨ce15, hcl15, hM15, hcc15, hfr15⟩ := Kd.R_elem HO_3.out z41 (x4_1 : Int) p15 q15
       obtain rfl := k41_openM hM15
       have hx15_0 : wr.cell? ⟨go15, (x4_1 : Int).toNat * 4, none⟩ = some (.string ((rd_T41 x3_1 x4_1).f0)) := hcc15 0 _ rfl
       have hx15_1 : wr.cell? ⟨go15, (x4_1 : Int).toNat * 4 + 1, none⟩ = some (.int .i64 ((rd_T41 x3_1 x4_1).f1)) := hcc15 1 _ rfl
       have hx15_2 : wr.cell? ⟨go15, (x4_1 : Int).toNat * 4 + 2, none⟩ = some (.bool ((rd_T41 x3_1 x4_1).f2)) := hcc15 2 _ rfl
       have hx15_3 : wr.cell? ⟨go15, (x4_1 : Int).toNat * 4 + 3, none⟩ = some (.int .i64 ((rd_T41 x3_1 x4_1).f3)) := hcc15 3 _ rfl
       have hf15_0 : wr.frozen? ⟨go15, (x4_1 : Int).toNat * 4, none⟩ = false := hfr15 0
       have hf15_1 : wr.frozen? ⟨go15, (x4_1 : Int).toNat * 4 + 1, none⟩ = false := hfr15 1
       have hf15_2 : wr.frozen? ⟨go15, (x4_1 : Int).toNat * 4 + 2, none⟩ = false := hfr15 2
       have hf15_3 : wr.frozen? ⟨go15, (x4_1 : Int).toNat * 4 + 3, none⟩ = false := hfr15 3
       clear hcl15 hcc15 hfr15 hM15
       replace p15 := eq_true p15
       replace q15 := eq_true q15
       have HX17 := Aside0.mk (show Kd.R k41 41 wr w.heap.size (fun _ => True) (.slice (some ⟨go15, 0, none⟩) x3_1.length co16) x3_1 from (zo HO_3))
       obtain ⟨ce17, hcl17, hM17, hcc17, hfr17⟩ := Kd.R_elem HX17.out z41 (x4_1 : Int) (of_decide_eq_true za) (by have h_ : (x4_1 : Int) < ((x3_1.length : Int) : Int) := of_decide_eq_true za; first | exact h_ | (have e_ := (Kd.R_reads' HO_3.out).1; omega) | simpa using h_)
       obtain rfl := k41_openM hM17
       have HP17 := Kd.R_seg HX17.out (x4_1 : Int) (of_decide_eq_true za) (by have h_ : (x4_1 : Int) < ((x3_1.length : Int) : Int) := of_decide_eq_true za; first | exact h_ | (have e_ := (Kd.R_reads' HO_3.out).1; omega) | simpa using h_) (seg := [.int .i64 0]) (j := 1) hcl17 hcc17 (show 2 ≤ 4 from by decide) (x' := (⟨(rd_T41 x3_1 x4_1).f0, 0, (rd_T41 x3_1 x4_1).f2, (rd_T41 x3_1 x4_1).f3⟩ : S41)) (k41_mkM _ _ _ (⟨(rd_T41 x3_1 x4_1).f0, 0, (rd_T41 x3_1 x4_1).f2, (rd_T41 x3_1 x4_1).f3⟩ : S41) ) (fun _ hk => hk)
       have hx17_1 := hcc17 1 _ rfl
       (try simp only [show (k41).sz = 4 from rfl, Nat.mul_one, Nat.add_zero] at hx17_1)
       have hf17_1 := hfr17 1
       (try simp only [show (k41).sz = 4 from rfl, Nat.mul_one, Nat.add_zero] at hf17_1)
       clear hcl17 hcc17 hfr17 hM17
       go_wp2_with (first | ((with_reducible refine gate_store (t := 3) (p := 27) rfl ?_); refine store_event (t := 3) (p := 27) (v := ?vo_w18) (w1 := (wr.setCell ⟨go15, (x4_1 : Int).toNat * 4 + 1, none⟩ (.int .i64 0))) ?hg ?ho ?hn ?hr ?_; (case ho => rfl); (case hg => rfl); (case hn => rfl); (case hr => first | (go_simp; done) | (go_simp; rfl)); intro w18 hw; have hg : wr.grownBy w18 (some go15) := (by rw [hw]; exact HP17.2); have hp_ : Kd.R k41 41 w18 w.heap.size (fun _ => True) (.slice (some ⟨go15, 0, none⟩) x3_1.length co16) y681 := (by rw [hw, Ny681.out]; exact HP17.1); clear HP17; replace BK674 := Aside0.mk (blk_grown (g := gb674) (o := .cells #[.slice A0_0 l0_0.length c0_0] 25 (0, 0)) (zb BK674) hg (Kd.R_ne HO_3.out BK674.out (by decide))); replace BK675 := Aside0.mk (blk_grown (g := gb675) (o := .cells #[.slice none 0 0] 25 (0, 0)) (zb BK675) hg (Kd.R_ne HO_3.out BK675.out (by decide))); replace HO_3 := Aside0.mk (hp_); replace HB := Aside0.mk ((by rw [hw]; exact below_set (HB.out) GB15.out : Below w.heap.size w w18)); clear hg hw hp_))
       go_roundg k1
       case measure => have := HK1.out; omega
       case rel => exact ⟨(y681), (wrap64 (x4_1 + 1)), zr, H', ⟨by have := HK1.out; omega⟩, ⟨zo HO_3⟩, ⟨zb BK674⟩, ⟨zb BK675⟩, ⟨zB HB⟩⟩
      ·rw [if_neg c14] at H
       have c14b0 : (((rd_T41 x3_1 x4_1).f1) == 1) = false := beq_eq_false_iff_ne.mpr c14
       have c14b1 : (((rd_T41 x3_1 x4_1).f1) != 1) = true := bne_iff_ne.mpr c14
       have H' := Aside0.mk H
       clear H
       obtain ⟨Ao19, co19, eo19⟩ := Kd.R_slice HO_3.out
       subst eo19
       have p680 : 0 ≤ (x4_1 : Int) := of_decide_eq_true za
       have q680 : x4_1 < (x3_1.length : Int) := of_decide_eq_true za
       obtain ⟨ad680, e680, hx680_0, hx680_1, hx680_2, hx680_3⟩ := at_T41 (Kd.R_reads' HO_3.out).2.2 x4_1 p680 q680
       cases e680
       replace p680 := eq_true p680
       replace q680 := eq_true q680
       go_wp2
       go_roundg k1
       case measure => have := HK1.out; omega
       case rel => exact ⟨(x3_1), (wrap64 (x4_1 + 1)), zr, H', ⟨by have := HK1.out; omega⟩, ⟨zo HO_3⟩, ⟨zb BK674⟩, ⟨zb BK675⟩, ⟨zB HB⟩⟩
     ·rw [if_neg c13] at H
      exact absurd H (by simp)
    ·rw [if_neg c12] at H
     have c12b0 : decide (x4_1 < (x3_1.length : Int)) = false := decide_eq_false c12
     clear c12
     obtain rfl := Option.some.inj H
     obtain ⟨Ao20, co20, eo20⟩ := Kd.R_slice HO_3.out
     subst eo20
     have hnb21 := NB675_674.out
     have hnc21 := NB674_675.out
     have hcz22_0 : wr.cell? ⟨gb675, 0, none⟩ = some (.slice none 0 0) := (blk_cell BK675.out 0).trans rfl
     have hfz22_0 := blk_frozen BK675.out 0
     go_wp2
     refine bodyPost_ret (results_cell_row rfl _ _ gb675 25 #[.slice Ao20 x3_1.length co20] (0, 0) _ rfl (by (with_reducible repeat (first | refine blk_drewN ?_ _ | refine blk_drew ?_ | refine blk_alloc ?_ _)); refine blk_put (cs := #[.slice none 0 0]) ?_ 0 _ rfl; (with_reducible repeat (first | refine blk_drewN ?_ _ | refine blk_drew ?_ | refine blk_alloc ?_ _)); exact BK675.out) Try.underlying25 rfl (by kernel_rfl)) rfl ?_
     exact ⟨_, by first | rfl | (simp [errW_none, errW_some] <;> rfl) | (simp [*, errW_none, errW_some] <;> rfl), by (with_reducible repeat (first | apply Kd.R_alloc | apply Kd.R_drewN | apply Kd.R_drew)); exact Kd.R_mono (Kd.R_far (p := ⟨gb675, 0, none⟩) (Kd.R_types HO_3.out BK675.out (by decide)) (fun _ hk => hk.2) (.slice Ao20 x3_1.length co20)) (fun _ hk => trivial), zB HB⟩
 ·replace c3 := Bool.eq_false_iff.mpr c3
  subst c3
  rw [if_neg (show ¬ (false = true) by decide)] at H
  obtain rfl := Option.some.inj H
  go_enter Try.func43, Try.ntmps43
  go_wp2_with (first | ((with_reducible refine gate_dst (N := 1) rfl ?_); refine box_event ?hg (N := 1) ?hd (cs := #[.slice A0_0 l0_0.length c0_0]) (t := 25) ?hr ?_; (case hd => rfl); (case hg => rfl); (case hr => first | (go_simp; done) | (go_simp; rfl)); intro gb674 hg w23 hbox hb; have BK674 := Aside0.mk (hbox); have GW674 := Aside0.mk ((by rw [hg]; exact (below_size (zB HB)) : w.heap.size ≤ gb674)); have GE674 := Aside0.mk ((by rw [hg]; exact (below_size (zB HB)) : w.heap.size ≤ gb674)); replace HB := Aside0.mk (below_step (zB HB) hb); clear hb hbox hg) | ((with_reducible refine gate_dst (N := 2) rfl ?_); refine box_event ?hg (N := 2) ?hd (cs := #[.slice none 0 0]) (t := 25) ?hr ?_; (case hd => rfl); (case hg => rfl); (case hr => first | (go_simp; done) | (go_simp; rfl)); intro gb675 hg w24 hbox hb; have BK675 := Aside0.mk (hbox); have GW675 := Aside0.mk ((by rw [hg]; exact (below_size (zB HB)) : w.heap.size ≤ gb675)); have GE675 := Aside0.mk ((by rw [hg]; exact (below_size (zB HB)) : w.heap.size ≤ gb675)); replace HB := Aside0.mk (below_step (zB HB) hb); have NB674_675 := Aside0.mk ((by rw [hg]; exact Nat.ne_of_lt (blk_lt (g := gb674) (o := .cells #[.slice A0_0 l0_0.length c0_0] 25 (0, 0)) (zb BK674)) : gb674 ≠ gb675)); have NB675_674 := Aside0.mk ((by rw [hg]; exact Nat.ne_of_gt (blk_lt (g := gb674) (o := .cells #[.slice A0_0 l0_0.length c0_0] 25 (0, 0)) (zb BK674)) : gb675 ≠ gb674)); replace BK674 := Aside0.mk (blk_below (g := gb674) (o := .cells #[.slice A0_0 l0_0.length c0_0] 25 (0, 0)) (zb BK674) hb); clear hb hbox hg; have hnb25 := NB674_675.out; have hnc25 := NB675_674.out; have hcz26_0 : w24.cell? ⟨gb674, 0, none⟩ = some (.slice A0_0 l0_0.length c0_0) := (blk_cell BK674.out 0).trans rfl; have hfz26_0 := blk_frozen BK674.out 0) | ((with_reducible refine gate_callee (f := 55) rfl ?_); refine goesL_ (some 6) rfl rfl Try.func55 (by kernel_rfl) rfl #[.agg #[.slice A0_0 l0_0.length c0_0]] rfl zl ?_; (with_reducible refine (spec_validSignature.calls k _ _ l0_0 false _ ?side1 ?side2 A2.out).mono ?_); (case side1 => repeat (first | exact (Kd.C_below HR0_0.out HB.out) | (with_reducible refine Kd.C_alloc ?_ _) | (with_reducible refine Kd.C_drewN ?_ _) | (with_reducible refine Kd.C_drew ?_))); (case side2 => exact HC0_0.out); rintro e w27 ⟨rfl, hb⟩; refine ⟨_, rfl, ?_⟩; replace BK674 := Aside0.mk (blk_below (g := gb674) (o := .cells #[.slice A0_0 l0_0.length c0_0] 25 (0, 0)) (zb BK674) hb); replace BK675 := Aside0.mk (blk_below (g := gb675) (o := .cells #[.slice none 0 0] 25 (0, 0)) (zb BK675) hb); replace HB := Aside0.mk (below_step (zB HB) hb); (try clear hb); (try clear hb2); (try clear hk); (try clear hi); have hcz28_0 : w27.cell? ⟨gb675, 0, none⟩ = some (.slice none 0 0) := (blk_cell BK675.out 0).trans rfl; have hfz28_0 := blk_frozen BK675.out 0))
  refine bodyPost_ret (results_cell_row rfl _ _ gb675 25 #[.slice none 0 0] (0, 0) _ rfl (by (with_reducible repeat (first | refine blk_drewN ?_ _ | refine blk_drew ?_ | refine blk_alloc ?_ _)); refine blk_put (cs := #[.slice none 0 0]) ?_ 0 _ rfl; (with_reducible repeat (first | refine blk_drewN ?_ _ | refine blk_drew ?_ | refine blk_alloc ?_ _)); exact BK675.out) Try.underlying25 rfl (by kernel_rfl)) rfl ?_
  exact ⟨_, by first | rfl | (simp [errW_none, errW_some] <;> rfl) | (simp [*, errW_none, errW_some] <;> rfl), by first | exact Kd.R_nil _ _ _ _ _ | exact Kd.N_nil _ _ _ _ _ | exact Kd.V_nil _ _ _ _ _ | exact Kd.Q_nil _ _ _ _ _ | exact Kd.S_nil _ _ _ _ _, zB HB⟩

end Go.Proofs.Ytjnfofgonddflaa.Q

namespace Go.Proofs.Ytjnfofgonddflaa.Q
open Go.RowKit Go.Proofs.YtjnfofgonddflaaL.PrintWords Go.Proofs.YtjnfofgonddflaaL.PrintLast Go.Proofs.YtjnfofgonddflaaL.PrintMore
attribute [local go_sem] max2_int min2_int max_two min_two max_three min_three max_four min_four   -- for this text's walks alone
set_option linter.unusedVariables false
set_option linter.unusedSimpArgs false

/-! ### impl_in: function 50 -/
def impl_in.f (a0 : Int) (a1 : Int) (a2 : Int) : Option (Bool) := if a0 ≥ a1 then (some (decide (a0 ≤ a2))) else (some false)
set_option maxHeartbeats 8000000 in
set_option maxRecDepth 100000 in
theorem impl_in.calls (a0 : Int) (a1 : Int) (a2 : Int) (r : Bool) (w : World) (h : impl_in.f a0 a1 a2 = some r) :
  Calls Try.prog 50 #[.int .i64 a0, .int .i64 a1, .int .i64 a2] w fun e w' => e = .returned (.bool r) ∧ Drawn0 w w' := by
 have H : (if a0 ≥ a1 then (some (decide (a0 ≤ a2))) else (some false)) = some r := h
 clear h
 by_cases c4 : a0 ≥ a1
 ·rw [if_pos c4] at H
  have c4b0 : decide (a1 ≤ a0) = true := decide_eq_true c4
  clear c4
  obtain rfl := Option.some.inj H
  go_enter Try.func50, Try.ntmps50
  go_wp2
  go_ret
  exact ⟨by first | rfl | (simp; done) | (simp [*]; done), by repeat (first | exact Drawn0.refl _ | apply Drawn0.step)⟩
 ·rw [if_neg c4] at H
  have c4b0 : decide (a1 ≤ a0) = false := decide_eq_false c4
  clear c4
  obtain rfl := Option.some.inj H
  go_enter Try.func50, Try.ntmps50
  go_wp2
  go_ret
  exact ⟨by first | rfl | (simp; done) | (simp [*]; done), by repeat (first | exact Drawn0.refl _ | apply Drawn0.step)⟩

/-! ### impl_isName: function 49 -/
def impl_isName.l0 : Nat → ByteArray → Int → Option (Bool)
 | 0, _, _ => none
 | k + 1, x0, x3 => if x3 < (x0.size : Int) then (if 0 ≤ x3 then (if (bt x0 x3) < 97 then (some false) else (if (bt x0 x3) > 122 then (some false) else (impl_isName.l0 k x0 (wrap64 (x3 + 1))))) else (none)) else ((impl_in.f (x0.size : Int) 1 6).bind fun t237 => (some t237))
def impl_isName.f (k : Nat) (a0 : ByteArray) : Option (Bool) := impl_isName.l0 k a0 0
theorem impl_isName.mono_l : ∀ k, (∀ y0 y1, LeO (impl_isName.l0 k y0 y1) (impl_isName.l0 (k + 1) y0 y1))
 | 0 => fun _ _ r h => by simp [impl_isName.l0] at h
 | k + 1 => by
  have ih0 := impl_isName.mono_l k
  ·intro y0 y1
   unfold impl_isName.l0
   repeat' first
   | (with_reducible exact ih0 _ _)
   | (with_reducible exact LeO.refl _)
   | (with_reducible exact LeO.none _)
   | (with_reducible refine LeO.ite ?_ ?_)
   | (with_reducible refine LeO.bind ?_ (fun _ => ?_))
   | exact ih0 _ _
   | exact LeO.none _
   | refine LeO.ite ?_ ?_
   | refine LeO.bind ?_ (fun _ => ?_)
theorem impl_isName.mono : ∀ a0 k, LeO (impl_isName.f k a0) (impl_isName.f (k + 1) a0) := by
 intro a0 k
 have ih0 := impl_isName.mono_l k
 unfold impl_isName.f
 repeat' first
   | (with_reducible exact ih0 _ _)
   | (with_reducible exact LeO.refl _)
   | (with_reducible exact LeO.none _)
   | (with_reducible refine LeO.ite ?_ ?_)
   | (with_reducible refine LeO.bind ?_ (fun _ => ?_))
   | exact ih0 _ _
   | exact LeO.none _
   | refine LeO.ite ?_ ?_
   | refine LeO.bind ?_ (fun _ => ?_)
set_option maxHeartbeats 8000000 in
set_option maxRecDepth 100000 in
theorem impl_isName.calls (k : Nat) (a0 : ByteArray) (r : Bool) (w : World) (h : impl_isName.f k a0 = some r) :
  Calls Try.prog 49 #[.string a0] w fun e w' => e = .returned (.bool r) ∧ Drawn0 w w' := by
 have H : (impl_isName.l0 k a0 0) = some r := h
 clear h
 have H' := Aside0.mk H
 clear H
 go_enter Try.func49, Try.ntmps49
 go_wp2
 go_loopg [3] k (fun kq v3 w' => ∃ (x3_1 : Int), v3 = .int .i64 x3_1 ∧ Aside0 (impl_isName.l0 kq a0 x3_1 = some r) ∧ Aside0 (kq ≤ k) ∧ Drawn0 w w')
 case atStart => exact ⟨(0), zr, H', ⟨Nat.le_refl _⟩, by repeat (first | exact Drawn0.refl _ | apply Drawn0.step)⟩
 case round =>
  clear H'
  obtain ⟨x3_1, rfl, HA, HK1, ⟨m1, rfl⟩⟩ := hrel
  cases gk with
  | zero => exact absurd HA.out (by simp [impl_isName.l0])
  | succ k1 =>
   have H := HA.out
   clear HA
   simp only [impl_isName.l0] at H
   by_cases c2 : x3_1 < (a0.size : Int)
   ·rw [if_pos c2] at H
    have c2b0 : decide (x3_1 < (a0.size : Int)) = true := decide_eq_true c2
    clear c2
    by_cases c3 : 0 ≤ x3_1
    ·rw [if_pos c3] at H
     have c3b0 : decide (0 ≤ x3_1) = true := decide_eq_true c3
     clear c3
     by_cases c5 : (bt a0 x3_1) < 97
     ·rw [if_pos c5] at H
      have c5b0 : decide ((bt a0 x3_1) < 97) = true := decide_eq_true c5
      clear c5
      obtain rfl := Option.some.inj H
      have p4 : 0 ≤ (x3_1 : Int) := of_decide_eq_true za
      have q4 : x3_1 < (a0.size : Int) := of_decide_eq_true za
      have hx4 := bt_at a0 x3_1
      replace p4 := eq_true p4
      replace q4 := eq_true q4
      go_wp2
      go_ret
      exact ⟨by first | rfl | (simp; done) | (simp [*]; done), by repeat (first | exact Drawn0.refl _ | apply Drawn0.step)⟩
     ·rw [if_neg c5] at H
      have c5b0 : decide ((bt a0 x3_1) < 97) = false := decide_eq_false c5
      clear c5
      by_cases c7 : (bt a0 x3_1) > 122
      ·rw [if_pos c7] at H
       have c7b0 : decide (122 < (bt a0 x3_1)) = true := decide_eq_true c7
       clear c7
       obtain rfl := Option.some.inj H
       have p4 : 0 ≤ (x3_1 : Int) := of_decide_eq_true za
       have q4 : x3_1 < (a0.size : Int) := of_decide_eq_true za
       have hx4 := bt_at a0 x3_1
       replace p4 := eq_true p4
       replace q4 := eq_true q4
       have p6 : 0 ≤ (x3_1 : Int) := of_decide_eq_true za
       have q6 : x3_1 < (a0.size : Int) := of_decide_eq_true za
       have hx6 := bt_at a0 x3_1
       replace p6 := eq_true p6
       replace q6 := eq_true q6
       go_wp2
       go_ret
       exact ⟨by first | rfl | (simp; done) | (simp [*]; done), by repeat (first | exact Drawn0.refl _ | apply Drawn0.step)⟩
      ·rw [if_neg c7] at H
       have c7b0 : decide (122 < (bt a0 x3_1)) = false := decide_eq_false c7
       clear c7
       have H' := Aside0.mk H
       clear H
       have p4 : 0 ≤ (x3_1 : Int) := of_decide_eq_true za
       have q4 : x3_1 < (a0.size : Int) := of_decide_eq_true za
       have hx4 := bt_at a0 x3_1
       replace p4 := eq_true p4
       replace q4 := eq_true q4
       have p6 : 0 ≤ (x3_1 : Int) := of_decide_eq_true za
       have q6 : x3_1 < (a0.size : Int) := of_decide_eq_true za
       have hx6 := bt_at a0 x3_1
       replace p6 := eq_true p6
       replace q6 := eq_true q6
       go_wp2
       go_roundg k1
       case measure => have := HK1.out; omega
       case rel => exact ⟨(wrap64 (x3_1 + 1)), zr, H', ⟨by have := HK1.out; omega⟩, by repeat (first | exact Drawn0.refl _ | apply Drawn0.step)⟩
    ·rw [if_neg c3] at H
     exact absurd H (by simp)
   ·rw [if_neg c2] at H
    have c2b0 : decide (x3_1 < (a0.size : Int)) = false := decide_eq_false c2
    clear c2
    replace H := Option.bind_eq_some_iff.mp H
    obtain ⟨t237, A80, H⟩ := H
    (try dsimp only at H)
    have A8 := Aside0.mk A80
    clear A80
    obtain rfl := Option.some.inj H
    go_wp2_with (first | ((with_reducible refine gate_callee (f := 50) rfl ?_); refine goesL_ (some 22) rfl rfl Try.func50 (by kernel_rfl) rfl #[.int .i64 (a0.size : Int), .int .i64 1, .int .i64 6] rfl zl ?_; (with_reducible refine (impl_in.calls (a0.size : Int) 1 6 t237 _ A8.out).mono ?_); rintro e w' ⟨rfl, ⟨nd, rfl⟩⟩; refine ⟨_, rfl, ?_⟩))
    go_ret
    exact ⟨by first | rfl | (simp; done) | (simp [*]; done), by repeat (first | exact Drawn0.refl _ | apply Drawn0.step)⟩

/-! ### impl_isValue: function 51 -/
def impl_isValue.f (a0 : Int) : Option (Bool) := (impl_in.f a0 (-99) 99).bind fun t238 => (some t238)
set_option maxHeartbeats 8000000 in
set_option maxRecDepth 100000 in
theorem impl_isValue.calls (a0 : Int) (r : Bool) (w : World) (h : impl_isValue.f a0 = some r) :
  Calls Try.prog 51 #[.int .i64 a0] w fun e w' => e = .returned (.bool r) ∧ Drawn0 w w' := by
 have H : ((impl_in.f a0 (-99) 99).bind fun t238 => (some t238)) = some r := h
 clear h
 replace H := Option.bind_eq_some_iff.mp H
 obtain ⟨t238, A20, H⟩ := H
 (try dsimp only at H)
 have A2 := Aside0.mk A20
 clear A20
 obtain rfl := Option.some.inj H
 go_enter Try.func51, Try.ntmps51
 go_wp2_with (first | ((with_reducible refine gate_callee (f := 50) rfl ?_); refine goesL_ (some 4) rfl rfl Try.func50 (by kernel_rfl) rfl #[.int .i64 a0, .int .i64 (-99), .int .i64 99] rfl zl ?_; (with_reducible refine (impl_in.calls a0 (-99) 99 t238 _ A2.out).mono ?_); rintro e w' ⟨rfl, ⟨nd, rfl⟩⟩; refine ⟨_, rfl, ?_⟩))
 go_ret
 exact ⟨by first | rfl | (simp; done) | (simp [*]; done), by repeat (first | exact Drawn0.refl _ | apply Drawn0.step)⟩

/-! ### impl_Param_placed: function 53 -/
def impl_Param_placed.f (a0_0 : ByteArray) (a0_1 : Int) (a0_2 : Bool) (a0_3 : Int) : Option (Bool) := if a0_1 = 0 then (some true) else (some (a0_1 == 1))
set_option maxHeartbeats 8000000 in
set_option maxRecDepth 100000 in
theorem impl_Param_placed.calls (a0_0 : ByteArray) (a0_1 : Int) (a0_2 : Bool) (a0_3 : Int) (r : Bool) (w : World) (h : impl_Param_placed.f a0_0 a0_1 a0_2 a0_3 = some r) :
  Calls Try.prog 53 #[.agg #[.string a0_0, .int .i64 a0_1, .bool a0_2, .int .i64 a0_3]] w fun e w' => e = .returned (.bool r) ∧ Below w.heap.size w w' := by
 have hu41 := Try.underlying41
 have HB := Aside0.mk (Below.refl w.heap.size w)
 have H : (if a0_1 = 0 then (some true) else (some (a0_1 == 1))) = some r := h
 clear h
 by_cases c2 : a0_1 = 0
 ·rw [if_pos c2] at H
  have c2b0 : (a0_1 == 0) = true := beq_iff_eq.mpr c2
  have c2b1 : (a0_1 != 0) = false := bne_eq_false_iff_eq.mpr c2
  clear c2
  obtain rfl := Option.some.inj H
  go_enter Try.func53, Try.ntmps53
  go_wp2_with (first | ((with_reducible refine gate_dst (N := 1) rfl ?_); refine box_event ?hg (N := 1) ?hd (cs := #[.string a0_0, .int .i64 a0_1, .bool a0_2, .int .i64 a0_3]) (t := 41) ?hr ?_; (case hd => rfl); (case hg => rfl); (case hr => first | (go_simp; done) | (go_simp; rfl)); intro gb239 hg w3 hbox hb; have BK239 := Aside0.mk (hbox); have GW239 := Aside0.mk ((by rw [hg]; exact (below_size (zB HB)) : w.heap.size ≤ gb239)); have GE239 := Aside0.mk ((by rw [hg]; exact (below_size (zB HB)) : w.heap.size ≤ gb239)); replace HB := Aside0.mk (below_step (zB HB) hb); clear hb hbox hg; have hcz4_0 : w3.cell? ⟨gb239, 0, none⟩ = some (.string a0_0) := (blk_cell BK239.out 0).trans rfl; have hcz4_1 : w3.cell? ⟨gb239, 1, none⟩ = some (.int .i64 a0_1) := (blk_cell BK239.out 1).trans rfl; have hcz4_2 : w3.cell? ⟨gb239, 2, none⟩ = some (.bool a0_2) := (blk_cell BK239.out 2).trans rfl; have hcz4_3 : w3.cell? ⟨gb239, 3, none⟩ = some (.int .i64 a0_3) := (blk_cell BK239.out 3).trans rfl; have hfz4_0 := blk_frozen BK239.out 0; have hfz4_1 := blk_frozen BK239.out 1; have hfz4_2 := blk_frozen BK239.out 2; have hfz4_3 := blk_frozen BK239.out 3))
  go_ret
  exact ⟨by first | rfl | (simp [errW_none, errW_some] <;> rfl) | (simp [*, errW_none, errW_some] <;> rfl), zB HB⟩
 ·rw [if_neg c2] at H
  have c2b0 : (a0_1 == 0) = false := beq_eq_false_iff_ne.mpr c2
  have c2b1 : (a0_1 != 0) = true := bne_iff_ne.mpr c2
  obtain rfl := Option.some.inj H
  go_enter Try.func53, Try.ntmps53
  go_wp2_with (first | ((with_reducible refine gate_dst (N := 1) rfl ?_); refine box_event ?hg (N := 1) ?hd (cs := #[.string a0_0, .int .i64 a0_1, .bool a0_2, .int .i64 a0_3]) (t := 41) ?hr ?_; (case hd => rfl); (case hg => rfl); (case hr => first | (go_simp; done) | (go_simp; rfl)); intro gb239 hg w5 hbox hb; have BK239 := Aside0.mk (hbox); have GW239 := Aside0.mk ((by rw [hg]; exact (below_size (zB HB)) : w.heap.size ≤ gb239)); have GE239 := Aside0.mk ((by rw [hg]; exact (below_size (zB HB)) : w.heap.size ≤ gb239)); replace HB := Aside0.mk (below_step (zB HB) hb); clear hb hbox hg; have hcz6_0 : w5.cell? ⟨gb239, 0, none⟩ = some (.string a0_0) := (blk_cell BK239.out 0).trans rfl; have hcz6_1 : w5.cell? ⟨gb239, 1, none⟩ = some (.int .i64 a0_1) := (blk_cell BK239.out 1).trans rfl; have hcz6_2 : w5.cell? ⟨gb239, 2, none⟩ = some (.bool a0_2) := (blk_cell BK239.out 2).trans rfl; have hcz6_3 : w5.cell? ⟨gb239, 3, none⟩ = some (.int .i64 a0_3) := (blk_cell BK239.out 3).trans rfl; have hfz6_0 := blk_frozen BK239.out 0; have hfz6_1 := blk_frozen BK239.out 1; have hfz6_2 := blk_frozen BK239.out 2; have hfz6_3 := blk_frozen BK239.out 3))
  go_ret
  exact ⟨by first | rfl | (simp [errW_none, errW_some] <;> rfl) | (simp [*, errW_none, errW_some] <;> rfl), zB HB⟩

/-! ### impl_Param_single: function 52 -/
def impl_Param_single.f (a0_0 : ByteArray) (a0_1 : Int) (a0_2 : Bool) (a0_3 : Int) : Option (Bool) := (impl_Param_placed.f a0_0 a0_1 a0_2 a0_3).bind fun t241 => (if t241 = true then (some true) else (some (a0_1 == 3)))
set_option maxHeartbeats 8000000 in
set_option maxRecDepth 100000 in
theorem impl_Param_single.calls (a0_0 : ByteArray) (a0_1 : Int) (a0_2 : Bool) (a0_3 : Int) (r : Bool) (w : World) (h : impl_Param_single.f a0_0 a0_1 a0_2 a0_3 = some r) :
  Calls Try.prog 52 #[.agg #[.string a0_0, .int .i64 a0_1, .bool a0_2, .int .i64 a0_3]] w fun e w' => e = .returned (.bool r) ∧ Below w.heap.size w w' := by
 have hu41 := Try.underlying41
 have HB := Aside0.mk (Below.refl w.heap.size w)
 have H : ((impl_Param_placed.f a0_0 a0_1 a0_2 a0_3).bind fun t241 => (if t241 = true then (some true) else (some (a0_1 == 3)))) = some r := h
 clear h
 replace H := Option.bind_eq_some_iff.mp H
 obtain ⟨t241, A20, H⟩ := H
 (try dsimp only at H)
 have A2 := Aside0.mk A20
 clear A20
 by_cases c3 : t241 = true
 ·subst c3
  rw [if_pos rfl] at H
  obtain rfl := Option.some.inj H
  go_enter Try.func52, Try.ntmps52
  go_wp2_with (first | ((with_reducible refine gate_dst (N := 1) rfl ?_); refine box_event ?hg (N := 1) ?hd (cs := #[.string a0_0, .int .i64 a0_1, .bool a0_2, .int .i64 a0_3]) (t := 41) ?hr ?_; (case hd => rfl); (case hg => rfl); (case hr => first | (go_simp; done) | (go_simp; rfl)); intro gb240 hg w4 hbox hb; have BK240 := Aside0.mk (hbox); have GW240 := Aside0.mk ((by rw [hg]; exact (below_size (zB HB)) : w.heap.size ≤ gb240)); have GE240 := Aside0.mk ((by rw [hg]; exact (below_size (zB HB)) : w.heap.size ≤ gb240)); replace HB := Aside0.mk (below_step (zB HB) hb); clear hb hbox hg; have hcz5_0 : w4.cell? ⟨gb240, 0, none⟩ = some (.string a0_0) := (blk_cell BK240.out 0).trans rfl; have hcz5_1 : w4.cell? ⟨gb240, 1, none⟩ = some (.int .i64 a0_1) := (blk_cell BK240.out 1).trans rfl; have hcz5_2 : w4.cell? ⟨gb240, 2, none⟩ = some (.bool a0_2) := (blk_cell BK240.out 2).trans rfl; have hcz5_3 : w4.cell? ⟨gb240, 3, none⟩ = some (.int .i64 a0_3) := (blk_cell BK240.out 3).trans rfl; have hfz5_0 := blk_frozen BK240.out 0; have hfz5_1 := blk_frozen BK240.out 1; have hfz5_2 := blk_frozen BK240.out 2; have hfz5_3 := blk_frozen BK240.out 3) | ((with_reducible refine gate_callee (f := 53) rfl ?_); refine goesL_ (some 4) rfl rfl Try.func53 (by kernel_rfl) rfl #[.agg #[.string a0_0, .int .i64 a0_1, .bool a0_2, .int .i64 a0_3]] rfl zl ?_; (with_reducible refine (impl_Param_placed.calls a0_0 a0_1 a0_2 a0_3 true _ A2.out).mono ?_); rintro e w6 ⟨rfl, hb⟩; refine ⟨_, rfl, ?_⟩; replace BK240 := Aside0.mk (blk_below (g := gb240) (o := .cells #[.string a0_0, .int .i64 a0_1, .bool a0_2, .int .i64 a0_3] 41 (0, 0)) (zb BK240) hb); replace HB := Aside0.mk (below_step (zB HB) hb); (try clear hb); (try clear hb2); (try clear hk); (try clear hi)))
  go_ret
  exact ⟨by first | rfl | (simp [errW_none, errW_some] <;> rfl) | (simp [*, errW_none, errW_some] <;> rfl), zB HB⟩
 ·replace c3 := Bool.eq_false_iff.mpr c3
  subst c3
  rw [if_neg (show ¬ (false = true) by decide)] at H
  obtain rfl := Option.some.inj H
  go_enter Try.func52, Try.ntmps52
  go_wp2_with (first | ((with_reducible refine gate_dst (N := 1) rfl ?_); refine box_event ?hg (N := 1) ?hd (cs := #[.string a0_0, .int .i64 a0_1, .bool a0_2, .int .i64 a0_3]) (t := 41) ?hr ?_; (case hd => rfl); (case hg => rfl); (case hr => first | (go_simp; done) | (go_simp; rfl)); intro gb240 hg w7 hbox hb; have BK240 := Aside0.mk (hbox); have GW240 := Aside0.mk ((by rw [hg]; exact (below_size (zB HB)) : w.heap.size ≤ gb240)); have GE240 := Aside0.mk ((by rw [hg]; exact (below_size (zB HB)) : w.heap.size ≤ gb240)); replace HB := Aside0.mk (below_step (zB HB) hb); clear hb hbox hg; have hcz8_0 : w7.cell? ⟨gb240, 0, none⟩ = some (.string a0_0) := (blk_cell BK240.out 0).trans rfl; have hcz8_1 : w7.cell? ⟨gb240, 1, none⟩ = some (.int .i64 a0_1) := (blk_cell BK240.out 1).trans rfl; have hcz8_2 : w7.cell? ⟨gb240, 2, none⟩ = some (.bool a0_2) := (blk_cell BK240.out 2).trans rfl; have hcz8_3 : w7.cell? ⟨gb240, 3, none⟩ = some (.int .i64 a0_3) := (blk_cell BK240.out 3).trans rfl; have hfz8_0 := blk_frozen BK240.out 0; have hfz8_1 := blk_frozen BK240.out 1; have hfz8_2 := blk_frozen BK240.out 2; have hfz8_3 := blk_frozen BK240.out 3) | ((with_reducible refine gate_callee (f := 53) rfl ?_); refine goesL_ (some 4) rfl rfl Try.func53 (by kernel_rfl) rfl #[.agg #[.string a0_0, .int .i64 a0_1, .bool a0_2, .int .i64 a0_3]] rfl zl ?_; (with_reducible refine (impl_Param_placed.calls a0_0 a0_1 a0_2 a0_3 false _ A2.out).mono ?_); rintro e w9 ⟨rfl, hb⟩; refine ⟨_, rfl, ?_⟩; replace BK240 := Aside0.mk (blk_below (g := gb240) (o := .cells #[.string a0_0, .int .i64 a0_1, .bool a0_2, .int .i64 a0_3] 41 (0, 0)) (zb BK240) hb); replace HB := Aside0.mk (below_step (zB HB) hb); (try clear hb); (try clear hb2); (try clear hk); (try clear hi); have hcz10_0 : w9.cell? ⟨gb240, 0, none⟩ = some (.string a0_0) := (blk_cell BK240.out 0).trans rfl; have hcz10_1 : w9.cell? ⟨gb240, 1, none⟩ = some (.int .i64 a0_1) := (blk_cell BK240.out 1).trans rfl; have hcz10_2 : w9.cell? ⟨gb240, 2, none⟩ = some (.bool a0_2) := (blk_cell BK240.out 2).trans rfl; have hcz10_3 : w9.cell? ⟨gb240, 3, none⟩ = some (.int .i64 a0_3) := (blk_cell BK240.out 3).trans rfl; have hfz10_0 := blk_frozen BK240.out 0; have hfz10_1 := blk_frozen BK240.out 1; have hfz10_2 := blk_frozen BK240.out 2; have hfz10_3 := blk_frozen BK240.out 3))
  go_ret
  exact ⟨by first | rfl | (simp [errW_none, errW_some] <;> rfl) | (simp [*, errW_none, errW_some] <;> rfl), zB HB⟩

end Go.Proofs.Ytjnfofgonddflaa.Q

namespace Go.Proofs.Ytjnfofgonddflaa.Q
open Go.RowKit Go.Proofs.YtjnfofgonddflaaL.PrintWords Go.Proofs.YtjnfofgonddflaaL.PrintLast Go.Proofs.YtjnfofgonddflaaL.PrintMore
attribute [local go_sem] max2_int min2_int max_two min_two max_three min_three max_four min_four   -- for this text's walks alone
set_option linter.unusedVariables false
set_option linter.unusedSimpArgs false

/-! ### slices.IndexFunc at impl.Param: function 84 -/
set_option maxHeartbeats 8000000 in
set_option maxRecDepth 100000 in
theorem ix84.calls (p : S41 → Bool) (g : Nat) (lb : Array Value) (eg : ∀ args w, (callFunc g args).run Try.prog w = .ok (.enter g args) w) (A0 : Option Addr) (c0 : Nat) (l0 : List (S41)) (w : World)
  (hp : PxPred Try.prog g lb (fun x : S41 => .agg #[.string x.f0, .int .i64 x.f1, .bool x.f2, .int .i64 x.f3]) p w) (hr0 : Kd.C k41 w A0 l0.length l0) :
  Calls Try.prog 84 #[.slice A0 l0.length c0, .func (.func g) #[] lb] w fun e w' => e = .returned (.int .i64 (pxIdx p l0)) ∧ Below w.heap.size w w' := by
 have HR := Aside0.mk hr0
 clear hr0
 have hbig : l0.length ≤ 9223372036854775807 := HR.out.2.1
 have hu41 := Try.underlying41
 go_enter Try.func84, Try.ntmps84
 go_wp2
 go_loopg [5, 8] l0.length (fun gg _ s8 wr => ∃ kk : Nat, kk ≤ l0.length ∧ l0.length - kk ≤ gg ∧ s8 = .int .i64 kk ∧ Aside0 (Below w.heap.size w wr) ∧ Aside0 (∀ j, j < kk → p (l0.getD j z41) = false))
 case atStart => exact ⟨0, Nat.zero_le _, by omega, rfl, ⟨Below.refl _ w⟩, ⟨fun j hj => absurd hj (Nat.not_lt_zero _)⟩⟩
 case round =>
  obtain ⟨kk, hkk, hg, rfl, BW, A⟩ := hrel
  by_cases hlt : kk < l0.length
  ·have hltz : (kk : Int) < (l0.length : Int) := by omega
   have hz0 : (0 : Int) ≤ (kk : Int) := by omega
   obtain ⟨ad, e, hx0, hx1, hx2, hx3⟩ := at_T41 (Kd.C_below HR.out BW.out) (kk : Int) hz0 hltz
   simp only [Int.toNat_natCast] at hx0 hx1 hx2 hx3
   cases e
   have hcall := hp wr (rd_T41 l0 (kk : Int)) BW.out
   clear hp
   have B := Aside0.mk (show rd_T41 l0 (kk : Int) = l0.getD kk z41 from rfl)
   generalize hy : rd_T41 l0 (kk : Int) = y at hx0 hx1 hx2 hx3 hcall B
   clear hy
   cases hq : p y with
   | true =>
    rw [hq] at hcall
    go_wp2_with fail
    refine hcall.mono ?_
    rintro e w' ⟨rfl, hb'⟩
    clear hcall
    go_wp2
    go_ret
    refine ⟨?_, below_then BW.out BW.out.size hb'⟩
    rw [pxIdx_hit p l0 z41 kk hlt (by rw [← B.out]; exact hq) A.out]; rfl
   | false =>
    rw [hq] at hcall
    go_wp2_with fail
    refine hcall.mono ?_
    rintro e w' ⟨rfl, hb'⟩
    clear hcall
    go_wp2
    go_roundg (l0.length - (kk + 1))
    case measure => omega
    case rel =>
     refine ⟨kk + 1, by omega, by omega, by go_num, ⟨below_then BW.out BW.out.size hb'⟩, ⟨fun j hj => ?_⟩⟩
     by_cases e : j = kk
     ·subst e
      rw [← B.out]; exact hq
     ·exact A.out j (by omega)
  ·have hltz : ¬ (kk : Int) < (l0.length : Int) := by omega
   have : kk = l0.length := by omega
   subst this
   go_wp2
   go_ret
   refine ⟨?_, BW.out⟩
   rw [pxIdx_miss p l0 z41 A.out]; rfl
set_option maxHeartbeats 8000000 in
set_option maxRecDepth 100000 in
theorem impl_find.pred85 (a1 : ByteArray) (B : Nat) (w : World) (hc : w.cell? ⟨B, 0, none⟩ = some (.string a1)) :
  PxPred Try.prog 85 #[.pointer (some ⟨B, 0, none⟩)] (fun x : S41 => .agg #[.string x.f0, .int .i64 x.f1, .bool x.f2, .int .i64 x.f3]) (fun x : S41 => x.f0.toList == a1.toList) w := by
 intro W x hb
 have hc' := px_cell hb hc
 have hB' : B < W.heap.size := World.block_lt_of_cell? W _ hc'
 clear hc
 show Calls Try.prog 85 #[.agg #[.string x.f0, .int .i64 x.f1, .bool x.f2, .int .i64 x.f3], .pointer (some ⟨B, 0, none⟩)] W _
 have hu41 := Try.underlying41
 go_enter Try.func85, Try.ntmps85
 go_wp2
 go_ret
 exact ⟨rfl, px_alloc _ _⟩
/-! ### impl_find: function 54 (a contract of our own) -/
def impl_find.f (l0 : List (S41)) (a1 : ByteArray) : Option (Int) := some (pxIdx (fun x : S41 => x.f0.toList == a1.toList) l0)
set_option maxHeartbeats 8000000 in
set_option maxRecDepth 100000 in
theorem impl_find.calls (A0 : Option Addr) (c0 : Nat) (l0 : List (S41)) (a1 : ByteArray) (r : Int) (w : World) (hr0 : Kd.C k41 w A0 l0.length l0) (hc0 : l0.length ≤ c0) (h : impl_find.f l0 a1 = some r) :
  Calls Try.prog 54 #[.slice A0 l0.length c0, .string a1] w fun e w' => e = .returned (.int .i64 r) ∧ Below w.heap.size w w' := by
 have HR := Aside0.mk hr0
 clear hr0
 obtain rfl := Option.some.inj h
 clear h
 have eg := px_enters Try.func85 (by kernel_rfl) rfl
 go_enter Try.func54, Try.ntmps54
 go_wp2_with fail
 refine (ix84.calls (fun x : S41 => x.f0.toList == a1.toList) 85 _ eg A0 c0 l0 _ (impl_find.pred85 a1 w.heap.size _ ?_) ?_).mono ?_
 ·go_simp
 ·exact Kd.C_below HR.out (px_alloc _ _)
 rintro e w' ⟨rfl, hb'⟩
 go_wp2
 go_ret
 exact ⟨rfl, below_then (px_alloc _ _) (by simp) hb'⟩

end Go.Proofs.Ytjnfofgonddflaa.Q
