-- written by px.py (a program of this claim's), over the kit's print. Not trusted: Lean checks it.
import Derived.Test.YtfcpbgedgedalaaQ0
import Derived.Test.YtfcpbgedgedalaaQ70
namespace Go.Proofs.Ytfcpbgedgedalaa.Q
open Go.RowKit Go.Proofs.YtfcpbgedgedalaaL.PrintWords Go.Proofs.YtfcpbgedgedalaaL.PrintLast Go.Proofs.YtfcpbgedgedalaaL.PrintMore
attribute [local go_sem] max2_int min2_int max_two min_two max_three min_three max_four min_four   -- for this text's walks alone
set_option linter.unusedVariables false
set_option linter.unusedSimpArgs false

/-! ### impl_TurnBack: function 42 -/
def impl_TurnBack.l0 : Nat → List (S107) → List (S107) → Int → Int → Option ((List (S107)))
 | 0, _, _, _, _ => none
 | k + 1, x3, x12, x13, x14 => if x14 < x13 then (if 0 ≤ x14 then (if x14 < (x12.length : Int) then (if x14 < (x3.length : Int) then (impl_TurnBack.l0 k (x3.set (x14 : Int).toNat (⟨(rd_T107 x12 x14).f1, (rd_T107 x12 x14).f0⟩ : S107)) x12 x13 (wrap64 (x14 + 1))) else (none)) else (none)) else (none)) else (some x3)
def impl_TurnBack.f (k : Nat) (l0 : List (S107)) : Option ((List (S107))) := (impl_ValidTurns.f l0).bind fun t860 => (if t860 = true then (if 0 ≤ (l0.length : Int) then (if ((l0.length : Int) : Int).toNat ≤ 8796093022208 then (impl_TurnBack.l0 k (List.replicate ((l0.length : Int) : Int).toNat z107) l0 (l0.length : Int) 0) else (none)) else (none)) else (some ([] : List (S107))))
theorem impl_TurnBack.mono_l : ∀ k, (∀ y0 y1 y2 y3, LeO (impl_TurnBack.l0 k y0 y1 y2 y3) (impl_TurnBack.l0 (k + 1) y0 y1 y2 y3))
 | 0 => fun _ _ _ _ r h => by simp [impl_TurnBack.l0] at h
 | k + 1 => by
  have ih0 := impl_TurnBack.mono_l k
  ·intro y0 y1 y2 y3
   unfold impl_TurnBack.l0
   repeat' first
   | (with_reducible exact ih0 _ _ _ _)
   | (with_reducible exact LeO.refl _)
   | (with_reducible exact LeO.none _)
   | (with_reducible refine LeO.ite ?_ ?_)
   | (with_reducible refine LeO.bind ?_ (fun _ => ?_))
   | exact ih0 _ _ _ _
   | exact LeO.none _
   | refine LeO.ite ?_ ?_
   | refine LeO.bind ?_ (fun _ => ?_)
theorem impl_TurnBack.mono : ∀ a0 k, LeO (impl_TurnBack.f k a0) (impl_TurnBack.f (k + 1) a0) := by
 intro a0 k
 have ih0 := impl_TurnBack.mono_l k
 unfold impl_TurnBack.f
 repeat' first
   | (with_reducible exact ih0 _ _ _ _)
   | (with_reducible exact LeO.refl _)
   | (with_reducible exact LeO.none _)
   | (with_reducible refine LeO.ite ?_ ?_)
   | (with_reducible refine LeO.bind ?_ (fun _ => ?_))
   | exact ih0 _ _ _ _
   | exact LeO.none _
   | refine LeO.ite ?_ ?_
   | refine LeO.bind ?_ (fun _ => ?_)
set_option maxHeartbeats 8000000 in
set_option maxRecDepth 100000 in
theorem impl_TurnBack.calls (k : Nat) (A0 : Option Addr) (c0 : Nat) (l0 : List (S107)) (r : List (S107)) (w : World) (hr0 : Kd.C k107 w A0 l0.length l0) (hc0 : l0.length ≤ c0) (h : impl_TurnBack.f k l0 = some r) :
  Calls Try.prog 42 #[.slice A0 l0.length c0] w fun e w' => ∃ v0_ : Value, e = .returned (v0_) ∧ Kd.R k107 107 w' w.heap.size (fun _ => True) v0_ r ∧ Below w.heap.size w w' := by
 have hu107 := Try.underlying107
 have HR0 := Aside0.mk hr0
 have HC0 := Aside0.mk hc0
 clear hr0 hc0
 have HB := Aside0.mk (Below.refl w.heap.size w)
 have H : ((impl_ValidTurns.f l0).bind fun t860 => (if t860 = true then (if 0 ≤ (l0.length : Int) then (if ((l0.length : Int) : Int).toNat ≤ 8796093022208 then (impl_TurnBack.l0 k (List.replicate ((l0.length : Int) : Int).toNat z107) l0 (l0.length : Int) 0) else (none)) else (none)) else (some ([] : List (S107))))) = some r := h
 clear h
 replace H := Option.bind_eq_some_iff.mp H
 obtain ⟨t860, A20, H⟩ := H
 replace H : (if t860 = true then (if 0 ≤ (l0.length : Int) then (if ((l0.length : Int) : Int).toNat ≤ 8796093022208 then (impl_TurnBack.l0 k (List.replicate ((l0.length : Int) : Int).toNat z107) l0 (l0.length : Int) 0) else (none)) else (none)) else (some ([] : List (S107)))) = some r := H
 have A2 := Aside0.mk A20
 clear A20
 by_cases c3 : t860 = true
 ·subst c3
  have H1 : (if 0 ≤ (l0.length : Int) then (if ((l0.length : Int) : Int).toNat ≤ 8796093022208 then (impl_TurnBack.l0 k (List.replicate ((l0.length : Int) : Int).toNat z107) l0 (l0.length : Int) 0) else (none)) else (none)) = some r := by rw [if_pos rfl] at H; exact H
  clear H
  have H := H1
  clear H1
  by_cases c4 : 0 ≤ (l0.length : Int)
  ·rw [if_pos c4] at H
   have c4b0 := eq_true c4
   have c4b1 : decide (0 ≤ (l0.length : Int)) = true := decide_eq_true c4
   clear c4
   by_cases c5 : ((l0.length : Int) : Int).toNat ≤ 8796093022208
   ·rw [if_pos c5] at H
    have c5b0 := eq_true c5
    have c5b1 : decide (((l0.length : Int) : Int).toNat ≤ 8796093022208) = true := decide_eq_true c5
    clear c5
    obtain ⟨y861, hy861⟩ : ∃ y_ : List (S107), y_ = (List.replicate ((l0.length : Int) : Int).toNat z107) := ⟨_, rfl⟩
    replace H : (impl_TurnBack.l0 k y861 l0 (l0.length : Int) 0) = some r := by first | (rw [hy861]; with_reducible exact H) | (have H2_ := (Option.bind_some _ _).symm.trans H; rw [hy861]; with_reducible exact H2_) | (have H2_ := (Option.bind_some _ _).symm.trans H; with_reducible exact H2_) | with_reducible exact H | (rw [hy861]; exact H) | exact H
    have Ny861 := Aside0.mk hy861
    clear hy861
    have H' := Aside0.mk H
    clear H
    go_enter Try.func42, Try.ntmps42
    go_wp2_with (first | ((with_reducible refine gate_callee (f := 46) rfl ?_); refine goesL_ (some 7) rfl rfl Try.func46 (by kernel_rfl) rfl #[.slice A0 l0.length c0] rfl zl ?_; (with_reducible refine (impl_ValidTurns.calls _ _ l0 true _ ?side1 ?side2 A2.out).mono ?_); (case side1 => repeat (first | exact HR0.out | (with_reducible refine Kd.C_alloc ?_ _) | (with_reducible refine Kd.C_drewN ?_ _) | (with_reducible refine Kd.C_drew ?_))); (case side2 => exact HC0.out); rintro e w6 ⟨rfl, hb⟩; refine ⟨_, rfl, ?_⟩; have n0_ := Aside0.mk (below_step (zB HB) hb); clear HB; have HB := n0_; clear n0_; (try clear hb); (try clear hb2); (try clear hk); (try clear hi)) | ((with_reducible refine gate_dst (N := 11) rfl ?_); refine Kd.R_make k107 _ 107 rfl (N := 11) rfl 55 _ _ rfl (l0.length : Int) rfl rfl Try.underlying55 (.agg #[(.string ⟨#[]⟩), (.string ⟨#[]⟩)]) 32 info107 rfl (by decide) (by omega) z107 (ok := fun _ => True) (okp := fun _ => True) (k107_mkM _ _ _ z107 ) (fun _ hk => hk) trivial (of_decide_eq_true za) (Nat.le_trans (Nat.mul_le_mul_right _ (of_decide_eq_true za : (l0.length : Int).toNat ≤ 8796093022208)) (by omega)) (Below.refl _ _) (Nat.le_refl _) ?_; intro v862 w7 ho8 hb hg_ hnew_; clear hg_ hnew_; (first | rw [← Ny861.out] at ho8 | (simp only [Int.reduceToNat] at ho8; rw [← Ny861.out] at ho8)); have n0_ := Aside0.mk (Kd.R_lower ho8 (below_size (zB HB))); have n1_ := Aside0.mk (below_step (zB HB) hb); clear HB; have HO863 := n0_; have HB := n1_; clear n0_ n1_; clear hb ho8))
    go_loopg [14] k (fun kq v14 w' => ∃ (x3_1 : List (S107)) (x14_1 : Int), v14 = .int .i64 x14_1 ∧ Aside0 (impl_TurnBack.l0 kq x3_1 l0 (l0.length : Int) x14_1 = some r) ∧ Aside0 (kq ≤ k) ∧ Aside0 (Kd.R k107 107 w' w.heap.size (fun _ => True) v862 x3_1) ∧ Aside0 (Below w.heap.size w w'))
    case atStart => exact ⟨(y861), (0), zr, H', ⟨Nat.le_refl _⟩, ⟨by (with_reducible repeat (first | apply Kd.R_alloc | apply Kd.R_drewN | apply Kd.R_drew)); exact HO863.out⟩, ⟨by repeat (first | (with_reducible first | exact HB.out | apply below_alloc | apply pw_below_drewN | apply below_drew1) | exact HB.out)⟩⟩
    case round =>
     clear H'
     try clear p2
     try clear c3
     try clear c4
     try clear c4b0
     try clear c4b1
     try clear c5
     try clear c5b0
     try clear c5b1
     obtain ⟨x3_1, x14_1, rfl, HA, HK1, HO_3, HB⟩ := hrel
     cases gk with
     | zero => exact absurd HA.out (by simp [impl_TurnBack.l0])
     | succ k1 =>
      have H := HA.out
      clear HA
      simp only [impl_TurnBack.l0] at H
      by_cases c9 : x14_1 < (l0.length : Int)
      ·rw [if_pos c9] at H
       have c9b0 : decide (x14_1 < (l0.length : Int)) = true := decide_eq_true c9
       clear c9
       by_cases c10 : 0 ≤ x14_1
       ·rw [if_pos c10] at H
        have c10b0 : decide (0 ≤ x14_1) = true := decide_eq_true c10
        clear c10
        by_cases c11 : x14_1 < (l0.length : Int)
        ·rw [if_pos c11] at H
         have c11b0 : decide (x14_1 < (l0.length : Int)) = true := decide_eq_true c11
         clear c11
         by_cases c12 : x14_1 < (x3_1.length : Int)
         ·rw [if_pos c12] at H
          have c12b0 : decide (x14_1 < (x3_1.length : Int)) = true := decide_eq_true c12
          clear c12
          obtain ⟨y866, hy866⟩ : ∃ y_ : List (S107), y_ = (x3_1.set (x14_1 : Int).toNat (⟨(rd_T107 l0 x14_1).f1, (rd_T107 l0 x14_1).f0⟩ : S107)) := ⟨_, rfl⟩
          replace H : (impl_TurnBack.l0 k1 y866 l0 (l0.length : Int) (wrap64 (x14_1 + 1))) = some r := by first | (rw [hy866]; with_reducible exact H) | (have H2_ := (Option.bind_some _ _).symm.trans H; rw [hy866]; with_reducible exact H2_) | (have H2_ := (Option.bind_some _ _).symm.trans H; with_reducible exact H2_) | with_reducible exact H | (rw [hy866]; exact H) | exact H
          have Ny866 := Aside0.mk hy866
          clear hy866
          have H' := Aside0.mk H
          clear H
          have p864 : 0 ≤ (x14_1 : Int) := of_decide_eq_true za
          have q864 : x14_1 < (l0.length : Int) := of_decide_eq_true za
          obtain ⟨ad864, e864, hx864_0, hx864_1⟩ := at_T107 HR0.out x14_1 p864 q864
          cases e864
          replace hx864_0 := (HB.out.cell (World.block_lt_of_cell? w _ hx864_0)).trans hx864_0
          replace hx864_1 := (HB.out.cell (World.block_lt_of_cell? w _ hx864_1)).trans hx864_1
          replace p864 := eq_true p864
          replace q864 := eq_true q864
          go_wp2_with (first | ((with_reducible refine gate_dst (N := 5) rfl ?_); refine box_event ?hg (N := 5) ?hd (cs := #[.string (⟨#[]⟩ : ByteArray), .string (⟨#[]⟩ : ByteArray)]) (t := 107) ?hr ?_; (case hd => rfl); (case hg => rfl); (case hr => first | (go_simp; done) | (go_simp; rfl)); intro gb865 hg w14 hbox hb; have n0_ := Aside0.mk (Kd.R_below (Kd.R_elderB (zo HO_3) gb865 (Nat.le_of_eq hg.symm)) hb); have n1_ := Aside0.mk (below_step (zB HB) hb); have n2_ := Aside0.mk (hbox); have n3_ := Aside0.mk ((by rw [hg]; exact (below_size (zB HB)) : w.heap.size ≤ gb865)); have n4_ := Aside0.mk ((by rw [hg]; exact (below_size (zB HB)) : w.heap.size ≤ gb865)); clear HO_3; clear HB; have HO_3 := n0_; have HB := n1_; have BK865 := n2_; have GW865 := n3_; have GE865 := n4_; clear n0_ n1_ n2_ n3_ n4_; clear hb hbox hg; have hcz15_0 : w14.cell? ⟨gb865, 0, none⟩ = some (.string (⟨#[]⟩ : ByteArray)) := (blk_cell BK865.out 0).trans rfl; have hcz15_1 : w14.cell? ⟨gb865, 1, none⟩ = some (.string (⟨#[]⟩ : ByteArray)) := (blk_cell BK865.out 1).trans rfl; have hfz15_0 := blk_frozen BK865.out 0; have hfz15_1 := blk_frozen BK865.out 1) | ((with_reducible refine gate_store (t := 107) (p := 5) rfl ?_); refine store_event (t := 107) (p := 5) (v := ?vo_w16) (w1 := ((w14.setCell ⟨gb865, 0, none⟩ (.string ((rd_T107 l0 x14_1).f0))).setCell ⟨gb865, 1, none⟩ (.string ((rd_T107 l0 x14_1).f1)))) ?hg ?ho ?hn ?hr ?_; (case ho => rfl); (case hg => rfl); (case hn => rfl); (case hr => first | (go_simp; done) | (go_simp; rfl)); intro w16 hw; have n0_ : Aside0 (Kd.R k107 107 w16 w.heap.size (fun k_ => k_ ≠ gb865) v862 x3_1) := ⟨(by rw [hw]; exact (by (with_reducible repeat (first | apply Kd.R_alloc | apply Kd.R_drewN | apply Kd.R_drew)); exact Kd.R_mono (Kd.R_far (p := ⟨gb865, 1, none⟩) (Kd.R_far (p := ⟨gb865, 0, none⟩) (Kd.R_mono HO_3.out (fun k_ hk => (⟨hk, hk.2⟩ : _ ∧ k_ ≠ gb865))) (fun _ hk => hk.2) (.string ((rd_T107 l0 x14_1).f0))) (fun _ hk => hk.2) (.string ((rd_T107 l0 x14_1).f1))) (fun _ hk => hk.1.2)))⟩; have n1_ : Aside0 (w16.heap[gb865]? = some (.cells #[.string ((rd_T107 l0 x14_1).f0), .string ((rd_T107 l0 x14_1).f1)] 107 (0, 0))) := ⟨(by rw [hw]; exact (by (with_reducible repeat (first | refine blk_drewN ?_ _ | refine blk_drew ?_ | refine blk_alloc ?_ _)); refine blk_put (cs := #[.string ((rd_T107 l0 x14_1).f0), .string (⟨#[]⟩ : ByteArray)]) ?_ 1 _ rfl; (with_reducible repeat (first | refine blk_drewN ?_ _ | refine blk_drew ?_ | refine blk_alloc ?_ _)); refine blk_put (cs := #[.string (⟨#[]⟩ : ByteArray), .string (⟨#[]⟩ : ByteArray)]) ?_ 0 _ rfl; (with_reducible repeat (first | refine blk_drewN ?_ _ | refine blk_drew ?_ | refine blk_alloc ?_ _)); exact BK865.out))⟩; have n2_ : Aside0 (Below w.heap.size w w16) := ⟨(by rw [hw]; exact (zB HB))⟩; clear hw; clear HO_3; clear BK865; clear HB; have HO_3 := n0_; have BK865 := n1_; have HB := n2_; clear n0_ n1_ n2_; have hcz17_0 : w16.cell? ⟨gb865, 0, none⟩ = some (.string ((rd_T107 l0 x14_1).f0)) := (blk_cell BK865.out 0).trans rfl; have hcz17_1 : w16.cell? ⟨gb865, 1, none⟩ = some (.string ((rd_T107 l0 x14_1).f1)) := (blk_cell BK865.out 1).trans rfl; have hfz17_0 := blk_frozen BK865.out 0; have hfz17_1 := blk_frozen BK865.out 1; have p13 : 0 ≤ (x14_1 : Int) := of_decide_eq_true za; have q13 : (x14_1 : Int) < ((x3_1.length : Int) : Int) := of_decide_eq_true za; obtain ⟨go13, co13, eo13, gb13, gl13, cl13, HG13⟩ := Kd.R_form HO_3.out (by omega); (first | cases eo13 | (injection eo13 with ea_ en_ ec_; (first | subst ea_ | (injection ea_ with ea_; subst ea_)); subst ec_; clear en_)); have GB13 := Aside0.mk gb13; have GG13 := Aside0.mk HG13; clear gb13 gl13 HG13; obtain ⟨ce13, hcl13, hM13, hcc13, hfr13⟩ := Kd.R_elem HO_3.out z107 (x14_1 : Int) p13 q13; obtain rfl := k107_openM hM13; have hx13_0 : w16.cell? ⟨go13, (x14_1 : Int).toNat * 2, none⟩ = some (.string ((rd_T107 x3_1 x14_1).f0)) := hcc13 0 _ rfl; have hx13_1 : w16.cell? ⟨go13, (x14_1 : Int).toNat * 2 + 1, none⟩ = some (.string ((rd_T107 x3_1 x14_1).f1)) := hcc13 1 _ rfl; have hf13_0 : w16.frozen? ⟨go13, (x14_1 : Int).toNat * 2, none⟩ = false := hfr13 0; have hf13_1 : w16.frozen? ⟨go13, (x14_1 : Int).toNat * 2 + 1, none⟩ = false := hfr13 1; clear hcl13 hcc13 hfr13 hM13; replace p13 := eq_true p13; replace q13 := eq_true q13; have HX18 := Aside0.mk (show Kd.R k107 107 w16 w.heap.size (fun k_ => k_ ≠ gb865) (.slice (some ⟨go13, 0, none⟩) x3_1.length co13) x3_1 from (zo HO_3)); obtain ⟨ce18, hcl18, hM18, hcc18, hfr18⟩ := Kd.R_elem HX18.out z107 (x14_1 : Int) (of_decide_eq_true za) (by have h_ : (x14_1 : Int) < ((x3_1.length : Int) : Int) := of_decide_eq_true za; first | exact h_ | (have e_ := (Kd.R_reads' HO_3.out).1; omega) | simpa using h_); obtain rfl := k107_openM hM18; have HP18 := Kd.R_seg HX18.out (x14_1 : Int) (of_decide_eq_true za) (by have h_ : (x14_1 : Int) < ((x3_1.length : Int) : Int) := of_decide_eq_true za; first | exact h_ | (have e_ := (Kd.R_reads' HO_3.out).1; omega) | simpa using h_) (seg := [.string ((rd_T107 l0 x14_1).f1), .string ((rd_T107 l0 x14_1).f0)]) (j := 0) hcl18 hcc18 (show 2 ≤ 2 from by decide) (x' := (⟨(rd_T107 l0 x14_1).f1, (rd_T107 l0 x14_1).f0⟩ : S107)) (k107_mkM _ _ _ (⟨(rd_T107 l0 x14_1).f1, (rd_T107 l0 x14_1).f0⟩ : S107) ) (fun _ hk => hk); have hx18_0 := hcc18 0 _ rfl; (try simp only [show (k107).sz = 2 from rfl, Nat.mul_one, Nat.add_zero] at hx18_0); have hf18_0 := hfr18 0; (try simp only [show (k107).sz = 2 from rfl, Nat.mul_one, Nat.add_zero] at hf18_0); have hx18_1 := hcc18 1 _ rfl; (try simp only [show (k107).sz = 2 from rfl, Nat.mul_one, Nat.add_zero] at hx18_1); have hf18_1 := hfr18 1; (try simp only [show (k107).sz = 2 from rfl, Nat.mul_one, Nat.add_zero] at hf18_1); clear hcl18 hcc18 hfr18 hM18) | ((with_reducible refine gate_store (t := 107) (p := 26) rfl ?_); refine store_event (t := 107) (p := 26) (v := ?vo_w19) (w1 := ((w16.setCell ⟨go13, (x14_1 : Int).toNat * 2, none⟩ (.string ((rd_T107 l0 x14_1).f1))).setCell ⟨go13, (x14_1 : Int).toNat * 2 + 1, none⟩ (.string ((rd_T107 l0 x14_1).f0)))) ?hg ?ho ?hn ?hr ?_; (case ho => rfl); (case hg => rfl); (case hn => rfl); (case hr => first | (go_simp; done) | (go_simp; rfl)); intro w19 hw; have hg : w16.grownBy w19 (some go13) := (by rw [hw]; exact HP18.2); have hp_ : Kd.R k107 107 w19 w.heap.size (fun k_ => k_ ≠ gb865) (.slice (some ⟨go13, 0, none⟩) x3_1.length co13) y866 := (by rw [hw, Ny866.out]; exact HP18.1); clear HP18; have n0_ := Aside0.mk (hp_); have n1_ := Aside0.mk (blk_grown (g := gb865) (o := .cells #[.string ((rd_T107 l0 x14_1).f0), .string ((rd_T107 l0 x14_1).f1)] 107 (0, 0)) (zb BK865) hg (Kd.R_away HO_3.out (fun _ hk => hk))); have n2_ := Aside0.mk ((by rw [hw]; exact below_set (below_set (HB.out) GB13.out) GB13.out : Below w.heap.size w w19)); clear HO_3; clear BK865; clear HB; have HO_3 := n0_; have BK865 := n1_; have HB := n2_; clear n0_ n1_ n2_; clear hg hw hp_))
          go_roundg k1
          case measure => have := HK1.out; omega
          case rel => exact ⟨(y866), (wrap64 (x14_1 + 1)), zr, H', ⟨by have := HK1.out; omega⟩, ⟨by (with_reducible repeat (first | apply Kd.R_alloc | apply Kd.R_drewN | apply Kd.R_drew)); exact Kd.R_mono HO_3.out (fun _ hk => trivial)⟩, ⟨by repeat (first | (with_reducible first | exact HB.out | apply below_alloc | apply pw_below_drewN | apply below_drew1 | refine below_set ?_ GE865.out) | exact HB.out)⟩⟩
         ·rw [if_neg c12] at H
          exact absurd H (by simp)
        ·rw [if_neg c11] at H
         exact absurd H (by simp)
       ·rw [if_neg c10] at H
        exact absurd H (by simp)
      ·rw [if_neg c9] at H
       have c9b0 : decide (x14_1 < (l0.length : Int)) = false := decide_eq_false c9
       clear c9
       obtain rfl := Option.some.inj H
       go_wp2
       go_ret
       exact ⟨_, by first | rfl | (simp [errW_none, errW_some] <;> rfl) | (simp [*, errW_none, errW_some] <;> rfl), by (with_reducible repeat (first | apply Kd.R_alloc | apply Kd.R_drewN | apply Kd.R_drew)); exact HO_3.out, by repeat (first | (with_reducible first | exact HB.out | apply below_alloc | apply pw_below_drewN | apply below_drew1) | exact HB.out)⟩
   ·rw [if_neg c5] at H
    exact absurd H (by simp)
  ·rw [if_neg c4] at H
   exact absurd H (by simp)
 ·replace c3 := Bool.eq_false_iff.mpr c3
  subst c3
  have H1 : (some ([] : List (S107))) = some r := by rw [if_neg (show ¬ (false = true) by decide)] at H; exact H
  clear H
  have H := H1
  clear H1
  obtain rfl := Option.some.inj H
  go_enter Try.func42, Try.ntmps42
  go_wp2_with (first | ((with_reducible refine gate_callee (f := 46) rfl ?_); refine goesL_ (some 7) rfl rfl Try.func46 (by kernel_rfl) rfl #[.slice A0 l0.length c0] rfl zl ?_; (with_reducible refine (impl_ValidTurns.calls _ _ l0 false _ ?side1 ?side2 A2.out).mono ?_); (case side1 => repeat (first | exact HR0.out | (with_reducible refine Kd.C_alloc ?_ _) | (with_reducible refine Kd.C_drewN ?_ _) | (with_reducible refine Kd.C_drew ?_))); (case side2 => exact HC0.out); rintro e w20 ⟨rfl, hb⟩; refine ⟨_, rfl, ?_⟩; have n0_ := Aside0.mk (below_step (zB HB) hb); clear HB; have HB := n0_; clear n0_; (try clear hb); (try clear hb2); (try clear hk); (try clear hi)))
  go_ret
  exact ⟨_, by first | rfl | (simp [errW_none, errW_some] <;> rfl) | (simp [*, errW_none, errW_some] <;> rfl), by first | exact Kd.R_nil _ _ _ _ _ | exact Kd.N_nil _ _ _ _ _ | exact Kd.V_nil _ _ _ _ _ | exact Kd.Q_nil _ _ _ _ _ | exact Kd.S_nil _ _ _ _ _, by repeat (first | (with_reducible first | exact HB.out | apply below_alloc | apply pw_below_drewN | apply below_drew1) | exact HB.out)⟩

end Go.Proofs.Ytfcpbgedgedalaa.Q
