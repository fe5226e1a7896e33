-- written by px.py (a program of this claim's), over the kit's print. Not trusted: Lean checks it.
import Derived.Test.YtfcpbgedgedalaaQ0
import Derived.Test.YtfcpbgedgedalaaQ20
import Derived.Test.YtfcpbgedgedalaaQ26
import Derived.Test.YtfcpbgedgedalaaQ70
import Derived.Test.YtfcpbgedgedalaaQ72
namespace Go.Proofs.Ytfcpbgedgedalaa.Q
open Go.RowKit Go.Proofs.YtfcpbgedgedalaaL.PrintWords Go.Proofs.YtfcpbgedgedalaaL.PrintLast Go.Proofs.YtfcpbgedgedalaaL.PrintMore
attribute [local go_sem] max2_int min2_int max_two min_two max_three min_three max_four min_four   -- for this text's walks alone
set_option linter.unusedVariables false
set_option linter.unusedSimpArgs false

/-! ### impl_TurnFlat: function 43 -/
mutual
def impl_TurnFlat.j0 : Nat → List (S107) → Bool → List Int → List (S33) → Option (List Int × (List (S33)))
 | 0, _, _, _, _ => none
 | k + 1, x0, x14, x868000, x868001 => if x14 = true then (some (([] : List Int), ([] : List (S33)))) else ((impl_Flat_copyOf.f x868000 x868001).bind fun bt871 => (impl_TurnFlat.l0 k x0 (bt871.2.length : Int) 0 bt871.1 bt871.2))
def impl_TurnFlat.l0 : Nat → List (S107) → Int → Int → List Int → List (S33) → Option (List Int × (List (S33)))
 | 0, _, _, _, _, _ => none
 | k + 1, x0, x20, x21, x878000, x878001 => if x21 < x20 then (if 0 ≤ x21 then (if x21 < (x878001.length : Int) then ((impl_turn.f k x0 ((rd_T33 x878001 x21).f0)).bind fun t879 => (impl_TurnFlat.l0 k x0 x20 (wrap64 (x21 + 1)) x878000 (x878001.set (x21 : Int).toNat (⟨t879, (rd_T33 x878001 x21).f1⟩ : S33)))) else (none)) else (none)) else (some (x878000, x878001))
end
def impl_TurnFlat.f (k : Nat) (l0 : List (S107)) (l1_0 : List Int) (l1_1 : List (S33)) : Option (List Int × (List (S33))) := (impl_ValidTurns.f l0).bind fun t869 => (if t869 = true then ((impl_ValidFlat.f k l1_0 l1_1).bind fun t870 => (impl_TurnFlat.j0 k l0 (!t870) l1_0 l1_1)) else (impl_TurnFlat.j0 k l0 true l1_0 l1_1))
theorem impl_TurnFlat.mono_l : ∀ k, (∀ y0 y1 y2 y3, LeO (impl_TurnFlat.j0 k y0 y1 y2 y3) (impl_TurnFlat.j0 (k + 1) y0 y1 y2 y3)) ∧ (∀ y0 y1 y2 y3 y4, LeO (impl_TurnFlat.l0 k y0 y1 y2 y3 y4) (impl_TurnFlat.l0 (k + 1) y0 y1 y2 y3 y4))
 | 0 => ⟨fun _ _ _ _ r h => by simp [impl_TurnFlat.j0] at h, fun _ _ _ _ _ r h => by simp [impl_TurnFlat.l0] at h⟩
 | k + 1 => by
  obtain ⟨ih0, ih1⟩ := impl_TurnFlat.mono_l k
  refine ⟨?_, ?_⟩
  ·intro y0 y1 y2 y3
   unfold impl_TurnFlat.j0
   repeat' first
   | (with_reducible exact ih0 _ _ _ _)
   | (with_reducible exact ih1 _ _ _ _ _)
   | (with_reducible exact impl_ValidFlat.mono _ _ _)
   | (with_reducible exact impl_turn.mono _ _ _)
   | (with_reducible exact LeO.refl _)
   | (with_reducible exact LeO.none _)
   | (with_reducible refine LeO.ite ?_ ?_)
   | (with_reducible refine LeO.bind ?_ (fun _ => ?_))
   | exact ih0 _ _ _ _
   | exact ih1 _ _ _ _ _
   | exact impl_ValidFlat.mono _ _ _
   | exact impl_turn.mono _ _ _
   | exact LeO.none _
   | refine LeO.ite ?_ ?_
   | refine LeO.bind ?_ (fun _ => ?_)
  ·intro y0 y1 y2 y3 y4
   unfold impl_TurnFlat.l0
   repeat' first
   | (with_reducible exact ih0 _ _ _ _)
   | (with_reducible exact ih1 _ _ _ _ _)
   | (with_reducible exact impl_ValidFlat.mono _ _ _)
   | (with_reducible exact impl_turn.mono _ _ _)
   | (with_reducible exact LeO.refl _)
   | (with_reducible exact LeO.none _)
   | (with_reducible refine LeO.ite ?_ ?_)
   | (with_reducible refine LeO.bind ?_ (fun _ => ?_))
   | exact ih0 _ _ _ _
   | exact ih1 _ _ _ _ _
   | exact impl_ValidFlat.mono _ _ _
   | exact impl_turn.mono _ _ _
   | exact LeO.none _
   | refine LeO.ite ?_ ?_
   | refine LeO.bind ?_ (fun _ => ?_)
theorem impl_TurnFlat.mono : ∀ a0 a1 a2 k, LeO (impl_TurnFlat.f k a0 a1 a2) (impl_TurnFlat.f (k + 1) a0 a1 a2) := by
 intro a0 a1 a2 k
 obtain ⟨ih0, ih1⟩ := impl_TurnFlat.mono_l k
 unfold impl_TurnFlat.f
 repeat' first
   | (with_reducible exact ih0 _ _ _ _)
   | (with_reducible exact ih1 _ _ _ _ _)
   | (with_reducible exact impl_ValidFlat.mono _ _ _)
   | (with_reducible exact impl_turn.mono _ _ _)
   | (with_reducible exact LeO.refl _)
   | (with_reducible exact LeO.none _)
   | (with_reducible refine LeO.ite ?_ ?_)
   | (with_reducible refine LeO.bind ?_ (fun _ => ?_))
   | exact ih0 _ _ _ _
   | exact ih1 _ _ _ _ _
   | exact impl_ValidFlat.mono _ _ _
   | exact impl_turn.mono _ _ _
   | exact LeO.none _
   | refine LeO.ite ?_ ?_
   | refine LeO.bind ?_ (fun _ => ?_)
def impl_TurnFlat.T7 : Bool × List (List Nat × List Nat) := (true, [([], []), ([0], [0]), ([], []), ([], []), ([], []), ([4], [4]), ([], []), ([5, 6], [5, 6]), ([7], [7]), ([8], [8]), ([3, 9], [3, 9]), ([1, 2, 0, 1, 2, 3, 4, 5, 6, 7, 8, 9, 10], [1, 2]), ([11, 0, 1, 2, 3, 4, 5, 6, 7, 8, 9, 10], [11]), ([12, 10, 10, 0, 1, 2, 3, 4, 5, 6, 7, 8, 9, 10], [10, 12])])
def impl_TurnFlat.B7 : List Nat := [0, 1, 0, 0, 0, 16, 0, 112, 240, 496, 1016, 2047, 4095, 8191]
theorem impl_TurnFlat.tab7 : rtab .any (opsOf Try.f43 7) = impl_TurnFlat.T7 := by kernel_rfl
theorem impl_TurnFlat.bits7 : waitsOk impl_TurnFlat.T7.2 impl_TurnFlat.B7 = true := by kernel_rfl
set_option maxHeartbeats 8000000 in
set_option maxRecDepth 100000 in
theorem impl_TurnFlat.calls (k : Nat) (A0 : Option Addr) (c0 : Nat) (l0 : List (S107)) (A1_0 : Option Addr) (c1_0 : Nat) (l1_0 : List Int) (A1_1 : Option Addr) (c1_1 : Nat) (l1_1 : List (S33)) (r1 : List Int) (r2 : List (S33)) (w : World) (hr0 : Kd.C k107 w A0 l0.length l0) (hc0 : l0.length ≤ c0) (hr1_0 : Kd.C (Kd.int .i64) w A1_0 l1_0.length l1_0) (hc1_0 : l1_0.length ≤ c1_0) (hr1_1 : Kd.C k33 w A1_1 l1_1.length l1_1) (hc1_1 : l1_1.length ≤ c1_1) (h : impl_TurnFlat.f k l0 l1_0 l1_1 = some (r1, r2)) :
  Calls Try.prog 43 #[.slice A0 l0.length c0, .agg #[.slice A1_0 l1_0.length c1_0, .slice A1_1 l1_1.length c1_1]] w fun e w' => ∃ v0_ v1_ : Value, e = .returned (.agg #[v0_, v1_]) ∧ Kd.R (Kd.int .i64) 3 w' w.heap.size (fun _ => True) v0_ r1 ∧ Kd.R k33 33 w' w.heap.size (fun _ => True) v1_ r2 ∧ Below w.heap.size w w' := by
 have hu26 := Try.underlying26
 have HR0 := Aside0.mk hr0
 have HC0 := Aside0.mk hc0
 clear hr0 hc0
 have HR1_0 := Aside0.mk hr1_0
 have HC1_0 := Aside0.mk hc1_0
 clear hr1_0 hc1_0
 have HR1_1 := Aside0.mk hr1_1
 have HC1_1 := Aside0.mk hc1_1
 clear hr1_1 hc1_1
 have HB := Aside0.mk (Below.refl w.heap.size w)
 have H : ((impl_ValidTurns.f l0).bind fun t869 => (if t869 = true then ((impl_ValidFlat.f k l1_0 l1_1).bind fun t870 => (impl_TurnFlat.j0 k l0 (!t870) l1_0 l1_1)) else (impl_TurnFlat.j0 k l0 true l1_0 l1_1))) = some (r1, r2) := h
 clear h
 have HC3 := Aside0.mk H
 clear H
 go_enter Try.func43, Try.ntmps43
 go_upto_region 1 with (first | ((with_reducible refine gate_dst (N := 3) rfl ?_); refine box_event ?hg (N := 3) ?hd (cs := #[.slice A1_0 l1_0.length c1_0, .slice A1_1 l1_1.length c1_1]) (t := 26) ?hr ?_; (case hd => rfl); (case hg => rfl); (case hr => first | (go_simp; done) | (go_simp; rfl)); intro gb867 hg w4 hbox hb; have n0_ := Aside0.mk (below_step (zB HB) hb); have n1_ := Aside0.mk (hbox); have n2_ := Aside0.mk ((by rw [hg]; exact (below_size (zB HB)) : w.heap.size ≤ gb867)); have n3_ := Aside0.mk ((by rw [hg]; exact (below_size (zB HB)) : w.heap.size ≤ gb867)); clear HB; have HB := n0_; have BK867 := n1_; have GW867 := n2_; have GE867 := n3_; clear n0_ n1_ n2_ n3_; clear hb hbox hg) | ((with_reducible refine gate_dst (N := 4) rfl ?_); refine box_event ?hg (N := 4) ?hd (cs := #[.slice none 0 0, .slice none 0 0]) (t := 26) ?hr ?_; (case hd => rfl); (case hg => rfl); (case hr => first | (go_simp; done) | (go_simp; rfl)); intro gb868 hg w5 hbox hb; have n0_ := Aside0.mk (blk_below (g := gb867) (o := .cells #[.slice A1_0 l1_0.length c1_0, .slice A1_1 l1_1.length c1_1] 26 (0, 0)) (zb BK867) hb); have n1_ := Aside0.mk (below_step (zB HB) hb); have n2_ := Aside0.mk (hbox); have n3_ := Aside0.mk ((by rw [hg]; exact (below_size (zB HB)) : w.heap.size ≤ gb868)); have n4_ := Aside0.mk ((by rw [hg]; exact (below_size (zB HB)) : w.heap.size ≤ gb868)); have n5_ := Aside0.mk ((by rw [hg]; exact Nat.ne_of_lt (blk_lt (g := gb867) (o := .cells #[.slice A1_0 l1_0.length c1_0, .slice A1_1 l1_1.length c1_1] 26 (0, 0)) (zb BK867)) : gb867 ≠ gb868)); have n6_ := Aside0.mk ((by rw [hg]; exact Nat.ne_of_gt (blk_lt (g := gb867) (o := .cells #[.slice A1_0 l1_0.length c1_0, .slice A1_1 l1_1.length c1_1] 26 (0, 0)) (zb BK867)) : gb868 ≠ gb867)); clear BK867; clear HB; have BK867 := n0_; have HB := n1_; have BK868 := n2_; have GW868 := n3_; have GE868 := n4_; have NB867_868 := n5_; have NB868_867 := n6_; clear n0_ n1_ n2_ n3_ n4_ n5_ n6_; clear hb hbox hg))
 (try simp only [Act.put, List.setIfInBounds_toArray, List.set_cons_zero, List.set_cons_succ])
 go_cut [14] (fun v14 wc => ∃ (kq : Nat) (x14_2 : Bool), v14 = .bool x14_2 ∧ Aside0 (impl_TurnFlat.j0 kq l0 x14_2 l1_0 l1_1 = some (r1, r2)) ∧ Aside0 (kq ≤ k) ∧ Aside0 (wc.heap[gb867]? = some (.cells #[(.slice A1_0 l1_0.length c1_0), (.slice A1_1 l1_1.length c1_1)] 26 (0, 0))) ∧ Aside0 (wc.heap[gb868]? = some (.cells #[(.slice none 0 0), (.slice none 0 0)] 26 (0, 0))) ∧ Aside0 (Below w.heap.size w wc))
 case first =>
  have H := HC3.out
  clear HC3
  replace H := Option.bind_eq_some_iff.mp H
  obtain ⟨t869, A60, H⟩ := H
  replace H : (if t869 = true then ((impl_ValidFlat.f k l1_0 l1_1).bind fun t870 => (impl_TurnFlat.j0 k l0 (!t870) l1_0 l1_1)) else (impl_TurnFlat.j0 k l0 true l1_0 l1_1)) = some (r1, r2) := H
  have A6 := Aside0.mk A60
  clear A60
  by_cases c7 : t869 = true
  ·subst c7
   have H1 : ((impl_ValidFlat.f k l1_0 l1_1).bind fun t870 => (impl_TurnFlat.j0 k l0 (!t870) l1_0 l1_1)) = some (r1, r2) := by rw [if_pos rfl] at H; exact H
   clear H
   have H := H1
   clear H1
   replace H := Option.bind_eq_some_iff.mp H
   obtain ⟨t870, A80, H⟩ := H
   replace H : (impl_TurnFlat.j0 k l0 (!t870) l1_0 l1_1) = some (r1, r2) := H
   have A8 := Aside0.mk A80
   clear A80
   have H' := Aside0.mk H
   clear H
   go_wp2_with (first | ((with_reducible refine gate_callee (f := 46) rfl ?_); refine goesL_ (some 8) rfl rfl Try.func46 (by kernel_rfl) rfl #[.slice A0 l0.length c0] rfl zl ?_; (with_reducible refine (impl_ValidTurns.calls _ _ l0 true _ ?side1 ?side2 A6.out).mono ?_); (case side1 => repeat (first | exact (Kd.C_below HR0.out HB.out) | (with_reducible refine Kd.C_alloc ?_ _) | (with_reducible refine Kd.C_drewN ?_ _) | (with_reducible refine Kd.C_drew ?_))); (case side2 => exact HC0.out); rintro e w9 ⟨rfl, hb⟩; refine ⟨_, rfl, ?_⟩; have n0_ := Aside0.mk (blk_below (g := gb867) (o := .cells #[.slice A1_0 l1_0.length c1_0, .slice A1_1 l1_1.length c1_1] 26 (0, 0)) (zb BK867) hb); have n1_ := Aside0.mk (blk_below (g := gb868) (o := .cells #[.slice none 0 0, .slice none 0 0] 26 (0, 0)) (zb BK868) hb); have n2_ := Aside0.mk (below_step (zB HB) hb); clear BK867; clear BK868; clear HB; have BK867 := n0_; have BK868 := n1_; have HB := n2_; clear n0_ n1_ n2_; (try clear hb); (try clear hb2); (try clear hk); (try clear hi); have hnb10 := NB867_868.out; have hnc10 := NB868_867.out; have hcz11_0 : w9.cell? ⟨gb867, 0, none⟩ = some (.slice A1_0 l1_0.length c1_0) := (blk_cell BK867.out 0).trans rfl; have hcz11_1 : w9.cell? ⟨gb867, 1, none⟩ = some (.slice A1_1 l1_1.length c1_1) := (blk_cell BK867.out 1).trans rfl; have hfz11_0 := blk_frozen BK867.out 0; have hfz11_1 := blk_frozen BK867.out 1) | (go_at_call 22; (with_reducible refine (impl_ValidFlat.calls k _ _ l1_0 _ _ l1_1 t870 _ ?side1 ?side2 ?side3 ?side4 A8.out).mono ?_); (case side1 => repeat (first | exact (Kd.C_below HR1_0.out HB.out) | (with_reducible refine Kd.C_alloc ?_ _) | (with_reducible refine Kd.C_drewN ?_ _) | (with_reducible refine Kd.C_drew ?_))); (case side2 => exact HC1_0.out); (case side3 => repeat (first | exact (Kd.C_below HR1_1.out HB.out) | (with_reducible refine Kd.C_alloc ?_ _) | (with_reducible refine Kd.C_drewN ?_ _) | (with_reducible refine Kd.C_drew ?_))); (case side4 => exact HC1_1.out); rintro e w12 ⟨rfl, hb⟩; have n0_ := Aside0.mk (blk_below (g := gb867) (o := .cells #[.slice A1_0 l1_0.length c1_0, .slice A1_1 l1_1.length c1_1] 26 (0, 0)) (zb BK867) hb); have n1_ := Aside0.mk (blk_below (g := gb868) (o := .cells #[.slice none 0 0, .slice none 0 0] 26 (0, 0)) (zb BK868) hb); have n2_ := Aside0.mk (below_step (zB HB) hb); clear BK867; clear BK868; clear HB; have BK867 := n0_; have BK868 := n1_; have HB := n2_; clear n0_ n1_ n2_; (try clear hb); (try clear hb2); (try clear hk); (try clear hi)))
   go_meet
   case rel => exact ⟨_, (!t870), zr, H', ⟨by first | omega | exact Nat.le_refl _⟩, ⟨by (with_reducible repeat (first | refine blk_drewN ?_ _ | refine blk_drew ?_ | refine blk_alloc ?_ _)); exact BK867.out⟩, ⟨by (with_reducible repeat (first | refine blk_drewN ?_ _ | refine blk_drew ?_ | refine blk_alloc ?_ _)); exact BK868.out⟩, ⟨by repeat (first | (with_reducible first | exact HB.out | apply below_alloc | apply pw_below_drewN | apply below_drew1 | refine below_set ?_ GE867.out | refine below_set ?_ GE868.out) | exact HB.out)⟩⟩
  ·replace c7 := Bool.eq_false_iff.mpr c7
   subst c7
   have H1 : (impl_TurnFlat.j0 k l0 true l1_0 l1_1) = some (r1, r2) := by rw [if_neg (show ¬ (false = true) by decide)] at H; exact H
   clear H
   have H := H1
   clear H1
   have H' := Aside0.mk H
   clear H
   go_wp2_with (first | ((with_reducible refine gate_callee (f := 46) rfl ?_); refine goesL_ (some 8) rfl rfl Try.func46 (by kernel_rfl) rfl #[.slice A0 l0.length c0] rfl zl ?_; (with_reducible refine (impl_ValidTurns.calls _ _ l0 false _ ?side1 ?side2 A6.out).mono ?_); (case side1 => repeat (first | exact (Kd.C_below HR0.out HB.out) | (with_reducible refine Kd.C_alloc ?_ _) | (with_reducible refine Kd.C_drewN ?_ _) | (with_reducible refine Kd.C_drew ?_))); (case side2 => exact HC0.out); rintro e w13 ⟨rfl, hb⟩; refine ⟨_, rfl, ?_⟩; have n0_ := Aside0.mk (blk_below (g := gb867) (o := .cells #[.slice A1_0 l1_0.length c1_0, .slice A1_1 l1_1.length c1_1] 26 (0, 0)) (zb BK867) hb); have n1_ := Aside0.mk (blk_below (g := gb868) (o := .cells #[.slice none 0 0, .slice none 0 0] 26 (0, 0)) (zb BK868) hb); have n2_ := Aside0.mk (below_step (zB HB) hb); clear BK867; clear BK868; clear HB; have BK867 := n0_; have BK868 := n1_; have HB := n2_; clear n0_ n1_ n2_; (try clear hb); (try clear hb2); (try clear hk); (try clear hi)))
   go_meet
   case rel => exact ⟨_, (true), zr, H', ⟨by first | omega | exact Nat.le_refl _⟩, ⟨by (with_reducible repeat (first | refine blk_drewN ?_ _ | refine blk_drew ?_ | refine blk_alloc ?_ _)); exact BK867.out⟩, ⟨by (with_reducible repeat (first | refine blk_drewN ?_ _ | refine blk_drew ?_ | refine blk_alloc ?_ _)); exact BK868.out⟩, ⟨by repeat (first | (with_reducible first | exact HB.out | apply below_alloc | apply pw_below_drewN | apply below_drew1 | refine below_set ?_ GE867.out | refine below_set ?_ GE868.out) | exact HB.out)⟩⟩
 case rest =>
  clear HC3
  try clear c1
  try clear p2
  try clear c4
  try clear c7
  try clear c10
  try clear hcz11_0
  try clear hcz11_1
  try clear hfz11_0
  try clear hfz11_1
  obtain ⟨kq, x14_2, rfl, HA, HJ2, BK867, BK868, HB⟩ := hcut
  cases kq with
  | zero => exact absurd HA.out (by simp [impl_TurnFlat.j0])
  | succ kj2 =>
   have H := HA.out
   clear HA
   simp only [impl_TurnFlat.j0] at H
   by_cases c14 : x14_2 = true
   ·subst c14
    have H1 : (some (([] : List Int), ([] : List (S33)))) = some (r1, r2) := by rw [if_pos rfl] at H; exact H
    clear H
    have H := H1
    clear H1
    simp only [Option.some.injEq, Prod.mk.injEq] at H
    obtain ⟨rfl, rfl⟩ := H
    have hnb15 := NB868_867.out
    have hnc15 := NB867_868.out
    have hcz16_0 : wc.cell? ⟨gb868, 0, none⟩ = some (.slice none 0 0) := (blk_cell BK868.out 0).trans rfl
    have hcz16_1 : wc.cell? ⟨gb868, 1, none⟩ = some (.slice none 0 0) := (blk_cell BK868.out 1).trans rfl
    have hfz16_0 := blk_frozen BK868.out 0
    have hfz16_1 := blk_frozen BK868.out 1
    go_wp2
    refine bodyPost_ret (results_cell_row rfl _ _ gb868 26 #[.slice none 0 0, .slice none 0 0] (0, 0) _ rfl (by (with_reducible repeat (first | refine blk_drewN ?_ _ | refine blk_drew ?_ | refine blk_alloc ?_ _)); refine blk_put (cs := #[.slice none 0 0, .slice none 0 0]) ?_ 1 _ rfl; (with_reducible repeat (first | refine blk_drewN ?_ _ | refine blk_drew ?_ | refine blk_alloc ?_ _)); refine blk_put (cs := #[.slice none 0 0, .slice none 0 0]) ?_ 0 _ rfl; (with_reducible repeat (first | refine blk_drewN ?_ _ | refine blk_drew ?_ | refine blk_alloc ?_ _)); exact BK868.out) Try.underlying26 rfl (by kernel_rfl)) rfl ?_
    exact ⟨_, _, by first | rfl | (simp [errW_none, errW_some] <;> rfl) | (simp [*, errW_none, errW_some] <;> rfl), by first | exact Kd.R_nil _ _ _ _ _ | exact Kd.N_nil _ _ _ _ _ | exact Kd.V_nil _ _ _ _ _ | exact Kd.Q_nil _ _ _ _ _ | exact Kd.S_nil _ _ _ _ _, by first | exact Kd.R_nil _ _ _ _ _ | exact Kd.N_nil _ _ _ _ _ | exact Kd.V_nil _ _ _ _ _ | exact Kd.Q_nil _ _ _ _ _ | exact Kd.S_nil _ _ _ _ _, by repeat (first | (with_reducible first | exact HB.out | apply below_alloc | apply pw_below_drewN | apply below_drew1 | refine below_set ?_ GE867.out | refine below_set ?_ GE868.out) | exact HB.out)⟩
   ·replace c14 := Bool.eq_false_iff.mpr c14
    subst c14
    have H1 : ((impl_Flat_copyOf.f l1_0 l1_1).bind fun bt871 => (impl_TurnFlat.l0 kj2 l0 (bt871.2.length : Int) 0 bt871.1 bt871.2)) = some (r1, r2) := by rw [if_neg (show ¬ (false = true) by decide)] at H; exact H
    clear H
    have H := H1
    clear H1
    replace H := Option.bind_eq_some_iff.mp H
    obtain ⟨⟨t871, t874⟩, A170, H⟩ := H
    replace H : (impl_TurnFlat.l0 kj2 l0 (t874.length : Int) 0 t871 t874) = some (r1, r2) := H
    have A17 := Aside0.mk A170
    clear A170
    have H' := Aside0.mk H
    clear H
    have hnb18 := NB867_868.out
    have hnc18 := NB868_867.out
    have hcz19_0 : wc.cell? ⟨gb867, 0, none⟩ = some (.slice A1_0 l1_0.length c1_0) := (blk_cell BK867.out 0).trans rfl
    have hcz19_1 : wc.cell? ⟨gb867, 1, none⟩ = some (.slice A1_1 l1_1.length c1_1) := (blk_cell BK867.out 1).trans rfl
    have hfz19_0 := blk_frozen BK867.out 0
    have hfz19_1 := blk_frozen BK867.out 1
    go_wp2_with (first | ((with_reducible refine gate_callee (f := 68) rfl ?_); refine goesL_ (some 17) rfl rfl Try.func68 (by kernel_rfl) rfl #[.agg #[.slice A1_0 l1_0.length c1_0, .slice A1_1 l1_1.length c1_1]] rfl zl ?_; (with_reducible refine (impl_Flat_copyOf.calls _ _ l1_0 _ _ l1_1 t871 t874 _ ?side1 ?side2 ?side3 ?side4 A17.out).mono ?_); (case side1 => repeat (first | exact (Kd.C_below HR1_0.out HB.out) | (with_reducible refine Kd.C_alloc ?_ _) | (with_reducible refine Kd.C_drewN ?_ _) | (with_reducible refine Kd.C_drew ?_))); (case side2 => exact HC1_0.out); (case side3 => repeat (first | exact (Kd.C_below HR1_1.out HB.out) | (with_reducible refine Kd.C_alloc ?_ _) | (with_reducible refine Kd.C_drewN ?_ _) | (with_reducible refine Kd.C_drew ?_))); (case side4 => exact HC1_1.out); rintro e w20 ⟨v872, v875, rfl, ho0, ho1, hb⟩; refine ⟨_, rfl, ?_⟩; have n0_ := Aside0.mk (Kd.R_lower ho0 (below_size (zB HB))); have n1_ := Aside0.mk (Kd.R_lower ho1 (below_size (zB HB))); have n2_ := Aside0.mk (blk_below (g := gb867) (o := .cells #[.slice A1_0 l1_0.length c1_0, .slice A1_1 l1_1.length c1_1] 26 (0, 0)) (zb BK867) hb); have n3_ := Aside0.mk (blk_below (g := gb868) (o := .cells #[.slice none 0 0, .slice none 0 0] 26 (0, 0)) (zb BK868) hb); have n4_ := Aside0.mk (below_step (zB HB) hb); clear BK867; clear BK868; clear HB; have HO873 := n0_; have HO876 := n1_; have BK867 := n2_; have BK868 := n3_; have HB := n4_; clear n0_ n1_ n2_ n3_ n4_; (try clear hb); (try clear hb2); (try clear hk); (try clear hi); (try clear ho0); (try clear ho1)) | ((with_reducible refine gate_dst (N := 5) rfl ?_); refine box_event ?hg (N := 5) ?hd (cs := #[.slice none 0 0, .slice none 0 0]) (t := 26) ?hr ?_; (case hd => rfl); (case hg => rfl); (case hr => first | (go_simp; done) | (go_simp; rfl)); intro gb877 hg w21 hbox hb; have n0_ := Aside0.mk (Kd.R_below (zo HO873) hb); have n1_ := Aside0.mk (Kd.R_below (zo HO876) hb); have n2_ := Aside0.mk (blk_below (g := gb867) (o := .cells #[.slice A1_0 l1_0.length c1_0, .slice A1_1 l1_1.length c1_1] 26 (0, 0)) (zb BK867) hb); have n3_ := Aside0.mk (blk_below (g := gb868) (o := .cells #[.slice none 0 0, .slice none 0 0] 26 (0, 0)) (zb BK868) hb); have n4_ := Aside0.mk (below_step (zB HB) hb); have n5_ := Aside0.mk (hbox); have n6_ := Aside0.mk ((by rw [hg]; exact (below_size (zB HB)) : w.heap.size ≤ gb877)); have n7_ := Aside0.mk ((by rw [hg]; exact (below_size (zB HB)) : w.heap.size ≤ gb877)); have n8_ := Aside0.mk ((by rw [hg]; exact Nat.ne_of_lt (blk_lt (g := gb867) (o := .cells #[.slice A1_0 l1_0.length c1_0, .slice A1_1 l1_1.length c1_1] 26 (0, 0)) (zb BK867)) : gb867 ≠ gb877)); have n9_ := Aside0.mk ((by rw [hg]; exact Nat.ne_of_gt (blk_lt (g := gb867) (o := .cells #[.slice A1_0 l1_0.length c1_0, .slice A1_1 l1_1.length c1_1] 26 (0, 0)) (zb BK867)) : gb877 ≠ gb867)); have n10_ := Aside0.mk ((by rw [hg]; exact Nat.ne_of_lt (blk_lt (g := gb868) (o := .cells #[.slice none 0 0, .slice none 0 0] 26 (0, 0)) (zb BK868)) : gb868 ≠ gb877)); have n11_ := Aside0.mk ((by rw [hg]; exact Nat.ne_of_gt (blk_lt (g := gb868) (o := .cells #[.slice none 0 0, .slice none 0 0] 26 (0, 0)) (zb BK868)) : gb877 ≠ gb868)); clear HO873; clear HO876; clear BK867; clear BK868; clear HB; have HO873 := n0_; have HO876 := n1_; have BK867 := n2_; have BK868 := n3_; have HB := n4_; have BK877 := n5_; have GW877 := n6_; have GE877 := n7_; have NB867_877 := n8_; have NB877_867 := n9_; have NB868_877 := n10_; have NB877_868 := n11_; clear n0_ n1_ n2_ n3_ n4_ n5_ n6_ n7_ n8_ n9_ n10_ n11_; clear hb hbox hg; obtain ⟨Ao22, co22, eo22⟩ := Kd.R_slice HO873.out; subst eo22; have hnb23 := NB877_867.out; have hnc23 := NB867_877.out; have hnb24 := NB877_868.out; have hnc24 := NB868_877.out; have hcz25_0 : w21.cell? ⟨gb877, 0, none⟩ = some (.slice none 0 0) := (blk_cell BK877.out 0).trans rfl; have hcz25_1 : w21.cell? ⟨gb877, 1, none⟩ = some (.slice none 0 0) := (blk_cell BK877.out 1).trans rfl; have hfz25_0 := blk_frozen BK877.out 0; have hfz25_1 := blk_frozen BK877.out 1; obtain ⟨Ao26, co26, eo26⟩ := Kd.R_slice HO876.out; subst eo26))
    go_loopg [21] kj2 (fun kq v21 w' => ∃ (x21_2 : Int) (x878001_2 : List (S33)) (u878001 : Value), v21 = .int .i64 x21_2 ∧ Aside0 (impl_TurnFlat.l0 kq l0 (t874.length : Int) x21_2 t871 x878001_2 = some (r1, r2)) ∧ Aside0 (kq ≤ kj2) ∧ Aside0 (Kd.R (Kd.int .i64) 3 w' w.heap.size (fun _ => True) (.slice Ao22 t871.length co22) t871) ∧ Aside0 (Kd.R k33 33 w' w.heap.size (fun _ => True) u878001 x878001_2) ∧ Aside0 (w'.heap[gb867]? = some (.cells #[(.slice A1_0 l1_0.length c1_0), (.slice A1_1 l1_1.length c1_1)] 26 (0, 0))) ∧ Aside0 (w'.heap[gb868]? = some (.cells #[(.slice none 0 0), (.slice none 0 0)] 26 (0, 0))) ∧ Aside0 (w'.heap[gb877]? = some (.cells #[(.slice Ao22 t871.length co22), u878001] 26 (0, 0))) ∧ Aside0 (Below w.heap.size w w'))
    case atStart => exact ⟨(0), (t874), (.slice Ao26 t874.length co26), zr, H', ⟨Nat.le_refl _⟩, ⟨by (with_reducible repeat (first | apply Kd.R_alloc | apply Kd.R_drewN | apply Kd.R_drew)); exact Kd.R_mono (Kd.R_far (p := ⟨gb877, 1, none⟩) (Kd.R_far (p := ⟨gb877, 0, none⟩) (Kd.R_types HO873.out BK877.out (by decide)) (fun _ hk => hk.2) (.slice Ao22 t871.length co22)) (fun _ hk => hk.2) (.slice Ao26 t874.length co26)) (fun _ hk => trivial)⟩, ⟨by (with_reducible repeat (first | apply Kd.R_alloc | apply Kd.R_drewN | apply Kd.R_drew)); exact Kd.R_mono (Kd.R_far (p := ⟨gb877, 1, none⟩) (Kd.R_far (p := ⟨gb877, 0, none⟩) (Kd.R_types HO876.out BK877.out (by decide)) (fun _ hk => hk.2) (.slice Ao22 t871.length co22)) (fun _ hk => hk.2) (.slice Ao26 t874.length co26)) (fun _ hk => trivial)⟩, ⟨by (with_reducible repeat (first | refine blk_drewN ?_ _ | refine blk_drew ?_ | refine blk_alloc ?_ _)); refine blk_far ?_ NB867_877.out _; (with_reducible repeat (first | refine blk_drewN ?_ _ | refine blk_drew ?_ | refine blk_alloc ?_ _)); refine blk_far ?_ NB867_877.out _; (with_reducible repeat (first | refine blk_drewN ?_ _ | refine blk_drew ?_ | refine blk_alloc ?_ _)); exact BK867.out⟩, ⟨by (with_reducible repeat (first | refine blk_drewN ?_ _ | refine blk_drew ?_ | refine blk_alloc ?_ _)); refine blk_far ?_ NB868_877.out _; (with_reducible repeat (first | refine blk_drewN ?_ _ | refine blk_drew ?_ | refine blk_alloc ?_ _)); refine blk_far ?_ NB868_877.out _; (with_reducible repeat (first | refine blk_drewN ?_ _ | refine blk_drew ?_ | refine blk_alloc ?_ _)); exact BK868.out⟩, ⟨by (with_reducible repeat (first | refine blk_drewN ?_ _ | refine blk_drew ?_ | refine blk_alloc ?_ _)); refine blk_put (cs := #[.slice Ao22 t871.length co22, .slice none 0 0]) ?_ 1 _ rfl; (with_reducible repeat (first | refine blk_drewN ?_ _ | refine blk_drew ?_ | refine blk_alloc ?_ _)); refine blk_put (cs := #[.slice none 0 0, .slice none 0 0]) ?_ 0 _ rfl; (with_reducible repeat (first | refine blk_drewN ?_ _ | refine blk_drew ?_ | refine blk_alloc ?_ _)); exact BK877.out⟩, ⟨by repeat (first | (with_reducible first | exact HB.out | apply below_alloc | apply pw_below_drewN | apply below_drew1 | refine below_set ?_ GE867.out | refine below_set ?_ GE868.out | refine below_set ?_ GE877.out) | exact HB.out)⟩⟩
    case round =>
     clear H'
     try clear c1
     try clear c2
     try clear p2
     try clear c4
     try clear c6
     try clear c7
     try clear c10
     try clear c14
     try clear c15
     try clear c18
     try clear c23
     try clear c24
     try clear hcz11_0
     try clear hcz11_1
     try clear hcz16_0
     try clear hcz16_1
     try clear hcz19_0
     try clear hcz19_1
     try clear hcz25_0
     try clear hcz25_1
     try clear hfz11_0
     try clear hfz11_1
     try clear hfz16_0
     try clear hfz16_1
     try clear hfz19_0
     try clear hfz19_1
     try clear hfz25_0
     try clear hfz25_1
     try clear p2
     obtain ⟨x21_2, x878001_2, u878001, rfl, HA, HK2, HO_878000, HO_878001, BK867, BK868, BK877, HB⟩ := hrel
     cases gk with
     | zero => exact absurd HA.out (by simp [impl_TurnFlat.l0])
     | succ k2 =>
      have H := HA.out
      clear HA
      simp only [impl_TurnFlat.l0] at H
      by_cases c27 : x21_2 < (t874.length : Int)
      ·rw [if_pos c27] at H
       have c27b0 : decide (x21_2 < (t874.length : Int)) = true := decide_eq_true c27
       clear c27
       by_cases c28 : 0 ≤ x21_2
       ·rw [if_pos c28] at H
        have c28b0 : decide (0 ≤ x21_2) = true := decide_eq_true c28
        clear c28
        by_cases c29 : x21_2 < (x878001_2.length : Int)
        ·rw [if_pos c29] at H
         have c29b0 : decide (x21_2 < (x878001_2.length : Int)) = true := decide_eq_true c29
         clear c29
         replace H := Option.bind_eq_some_iff.mp H
         obtain ⟨t879, A300, H⟩ := H
         replace H : (impl_TurnFlat.l0 k2 l0 (t874.length : Int) (wrap64 (x21_2 + 1)) t871 (x878001_2.set (x21_2 : Int).toNat (⟨t879, (rd_T33 x878001_2 x21_2).f1⟩ : S33))) = some (r1, r2) := H
         have A30 := Aside0.mk A300
         clear A300
         obtain ⟨y880, hy880⟩ : ∃ y_ : List (S33), y_ = (x878001_2.set (x21_2 : Int).toNat (⟨t879, (rd_T33 x878001_2 x21_2).f1⟩ : S33)) := ⟨_, rfl⟩
         replace H : (impl_TurnFlat.l0 k2 l0 (t874.length : Int) (wrap64 (x21_2 + 1)) t871 y880) = some (r1, r2) := by first | (rw [hy880]; with_reducible exact H) | (have H2_ := (Option.bind_some _ _).symm.trans H; rw [hy880]; with_reducible exact H2_) | (have H2_ := (Option.bind_some _ _).symm.trans H; with_reducible exact H2_) | with_reducible exact H | (rw [hy880]; exact H) | exact H
         have Ny880 := Aside0.mk hy880
         clear hy880
         have H' := Aside0.mk H
         clear H
         try go_wp2
         have n0_ := Aside0.mk (Kd.R_drew HO_878000.out)
         have n1_ := Aside0.mk (Kd.R_drew HO_878001.out)
         have n2_ := Aside0.mk (blk_drew BK867.out)
         have n3_ := Aside0.mk (blk_drew BK868.out)
         have n4_ := Aside0.mk (blk_drew BK877.out)
         have n5_ := Aside0.mk (below_drew1 HB.out)
         clear HO_878000
         clear HO_878001
         clear BK867
         clear BK868
         clear BK877
         clear HB
         have HO_878000 := n0_
         have HO_878001 := n1_
         have BK867 := n2_
         have BK868 := n3_
         have BK877 := n4_
         have HB := n5_
         clear n0_ n1_ n2_ n3_ n4_ n5_
         obtain ⟨Ao33, co33, eo33⟩ := Kd.R_slice HO_878001.out
         (first | subst eo33 | (injection eo33 with f1_ f2_ f3_; have f4_ := f1_.symm; have f5_ := f3_.symm; clear f1_ f2_ f3_; subst f4_; subst f5_))
         have p878 : 0 ≤ (x21_2 : Int) := of_decide_eq_true za
         have q878 : x21_2 < (x878001_2.length : Int) := of_decide_eq_true za
         obtain ⟨ad878, e878, hx878_0, hx878_1⟩ := at_T33 (Kd.R_reads' HO_878001.out).2.2 x21_2 p878 q878
         cases e878
         replace p878 := eq_true p878
         replace q878 := eq_true q878
         refine start_ (n := 14) (S := fun w' => w'.cell? ⟨gb877, 0, none⟩ = some (.slice Ao22 t871.length co22) ∧ w'.cell? ⟨gb877, 1, none⟩ = some (.slice (some ad878) x878001_2.length co33) ∧ w'.cell? (ad878.add ((x21_2).toNat * 2)) = some (.string ((rd_T33 x878001_2 x21_2).f0)) ∧ w'.cell? ⟨(ad878.add ((x21_2).toNat * 2)).block, (ad878.add ((x21_2).toNat * 2)).off + 1, none⟩ = some (.int .i64 ((rd_T33 x878001_2 x21_2).f1))) (ds := [13]) #[false, false, false, false, false, false, false, false, false, false, false, false, false, false] (by kernel_rfl) rfl rfl ⟨(blk_cell BK877.out 0).trans rfl, (blk_cell BK877.out 1).trans rfl, hx878_0, hx878_1⟩ (fun hHeld => ?_); refine with_tabW impl_TurnFlat.tab7 impl_TurnFlat.bits7 (fun HT_ HW_ => ?_)
         generalize wr.drew = w32 at HO_878000 HO_878001 BK867 BK868 BK877 HB hx878_0 hx878_1 hHeld ⊢
         refine pure_ (i := 0) (N := some 24) (v := ?_) (a' := ?_) #[true, false, false, false, false, false, false, false, false, false, false, false, false, false] rfl rfl (any_of HT_.out (by kernel_rfl)) (fun _ _ _ h => h) (Or.inl ⟨by rfl, ?_⟩) ?_ ?_
         rotate_left
         ·intro w'
          go_simp
          with_reducible rfl
         rotate_left
         ·simp only [Act.put, List.setIfInBounds_toArray, List.set_cons_zero, List.set_cons_succ, i64_w, i32_w]
          rfl
         refine pure_ (i := 2) (N := some 26) (v := ?_) (a' := ?_) #[true, false, true, false, false, false, false, false, false, false, false, false, false, false] rfl rfl (any_of HT_.out (by kernel_rfl)) (fun _ _ _ h => h) (Or.inl ⟨by rfl, ?_⟩) ?_ ?_
         rotate_left
         ·intro w'
          go_simp
          with_reducible rfl
         rotate_left
         ·simp only [Act.put, List.setIfInBounds_toArray, List.set_cons_zero, List.set_cons_succ, i64_w, i32_w]
          rfl
         refine pure_ (i := 3) (N := some 27) (v := ?_) (a' := ?_) #[true, false, true, true, false, false, false, false, false, false, false, false, false, false] rfl rfl (any_of HT_.out (by kernel_rfl)) (fun _ _ _ h => h) (Or.inl ⟨by rfl, ?_⟩) ?_ ?_
         rotate_left
         ·intro w'
          go_simp
          with_reducible rfl
         rotate_left
         ·simp only [Act.put, List.setIfInBounds_toArray, List.set_cons_zero, List.set_cons_succ, i64_w, i32_w]
          rfl
         refine pure_ (i := 4) (N := some 28) (v := ?_) (a' := ?_) #[true, false, true, true, true, false, false, false, false, false, false, false, false, false] rfl rfl (any_of HT_.out (by kernel_rfl)) (fun _ _ _ h => h) (Or.inl ⟨by rfl, ?_⟩) ?_ ?_
         rotate_left
         ·intro w'
          go_simp
          with_reducible rfl
         rotate_left
         ·simp only [Act.put, List.setIfInBounds_toArray, List.set_cons_zero, List.set_cons_succ, i64_w, i32_w]
          rfl
         refine pure_ (i := 6) (N := some 30) (v := ?_) (a' := ?_) #[true, false, true, true, true, false, true, false, false, false, false, false, false, false] rfl rfl (any_of HT_.out (by kernel_rfl)) (fun _ _ _ h => h) (Or.inl ⟨by rfl, ?_⟩) ?_ ?_
         rotate_left
         ·intro w'
          go_simp
          with_reducible rfl
         rotate_left
         ·simp only [Act.put, List.setIfInBounds_toArray, List.set_cons_zero, List.set_cons_succ, i64_w, i32_w]
          rfl
         refine take_ (i := 1) (N := some 25) (v := ?_) (a' := ?_) #[true, true, true, true, true, false, true, false, false, false, false, false, false, false] rfl rfl (take_ofW HT_.out HW_.out (by kernel_rfl)) (fun _ _ _ h => h) (Or.inl ⟨by rfl, ?_⟩) hHeld ?_ ?_
         rotate_left
         ·rintro w' ⟨s0, s1, s2, s3⟩
          go_simp
          with_reducible rfl
         rotate_left
         ·simp only [Act.put, List.setIfInBounds_toArray, List.set_cons_zero, List.set_cons_succ, i64_w, i32_w]
          rfl
         refine take_ (i := 5) (N := some 29) (v := ?_) (a' := ?_) #[true, true, true, true, true, true, true, false, false, false, false, false, false, false] rfl rfl (take_ofW HT_.out HW_.out (by kernel_rfl)) (fun _ _ _ h => h) (Or.inl ⟨by rfl, ?_⟩) hHeld ?_ ?_
         rotate_left
         ·rintro w' ⟨s0, s1, s2, s3⟩
          go_simp
          with_reducible rfl
         rotate_left
         ·simp only [Act.put, List.setIfInBounds_toArray, List.set_cons_zero, List.set_cons_succ, i64_w, i32_w]
          rfl
         refine pure_ (i := 7) (N := some 31) (v := ?_) (a' := ?_) #[true, true, true, true, true, true, true, true, false, false, false, false, false, false] rfl rfl (any_of HT_.out (by kernel_rfl)) (fun _ _ _ h => h) (Or.inl ⟨by rfl, ?_⟩) ?_ ?_
         rotate_left
         ·intro w'
          go_simp
          with_reducible rfl
         rotate_left
         ·simp only [Act.put, List.setIfInBounds_toArray, List.set_cons_zero, List.set_cons_succ, i64_w, i32_w]
          rfl
         refine pure_ (i := 8) (N := some 32) (v := ?_) (a' := ?_) #[true, true, true, true, true, true, true, true, true, false, false, false, false, false] rfl rfl (any_of HT_.out (by kernel_rfl)) (fun _ _ _ h => h) (Or.inl ⟨by rfl, ?_⟩) ?_ ?_
         rotate_left
         ·intro w'
          go_simp
          with_reducible rfl
         rotate_left
         ·simp only [Act.put, List.setIfInBounds_toArray, List.set_cons_zero, List.set_cons_succ, i64_w, i32_w]
          rfl
         refine take_ (i := 9) (N := some 33) (v := ?_) (a' := ?_) #[true, true, true, true, true, true, true, true, true, true, false, false, false, false] rfl rfl (take_ofW HT_.out HW_.out (by kernel_rfl)) (fun _ _ _ h => h) (Or.inl ⟨by rfl, ?_⟩) hHeld ?_ ?_
         rotate_left
         ·rintro w' ⟨s0, s1, s2, s3⟩
          go_simp
          with_reducible rfl
         rotate_left
         ·simp only [Act.put, List.setIfInBounds_toArray, List.set_cons_zero, List.set_cons_succ, i64_w, i32_w]
          rfl
         refine one_ (i := 10) (N := some 34) #[true, true, true, true, true, true, true, true, true, true, true, false, false, false] rfl rfl (one_of HT_.out (by kernel_rfl)) (by decide) (fun K hK => ?_)
         refine goes_ Try.func85 (by kernel_rfl) rfl #[.slice A0 l0.length c0, .string ((rd_T33 x878001_2 x21_2).f0)] (by rfl) rfl rfl zl ?_
         with_reducible refine (impl_turn.calls k2 _ _ l0 ((rd_T33 x878001_2 x21_2).f0) t879 _ ?side1 ?side2 A30.out).mono ?_
         (case side1 => repeat (first | exact (Kd.C_below HR0.out HB.out) | (with_reducible refine Kd.C_alloc ?_ _) | (with_reducible refine Kd.C_drewN ?_ _) | (with_reducible refine Kd.C_drew ?_)))
         (case side2 => exact HC0.out)
         rintro e w34 ⟨rfl, hb⟩
         have HS2_ := (hb.cell (World.block_lt_of_cell? _ _ (hHeld.2.2.1))).trans (hHeld.2.2.1)
         have HS3_ := (hb.cell (World.block_lt_of_cell? _ _ (hHeld.2.2.2))).trans (hHeld.2.2.2)
         refine ⟨_, rfl, ?_⟩
         have n0_ := Aside0.mk (Kd.R_below (zo HO_878000) hb)
         have n1_ := Aside0.mk (Kd.R_below (zo HO_878001) hb)
         have n2_ := Aside0.mk (blk_below (g := gb867) (o := .cells #[.slice A1_0 l1_0.length c1_0, .slice A1_1 l1_1.length c1_1] 26 (0, 0)) (zb BK867) hb)
         have n3_ := Aside0.mk (blk_below (g := gb868) (o := .cells #[.slice none 0 0, .slice none 0 0] 26 (0, 0)) (zb BK868) hb)
         have n4_ := Aside0.mk (blk_below (g := gb877) (o := .cells #[.slice Ao22 t871.length co22, .slice (some ad878) x878001_2.length co33] 26 (0, 0)) (zb BK877) hb)
         have n5_ := Aside0.mk (below_step (zB HB) hb)
         clear HO_878000
         clear HO_878001
         clear BK867
         clear BK868
         clear BK877
         clear HB
         have HO_878000 := n0_
         have HO_878001 := n1_
         have BK867 := n2_
         have BK868 := n3_
         have BK877 := n4_
         have HB := n5_
         clear n0_ n1_ n2_ n3_ n4_ n5_
         (try clear hb)
         (try clear hb2)
         (try clear hk)
         (try clear hi)
         have p31 : 0 ≤ (x21_2 : Int) := of_decide_eq_true za
         have q31 : (x21_2 : Int) < ((x878001_2.length : Int) : Int) := of_decide_eq_true za
         obtain ⟨go31, co31, eo31, gb31, gl31, cl31, HG31⟩ := Kd.R_form HO_878001.out (by omega)
         (first | cases eo31 | (injection eo31 with ea_ en_ ec_; (first | subst ea_ | (injection ea_ with ea_; subst ea_)); subst ec_; clear en_))
         have GB31 := Aside0.mk gb31
         have GG31 := Aside0.mk HG31
         clear gb31 gl31 HG31
         (first | simp only [add_plain] at hx878_0 | skip)
         (first | simp only [add_plain] at hx878_1 | skip)
         obtain ⟨ce31, hcl31, hM31, hcc31, hfr31⟩ := Kd.R_elem HO_878001.out z33 (x21_2 : Int) p31 q31
         obtain rfl := k33_openM hM31
         have hx31_0 : World.cell? _ ⟨go31, (x21_2 : Int).toNat * 2, none⟩ = some (.string ((rd_T33 x878001_2 x21_2).f0)) := hcc31 0 _ rfl
         have hx31_1 : World.cell? _ ⟨go31, (x21_2 : Int).toNat * 2 + 1, none⟩ = some (.int .i64 ((rd_T33 x878001_2 x21_2).f1)) := hcc31 1 _ rfl
         have hf31_0 : World.frozen? _ ⟨go31, (x21_2 : Int).toNat * 2, none⟩ = false := hfr31 0
         have hf31_1 : World.frozen? _ ⟨go31, (x21_2 : Int).toNat * 2 + 1, none⟩ = false := hfr31 1
         clear hcl31 hcc31 hfr31 hM31
         replace p31 := eq_true p31
         replace q31 := eq_true q31
         obtain ⟨ce35, hcl35, hM35, hcc35, hfr35⟩ := Kd.R_elem HO_878001.out z33 (x21_2 : Int) (of_decide_eq_true za) (by have h_ : (x21_2 : Int) < ((x878001_2.length : Int) : Int) := of_decide_eq_true za; first | exact h_ | (have e_ := (Kd.R_reads' HO_878001.out).1; omega) | simpa using h_)
         obtain rfl := k33_openM hM35
         have HP35 := (Kd.R_seg HO_878001.out (x21_2 : Int) (of_decide_eq_true za) (by have h_ : (x21_2 : Int) < ((x878001_2.length : Int) : Int) := of_decide_eq_true za; first | exact h_ | (have e_ := (Kd.R_reads' HO_878001.out).1; omega) | simpa using h_) (seg := [.string t879]) (j := 0) hcl35 hcc35 (show 1 ≤ 2 from by decide) (x' := (⟨t879, (rd_T33 x878001_2 x21_2).f1⟩ : S33)) (k33_mkM _ _ _ (⟨t879, (rd_T33 x878001_2 x21_2).f1⟩ : S33) ) (fun _ hk => hk)).1
         rw [← Ny880.out] at HP35
         have HQ35 := Aside0.mk HP35
         clear hcl35 hcc35 hfr35 hM35 HP35
         refine hK.out _ _ ⟨(blk_cell BK877.out 0).trans rfl, (blk_cell BK877.out 1).trans rfl, HS2_, HS3_⟩ (fun hHeld => ?_)
         clear hK K
         refine norm_ (a' := ?_) ?_ ?_
         rotate_left
         ·show Act.put _ (some 34) _ = _
          simp only [Act.put, List.setIfInBounds_toArray, List.set_cons_zero, List.set_cons_succ, i64_w, i32_w]
          rfl
         refine pure_ (i := 11) (N := some 35) (v := ?_) (a' := ?_) #[true, true, true, true, true, true, true, true, true, true, true, true, false, false] rfl rfl (any_of HT_.out (by kernel_rfl)) (fun _ _ _ h => h) (Or.inl ⟨by rfl, ?_⟩) ?_ ?_
         rotate_left
         ·intro w'
          go_simp
          with_reducible rfl
         rotate_left
         ·simp only [Act.put, List.setIfInBounds_toArray, List.set_cons_zero, List.set_cons_succ, i64_w, i32_w]
          rfl
         refine pure_ (i := 12) (N := some 36) (v := ?_) (a' := ?_) #[true, true, true, true, true, true, true, true, true, true, true, true, true, false] rfl rfl (any_of HT_.out (by kernel_rfl)) (fun _ _ _ h => h) (Or.inl ⟨by rfl, ?_⟩) ?_ ?_
         rotate_left
         ·intro w'
          go_simp
          with_reducible rfl
         rotate_left
         ·simp only [Act.put, List.setIfInBounds_toArray, List.set_cons_zero, List.set_cons_succ, i64_w, i32_w]
          rfl
         refine last_ (i := 13) (N := none) #[true, true, true, true, true, true, true, true, true, true, true, true, true, true] rfl rfl (one_of HT_.out (by kernel_rfl)) (by decide) (fun K hK => ?_)
         refine skip_ (w1 := ?_) (by rfl) rfl ?_ ?_
         rotate_left
         ·go_simp
          rfl
         refine hK.out _ _ ?_
         clear hK K
         refine done_ (done_of HT_.out (by kernel_rfl)) ?_
         try go_wp2
         go_roundg k2
         case measure => have := HJ2.out; have := HK2.out; omega
         case rel => exact ⟨(wrap64 (x21_2 + 1)), (y880), (.slice (some ⟨go31, 0, none⟩) x878001_2.length co33), zr, H', ⟨by have := HJ2.out; have := HK2.out; omega⟩, ⟨by (with_reducible repeat (first | apply Kd.R_alloc | apply Kd.R_drewN | apply Kd.R_drew)); exact Kd.R_mono (Kd.R_far (p := ⟨go31, (x21_2 : Int).toNat * 2, none⟩) (Kd.R_types HO_878000.out GG31.out (by decide)) (fun _ hk => hk.2) (.string t879)) (fun _ hk => trivial)⟩, ⟨by (with_reducible repeat (first | apply Kd.R_alloc | apply Kd.R_drewN | apply Kd.R_drew)); exact HQ35.out⟩, ⟨by (with_reducible repeat (first | refine blk_drewN ?_ _ | refine blk_drew ?_ | refine blk_alloc ?_ _)); refine blk_far ?_ (by have h_ := Kd.R_ne HO_878001.out BK867.out (by decide); intro e_; exact h_ (by rw [e_]; rfl)) _; (with_reducible repeat (first | refine blk_drewN ?_ _ | refine blk_drew ?_ | refine blk_alloc ?_ _)); exact BK867.out⟩, ⟨by (with_reducible repeat (first | refine blk_drewN ?_ _ | refine blk_drew ?_ | refine blk_alloc ?_ _)); refine blk_far ?_ (by have h_ := Kd.R_ne HO_878001.out BK868.out (by decide); intro e_; exact h_ (by rw [e_]; rfl)) _; (with_reducible repeat (first | refine blk_drewN ?_ _ | refine blk_drew ?_ | refine blk_alloc ?_ _)); exact BK868.out⟩, ⟨by (with_reducible repeat (first | refine blk_drewN ?_ _ | refine blk_drew ?_ | refine blk_alloc ?_ _)); refine blk_far ?_ (by have h_ := Kd.R_ne HO_878001.out BK877.out (by decide); intro e_; exact h_ (by rw [e_]; rfl)) _; (with_reducible repeat (first | refine blk_drewN ?_ _ | refine blk_drew ?_ | refine blk_alloc ?_ _)); exact BK877.out⟩, ⟨by repeat (first | (with_reducible first | exact HB.out | apply below_alloc | apply pw_below_drewN | apply below_drew1 | refine below_set ?_ GB31.out | refine below_set ?_ GE867.out | refine below_set ?_ GE868.out | refine below_set ?_ GE877.out) | exact HB.out)⟩⟩
        ·rw [if_neg c29] at H
         exact absurd H (by simp)
       ·rw [if_neg c28] at H
        exact absurd H (by simp)
      ·rw [if_neg c27] at H
       have c27b0 : decide (x21_2 < (t874.length : Int)) = false := decide_eq_false c27
       clear c27
       simp only [Option.some.injEq, Prod.mk.injEq] at H
       obtain ⟨rfl, rfl⟩ := H
       have hnb36 := NB877_867.out
       have hnc36 := NB867_877.out
       have hnb37 := NB877_868.out
       have hnc37 := NB868_877.out
       have hcz38_0 : wr.cell? ⟨gb877, 0, none⟩ = some (.slice Ao22 t871.length co22) := (blk_cell BK877.out 0).trans rfl
       have hcz38_1 : wr.cell? ⟨gb877, 1, none⟩ = some (u878001) := (blk_cell BK877.out 1).trans rfl
       have hfz38_0 := blk_frozen BK877.out 0
       have hfz38_1 := blk_frozen BK877.out 1
       have hnb39 := NB868_867.out
       have hnc39 := NB867_868.out
       have hcz40_0 : wr.cell? ⟨gb868, 0, none⟩ = some (.slice none 0 0) := (blk_cell BK868.out 0).trans rfl
       have hcz40_1 : wr.cell? ⟨gb868, 1, none⟩ = some (.slice none 0 0) := (blk_cell BK868.out 1).trans rfl
       have hfz40_0 := blk_frozen BK868.out 0
       have hfz40_1 := blk_frozen BK868.out 1
       obtain ⟨Ao41, co41, eo41⟩ := Kd.R_slice HO_878001.out
       subst eo41
       go_wp2
       refine bodyPost_ret (results_cell_row rfl _ _ gb868 26 #[.slice Ao22 t871.length co22, .slice Ao41 x878001_2.length co41] (0, 0) _ rfl (by (with_reducible repeat (first | refine blk_drewN ?_ _ | refine blk_drew ?_ | refine blk_alloc ?_ _)); refine blk_put (cs := #[.slice Ao22 t871.length co22, .slice none 0 0]) ?_ 1 _ rfl; (with_reducible repeat (first | refine blk_drewN ?_ _ | refine blk_drew ?_ | refine blk_alloc ?_ _)); refine blk_put (cs := #[.slice none 0 0, .slice none 0 0]) ?_ 0 _ rfl; (with_reducible repeat (first | refine blk_drewN ?_ _ | refine blk_drew ?_ | refine blk_alloc ?_ _)); exact BK868.out) Try.underlying26 rfl (by kernel_rfl)) rfl ?_
       exact ⟨_, _, by first | rfl | (simp [errW_none, errW_some] <;> rfl) | (simp [*, errW_none, errW_some] <;> rfl), by (with_reducible repeat (first | apply Kd.R_alloc | apply Kd.R_drewN | apply Kd.R_drew)); exact Kd.R_mono (Kd.R_far (p := ⟨gb868, 1, none⟩) (Kd.R_far (p := ⟨gb868, 0, none⟩) (Kd.R_types HO_878000.out BK868.out (by decide)) (fun _ hk => hk.2) (.slice Ao22 t871.length co22)) (fun _ hk => hk.2) (.slice Ao41 x878001_2.length co41)) (fun _ hk => trivial), by (with_reducible repeat (first | apply Kd.R_alloc | apply Kd.R_drewN | apply Kd.R_drew)); exact Kd.R_mono (Kd.R_far (p := ⟨gb868, 1, none⟩) (Kd.R_far (p := ⟨gb868, 0, none⟩) (Kd.R_types HO_878001.out BK868.out (by decide)) (fun _ hk => hk.2) (.slice Ao22 t871.length co22)) (fun _ hk => hk.2) (.slice Ao41 x878001_2.length co41)) (fun _ hk => trivial), by repeat (first | (with_reducible first | exact HB.out | apply below_alloc | apply pw_below_drewN | apply below_drew1 | refine below_set ?_ GE867.out | refine below_set ?_ GE868.out | refine below_set ?_ GE877.out) | exact HB.out)⟩

end Go.Proofs.Ytfcpbgedgedalaa.Q
