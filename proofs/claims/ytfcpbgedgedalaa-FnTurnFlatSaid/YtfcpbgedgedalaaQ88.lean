-- written by px.py (a program of this claim's), over the kit's print. Not trusted: Lean checks it.
import Derived.Test.YtfcpbgedgedalaaQ0
import Derived.Test.YtfcpbgedgedalaaQ11
import Derived.Test.YtfcpbgedgedalaaQ32
import Derived.Test.YtfcpbgedgedalaaQ65
import Derived.Test.YtfcpbgedgedalaaQ66
namespace Go.Proofs.Ytfcpbgedgedalaa.Q
open Go.RowKit Go.Proofs.YtfcpbgedgedalaaL.PrintWords Go.Proofs.YtfcpbgedgedalaaL.PrintLast Go.Proofs.YtfcpbgedgedalaaL.PrintMore
attribute [local go_sem] max2_int min2_int max_two min_two max_three min_three max_four min_four   -- for this text's walks alone
set_option linter.unusedVariables false
set_option linter.unusedSimpArgs false

/-! ### spec_TurnFlat: function 45 -/
mutual
def spec_TurnFlat.j0 : Nat → List (S107) → Bool → List Int → List (S33) → Option (List Int × (List (S33)))
 | 0, _, _, _, _ => none
 | k + 1, x0, x14, x903000, x903001 => if x14 = true then (some (([] : List Int), ([] : List (S33)))) else ((spec_copyFlat.f x903000 x903001).bind fun bt906 => (spec_TurnFlat.l0 k x0 0 bt906.1 bt906.2))
def spec_TurnFlat.l0 : Nat → List (S107) → Int → List Int → List (S33) → Option (List Int × (List (S33)))
 | 0, _, _, _, _ => none
 | k + 1, x0, x6, x913000, x913001 => if x6 < (x913001.length : Int) then (if 0 ≤ x6 then ((spec_turned.f k x0 ((rd_T33 x913001 x6).f0)).bind fun t914 => (spec_TurnFlat.l0 k x0 (wrap64 (x6 + 1)) x913000 (x913001.set (x6 : Int).toNat (⟨t914, (rd_T33 x913001 x6).f1⟩ : S33)))) else (none)) else (some (x913000, x913001))
end
def spec_TurnFlat.f (k : Nat) (l0 : List (S107)) (l1_0 : List Int) (l1_1 : List (S33)) : Option (List Int × (List (S33))) := (spec_validTurns.f k l0).bind fun t904 => (if t904 = true then ((spec_validFlat.f k l1_0 l1_1).bind fun t905 => (spec_TurnFlat.j0 k l0 (!t905) l1_0 l1_1)) else (spec_TurnFlat.j0 k l0 true l1_0 l1_1))
theorem spec_TurnFlat.mono_l : ∀ k, (∀ y0 y1 y2 y3, LeO (spec_TurnFlat.j0 k y0 y1 y2 y3) (spec_TurnFlat.j0 (k + 1) y0 y1 y2 y3)) ∧ (∀ y0 y1 y2 y3, LeO (spec_TurnFlat.l0 k y0 y1 y2 y3) (spec_TurnFlat.l0 (k + 1) y0 y1 y2 y3))
 | 0 => ⟨fun _ _ _ _ r h => by simp [spec_TurnFlat.j0] at h, fun _ _ _ _ r h => by simp [spec_TurnFlat.l0] at h⟩
 | k + 1 => by
  obtain ⟨ih0, ih1⟩ := spec_TurnFlat.mono_l k
  refine ⟨?_, ?_⟩
  ·intro y0 y1 y2 y3
   unfold spec_TurnFlat.j0
   repeat' first
   | (with_reducible exact ih0 _ _ _ _)
   | (with_reducible exact ih1 _ _ _ _)
   | (with_reducible exact spec_turned.mono _ _ _)
   | (with_reducible exact spec_validFlat.mono _ _ _)
   | (with_reducible exact spec_validTurns.mono _ _)
   | (with_reducible exact LeO.refl _)
   | (with_reducible exact LeO.none _)
   | (with_reducible refine LeO.ite ?_ ?_)
   | (with_reducible refine LeO.bind ?_ (fun _ => ?_))
   | exact ih0 _ _ _ _
   | exact ih1 _ _ _ _
   | exact spec_turned.mono _ _ _
   | exact spec_validFlat.mono _ _ _
   | exact spec_validTurns.mono _ _
   | exact LeO.none _
   | refine LeO.ite ?_ ?_
   | refine LeO.bind ?_ (fun _ => ?_)
  ·intro y0 y1 y2 y3
   unfold spec_TurnFlat.l0
   repeat' first
   | (with_reducible exact ih0 _ _ _ _)
   | (with_reducible exact ih1 _ _ _ _)
   | (with_reducible exact spec_turned.mono _ _ _)
   | (with_reducible exact spec_validFlat.mono _ _ _)
   | (with_reducible exact spec_validTurns.mono _ _)
   | (with_reducible exact LeO.refl _)
   | (with_reducible exact LeO.none _)
   | (with_reducible refine LeO.ite ?_ ?_)
   | (with_reducible refine LeO.bind ?_ (fun _ => ?_))
   | exact ih0 _ _ _ _
   | exact ih1 _ _ _ _
   | exact spec_turned.mono _ _ _
   | exact spec_validFlat.mono _ _ _
   | exact spec_validTurns.mono _ _
   | exact LeO.none _
   | refine LeO.ite ?_ ?_
   | refine LeO.bind ?_ (fun _ => ?_)
theorem spec_TurnFlat.mono : ∀ a0 a1 a2 k, LeO (spec_TurnFlat.f k a0 a1 a2) (spec_TurnFlat.f (k + 1) a0 a1 a2) := by
 intro a0 a1 a2 k
 obtain ⟨ih0, ih1⟩ := spec_TurnFlat.mono_l k
 unfold spec_TurnFlat.f
 repeat' first
   | (with_reducible exact ih0 _ _ _ _)
   | (with_reducible exact ih1 _ _ _ _)
   | (with_reducible exact spec_turned.mono _ _ _)
   | (with_reducible exact spec_validFlat.mono _ _ _)
   | (with_reducible exact spec_validTurns.mono _ _)
   | (with_reducible exact LeO.refl _)
   | (with_reducible exact LeO.none _)
   | (with_reducible refine LeO.ite ?_ ?_)
   | (with_reducible refine LeO.bind ?_ (fun _ => ?_))
   | exact ih0 _ _ _ _
   | exact ih1 _ _ _ _
   | exact spec_turned.mono _ _ _
   | exact spec_validFlat.mono _ _ _
   | exact spec_validTurns.mono _ _
   | exact LeO.none _
   | refine LeO.ite ?_ ?_
   | refine LeO.bind ?_ (fun _ => ?_)
def spec_TurnFlat.T7 : Bool × List (List Nat × List Nat) := (true, [([], []), ([0], [0]), ([], []), ([], []), ([], []), ([4], [4]), ([], []), ([5, 6], [5, 6]), ([7], [7]), ([8], [8]), ([3, 9], [3, 9]), ([1, 2, 0, 1, 2, 3, 4, 5, 6, 7, 8, 9, 10], [1, 2]), ([11, 0, 1, 2, 3, 4, 5, 6, 7, 8, 9, 10], [11]), ([12, 10, 10, 0, 1, 2, 3, 4, 5, 6, 7, 8, 9, 10], [10, 12])])
def spec_TurnFlat.B7 : List Nat := [0, 1, 0, 0, 0, 16, 0, 112, 240, 496, 1016, 2047, 4095, 8191]
theorem spec_TurnFlat.tab7 : rtab .any (opsOf Try.f45 7) = spec_TurnFlat.T7 := by kernel_rfl
theorem spec_TurnFlat.bits7 : waitsOk spec_TurnFlat.T7.2 spec_TurnFlat.B7 = true := by kernel_rfl
set_option maxHeartbeats 8000000 in
set_option maxRecDepth 100000 in
theorem spec_TurnFlat.calls (k : Nat) (A0 : Option Addr) (c0 : Nat) (l0 : List (S107)) (A1_0 : Option Addr) (c1_0 : Nat) (l1_0 : List Int) (A1_1 : Option Addr) (c1_1 : Nat) (l1_1 : List (S33)) (r1 : List Int) (r2 : List (S33)) (w : World) (hr0 : Kd.C k107 w A0 l0.length l0) (hc0 : l0.length ≤ c0) (hr1_0 : Kd.C (Kd.int .i64) w A1_0 l1_0.length l1_0) (hc1_0 : l1_0.length ≤ c1_0) (hr1_1 : Kd.C k33 w A1_1 l1_1.length l1_1) (hc1_1 : l1_1.length ≤ c1_1) (h : spec_TurnFlat.f k l0 l1_0 l1_1 = some (r1, r2)) :
  Calls Try.prog 45 #[.slice A0 l0.length c0, .agg #[.slice A1_0 l1_0.length c1_0, .slice A1_1 l1_1.length c1_1]] w fun e w' => ∃ v0_ v1_ : Value, e = .returned (.agg #[v0_, v1_]) ∧ Kd.R (Kd.int .i64) 3 w' w.heap.size (fun _ => True) v0_ r1 ∧ Kd.R k33 33 w' w.heap.size (fun _ => True) v1_ r2 ∧ Below w.heap.size w w' := by
 have hu26 := Try.underlying26
 have HR0 := Aside0.mk hr0
 have HC0 := Aside0.mk hc0
 clear hr0 hc0
 have HR1_0 := Aside0.mk hr1_0
 have HC1_0 := Aside0.mk hc1_0
 clear hr1_0 hc1_0
 have HR1_1 := Aside0.mk hr1_1
 have HC1_1 := Aside0.mk hc1_1
 clear hr1_1 hc1_1
 have HB := Aside0.mk (Below.refl w.heap.size w)
 have H : ((spec_validTurns.f k l0).bind fun t904 => (if t904 = true then ((spec_validFlat.f k l1_0 l1_1).bind fun t905 => (spec_TurnFlat.j0 k l0 (!t905) l1_0 l1_1)) else (spec_TurnFlat.j0 k l0 true l1_0 l1_1))) = some (r1, r2) := h
 clear h
 have HC3 := Aside0.mk H
 clear H
 go_enter Try.func45, Try.ntmps45
 go_upto_region 1 with (first | ((with_reducible refine gate_dst (N := 3) rfl ?_); refine box_event ?hg (N := 3) ?hd (cs := #[.slice A1_0 l1_0.length c1_0, .slice A1_1 l1_1.length c1_1]) (t := 26) ?hr ?_; (case hd => rfl); (case hg => rfl); (case hr => first | (go_simp; done) | (go_simp; rfl)); intro gb902 hg w4 hbox hb; have n0_ := Aside0.mk (below_step (zB HB) hb); have n1_ := Aside0.mk (hbox); have n2_ := Aside0.mk ((by rw [hg]; exact (below_size (zB HB)) : w.heap.size ≤ gb902)); have n3_ := Aside0.mk ((by rw [hg]; exact (below_size (zB HB)) : w.heap.size ≤ gb902)); clear HB; have HB := n0_; have BK902 := n1_; have GW902 := n2_; have GE902 := n3_; clear n0_ n1_ n2_ n3_; clear hb hbox hg) | ((with_reducible refine gate_dst (N := 4) rfl ?_); refine box_event ?hg (N := 4) ?hd (cs := #[.slice none 0 0, .slice none 0 0]) (t := 26) ?hr ?_; (case hd => rfl); (case hg => rfl); (case hr => first | (go_simp; done) | (go_simp; rfl)); intro gb903 hg w5 hbox hb; have n0_ := Aside0.mk (blk_below (g := gb902) (o := .cells #[.slice A1_0 l1_0.length c1_0, .slice A1_1 l1_1.length c1_1] 26 (0, 0)) (zb BK902) hb); have n1_ := Aside0.mk (below_step (zB HB) hb); have n2_ := Aside0.mk (hbox); have n3_ := Aside0.mk ((by rw [hg]; exact (below_size (zB HB)) : w.heap.size ≤ gb903)); have n4_ := Aside0.mk ((by rw [hg]; exact (below_size (zB HB)) : w.heap.size ≤ gb903)); have n5_ := Aside0.mk ((by rw [hg]; exact Nat.ne_of_lt (blk_lt (g := gb902) (o := .cells #[.slice A1_0 l1_0.length c1_0, .slice A1_1 l1_1.length c1_1] 26 (0, 0)) (zb BK902)) : gb902 ≠ gb903)); have n6_ := Aside0.mk ((by rw [hg]; exact Nat.ne_of_gt (blk_lt (g := gb902) (o := .cells #[.slice A1_0 l1_0.length c1_0, .slice A1_1 l1_1.length c1_1] 26 (0, 0)) (zb BK902)) : gb903 ≠ gb902)); clear BK902; clear HB; have BK902 := n0_; have HB := n1_; have BK903 := n2_; have GW903 := n3_; have GE903 := n4_; have NB902_903 := n5_; have NB903_902 := n6_; clear n0_ n1_ n2_ n3_ n4_ n5_ n6_; clear hb hbox hg))
 (try simp only [Act.put, List.setIfInBounds_toArray, List.set_cons_zero, List.set_cons_succ])
 go_cut [14] (fun v14 wc => ∃ (kq : Nat) (x14_2 : Bool), v14 = .bool x14_2 ∧ Aside0 (spec_TurnFlat.j0 kq l0 x14_2 l1_0 l1_1 = some (r1, r2)) ∧ Aside0 (kq ≤ k) ∧ Aside0 (wc.heap[gb902]? = some (.cells #[(.slice A1_0 l1_0.length c1_0), (.slice A1_1 l1_1.length c1_1)] 26 (0, 0))) ∧ Aside0 (wc.heap[gb903]? = some (.cells #[(.slice none 0 0), (.slice none 0 0)] 26 (0, 0))) ∧ Aside0 (Below w.heap.size w wc))
 case first =>
  have H := HC3.out
  clear HC3
  replace H := Option.bind_eq_some_iff.mp H
  obtain ⟨t904, A60, H⟩ := H
  replace H : (if t904 = true then ((spec_validFlat.f k l1_0 l1_1).bind fun t905 => (spec_TurnFlat.j0 k l0 (!t905) l1_0 l1_1)) else (spec_TurnFlat.j0 k l0 true l1_0 l1_1)) = some (r1, r2) := H
  have A6 := Aside0.mk A60
  clear A60
  by_cases c7 : t904 = true
  ·subst c7
   have H1 : ((spec_validFlat.f k l1_0 l1_1).bind fun t905 => (spec_TurnFlat.j0 k l0 (!t905) l1_0 l1_1)) = some (r1, r2) := by rw [if_pos rfl] at H; exact H
   clear H
   have H := H1
   clear H1
   replace H := Option.bind_eq_some_iff.mp H
   obtain ⟨t905, A80, H⟩ := H
   replace H : (spec_TurnFlat.j0 k l0 (!t905) l1_0 l1_1) = some (r1, r2) := H
   have A8 := Aside0.mk A80
   clear A80
   have H' := Aside0.mk H
   clear H
   go_wp2_with (first | ((with_reducible refine gate_callee (f := 78) rfl ?_); refine goesL_ (some 8) rfl rfl Try.func78 (by kernel_rfl) rfl #[.slice A0 l0.length c0] rfl zl ?_; (with_reducible refine (spec_validTurns.calls k _ _ l0 true _ ?side1 ?side2 A6.out).mono ?_); (case side1 => repeat (first | exact (Kd.C_below HR0.out HB.out) | (with_reducible refine Kd.C_alloc ?_ _) | (with_reducible refine Kd.C_drewN ?_ _) | (with_reducible refine Kd.C_drew ?_))); (case side2 => exact HC0.out); rintro e w' ⟨rfl, ⟨nd, rfl⟩⟩; refine ⟨_, rfl, ?_⟩; have hnb9 := NB902_903.out; have hnc9 := NB903_902.out; have hcz10_0 : w5.cell? ⟨gb902, 0, none⟩ = some (.slice A1_0 l1_0.length c1_0) := (blk_cell BK902.out 0).trans rfl; have hcz10_1 : w5.cell? ⟨gb902, 1, none⟩ = some (.slice A1_1 l1_1.length c1_1) := (blk_cell BK902.out 1).trans rfl; have hfz10_0 := blk_frozen BK902.out 0; have hfz10_1 := blk_frozen BK902.out 1) | (go_at_call 57; (with_reducible refine (spec_validFlat.calls k _ _ l1_0 _ _ l1_1 t905 _ ?side1 ?side2 ?side3 ?side4 A8.out).mono ?_); (case side1 => repeat (first | exact (Kd.C_below HR1_0.out (zB HB)) | (with_reducible refine Kd.C_alloc ?_ _) | (with_reducible refine Kd.C_drewN ?_ _) | (with_reducible refine Kd.C_drew ?_))); (case side2 => exact HC1_0.out); (case side3 => repeat (first | exact (Kd.C_below HR1_1.out (zB HB)) | (with_reducible refine Kd.C_alloc ?_ _) | (with_reducible refine Kd.C_drewN ?_ _) | (with_reducible refine Kd.C_drew ?_))); (case side4 => exact HC1_1.out); rintro e w11 ⟨rfl, hb⟩; have n0_ := Aside0.mk (blk_below (g := gb902) (o := .cells #[.slice A1_0 l1_0.length c1_0, .slice A1_1 l1_1.length c1_1] 26 (0, 0)) (zb BK902) hb); have n1_ := Aside0.mk (blk_below (g := gb903) (o := .cells #[.slice none 0 0, .slice none 0 0] 26 (0, 0)) (zb BK903) hb); have n2_ := Aside0.mk (below_step (zB HB) hb); clear BK902; clear BK903; clear HB; have BK902 := n0_; have BK903 := n1_; have HB := n2_; clear n0_ n1_ n2_; (try clear hb); (try clear hb2); (try clear hk); (try clear hi)))
   go_meet
   case rel => exact ⟨_, (!t905), zr, H', ⟨by first | omega | exact Nat.le_refl _⟩, ⟨by (with_reducible repeat (first | refine blk_drewN ?_ _ | refine blk_drew ?_ | refine blk_alloc ?_ _)); exact BK902.out⟩, ⟨by (with_reducible repeat (first | refine blk_drewN ?_ _ | refine blk_drew ?_ | refine blk_alloc ?_ _)); exact BK903.out⟩, ⟨by repeat (first | (with_reducible first | exact HB.out | apply below_alloc | apply pw_below_drewN | apply below_drew1 | refine below_set ?_ GE902.out | refine below_set ?_ GE903.out) | exact HB.out)⟩⟩
  ·replace c7 := Bool.eq_false_iff.mpr c7
   subst c7
   have H1 : (spec_TurnFlat.j0 k l0 true l1_0 l1_1) = some (r1, r2) := by rw [if_neg (show ¬ (false = true) by decide)] at H; exact H
   clear H
   have H := H1
   clear H1
   have H' := Aside0.mk H
   clear H
   go_wp2_with (first | ((with_reducible refine gate_callee (f := 78) rfl ?_); refine goesL_ (some 8) rfl rfl Try.func78 (by kernel_rfl) rfl #[.slice A0 l0.length c0] rfl zl ?_; (with_reducible refine (spec_validTurns.calls k _ _ l0 false _ ?side1 ?side2 A6.out).mono ?_); (case side1 => repeat (first | exact (Kd.C_below HR0.out HB.out) | (with_reducible refine Kd.C_alloc ?_ _) | (with_reducible refine Kd.C_drewN ?_ _) | (with_reducible refine Kd.C_drew ?_))); (case side2 => exact HC0.out); rintro e w' ⟨rfl, ⟨nd, rfl⟩⟩; refine ⟨_, rfl, ?_⟩))
   go_meet
   case rel => exact ⟨_, (true), zr, H', ⟨by first | omega | exact Nat.le_refl _⟩, ⟨by (with_reducible repeat (first | refine blk_drewN ?_ _ | refine blk_drew ?_ | refine blk_alloc ?_ _)); exact BK902.out⟩, ⟨by (with_reducible repeat (first | refine blk_drewN ?_ _ | refine blk_drew ?_ | refine blk_alloc ?_ _)); exact BK903.out⟩, ⟨by repeat (first | (with_reducible first | exact HB.out | apply below_alloc | apply pw_below_drewN | apply below_drew1 | refine below_set ?_ GE902.out | refine below_set ?_ GE903.out) | exact HB.out)⟩⟩
 case rest =>
  clear HC3
  try clear c1
  try clear p2
  try clear c4
  try clear c7
  try clear c9
  try clear hcz10_0
  try clear hcz10_1
  try clear hfz10_0
  try clear hfz10_1
  obtain ⟨kq, x14_2, rfl, HA, HJ2, BK902, BK903, HB⟩ := hcut
  cases kq with
  | zero => exact absurd HA.out (by simp [spec_TurnFlat.j0])
  | succ kj2 =>
   have H := HA.out
   clear HA
   simp only [spec_TurnFlat.j0] at H
   by_cases c12 : x14_2 = true
   ·subst c12
    have H1 : (some (([] : List Int), ([] : List (S33)))) = some (r1, r2) := by rw [if_pos rfl] at H; exact H
    clear H
    have H := H1
    clear H1
    simp only [Option.some.injEq, Prod.mk.injEq] at H
    obtain ⟨rfl, rfl⟩ := H
    have hnb13 := NB903_902.out
    have hnc13 := NB902_903.out
    have hcz14_0 : wc.cell? ⟨gb903, 0, none⟩ = some (.slice none 0 0) := (blk_cell BK903.out 0).trans rfl
    have hcz14_1 : wc.cell? ⟨gb903, 1, none⟩ = some (.slice none 0 0) := (blk_cell BK903.out 1).trans rfl
    have hfz14_0 := blk_frozen BK903.out 0
    have hfz14_1 := blk_frozen BK903.out 1
    go_wp2
    refine bodyPost_ret (results_cell_row rfl _ _ gb903 26 #[.slice none 0 0, .slice none 0 0] (0, 0) _ rfl (by (with_reducible repeat (first | refine blk_drewN ?_ _ | refine blk_drew ?_ | refine blk_alloc ?_ _)); refine blk_put (cs := #[.slice none 0 0, .slice none 0 0]) ?_ 1 _ rfl; (with_reducible repeat (first | refine blk_drewN ?_ _ | refine blk_drew ?_ | refine blk_alloc ?_ _)); refine blk_put (cs := #[.slice none 0 0, .slice none 0 0]) ?_ 0 _ rfl; (with_reducible repeat (first | refine blk_drewN ?_ _ | refine blk_drew ?_ | refine blk_alloc ?_ _)); exact BK903.out) Try.underlying26 rfl (by kernel_rfl)) rfl ?_
    exact ⟨_, _, by first | rfl | (simp [errW_none, errW_some] <;> rfl) | (simp [*, errW_none, errW_some] <;> rfl), by first | exact Kd.R_nil _ _ _ _ _ | exact Kd.N_nil _ _ _ _ _ | exact Kd.V_nil _ _ _ _ _ | exact Kd.Q_nil _ _ _ _ _ | exact Kd.S_nil _ _ _ _ _, by first | exact Kd.R_nil _ _ _ _ _ | exact Kd.N_nil _ _ _ _ _ | exact Kd.V_nil _ _ _ _ _ | exact Kd.Q_nil _ _ _ _ _ | exact Kd.S_nil _ _ _ _ _, by repeat (first | (with_reducible first | exact HB.out | apply below_alloc | apply pw_below_drewN | apply below_drew1 | refine below_set ?_ GE902.out | refine below_set ?_ GE903.out) | exact HB.out)⟩
   ·replace c12 := Bool.eq_false_iff.mpr c12
    subst c12
    have H1 : ((spec_copyFlat.f l1_0 l1_1).bind fun bt906 => (spec_TurnFlat.l0 kj2 l0 0 bt906.1 bt906.2)) = some (r1, r2) := by rw [if_neg (show ¬ (false = true) by decide)] at H; exact H
    clear H
    have H := H1
    clear H1
    replace H := Option.bind_eq_some_iff.mp H
    obtain ⟨⟨t906, t909⟩, A150, H⟩ := H
    replace H : (spec_TurnFlat.l0 kj2 l0 0 t906 t909) = some (r1, r2) := H
    have A15 := Aside0.mk A150
    clear A150
    have H' := Aside0.mk H
    clear H
    have hnb16 := NB902_903.out
    have hnc16 := NB903_902.out
    have hcz17_0 : wc.cell? ⟨gb902, 0, none⟩ = some (.slice A1_0 l1_0.length c1_0) := (blk_cell BK902.out 0).trans rfl
    have hcz17_1 : wc.cell? ⟨gb902, 1, none⟩ = some (.slice A1_1 l1_1.length c1_1) := (blk_cell BK902.out 1).trans rfl
    have hfz17_0 := blk_frozen BK902.out 0
    have hfz17_1 := blk_frozen BK902.out 1
    go_wp2_with (first | ((with_reducible refine gate_callee (f := 92) rfl ?_); refine goesL_ (some 17) rfl rfl Try.func92 (by kernel_rfl) rfl #[.agg #[.slice A1_0 l1_0.length c1_0, .slice A1_1 l1_1.length c1_1]] rfl zl ?_; (with_reducible refine (spec_copyFlat.calls _ _ l1_0 _ _ l1_1 t906 t909 _ ?side1 ?side2 ?side3 ?side4 A15.out).mono ?_); (case side1 => repeat (first | exact (Kd.C_below HR1_0.out HB.out) | (with_reducible refine Kd.C_alloc ?_ _) | (with_reducible refine Kd.C_drewN ?_ _) | (with_reducible refine Kd.C_drew ?_))); (case side2 => exact HC1_0.out); (case side3 => repeat (first | exact (Kd.C_below HR1_1.out HB.out) | (with_reducible refine Kd.C_alloc ?_ _) | (with_reducible refine Kd.C_drewN ?_ _) | (with_reducible refine Kd.C_drew ?_))); (case side4 => exact HC1_1.out); rintro e w18 ⟨v907, v910, rfl, ho0, ho1, hb⟩; refine ⟨_, rfl, ?_⟩; have n0_ := Aside0.mk (Kd.R_lower ho0 (below_size (zB HB))); have n1_ := Aside0.mk (Kd.R_lower ho1 (below_size (zB HB))); have n2_ := Aside0.mk (blk_below (g := gb902) (o := .cells #[.slice A1_0 l1_0.length c1_0, .slice A1_1 l1_1.length c1_1] 26 (0, 0)) (zb BK902) hb); have n3_ := Aside0.mk (blk_below (g := gb903) (o := .cells #[.slice none 0 0, .slice none 0 0] 26 (0, 0)) (zb BK903) hb); have n4_ := Aside0.mk (below_step (zB HB) hb); clear BK902; clear BK903; clear HB; have HO908 := n0_; have HO911 := n1_; have BK902 := n2_; have BK903 := n3_; have HB := n4_; clear n0_ n1_ n2_ n3_ n4_; (try clear hb); (try clear hb2); (try clear hk); (try clear hi); (try clear ho0); (try clear ho1)) | ((with_reducible refine gate_dst (N := 5) rfl ?_); refine box_event ?hg (N := 5) ?hd (cs := #[.slice none 0 0, .slice none 0 0]) (t := 26) ?hr ?_; (case hd => rfl); (case hg => rfl); (case hr => first | (go_simp; done) | (go_simp; rfl)); intro gb912 hg w19 hbox hb; have n0_ := Aside0.mk (Kd.R_below (zo HO908) hb); have n1_ := Aside0.mk (Kd.R_below (zo HO911) hb); have n2_ := Aside0.mk (blk_below (g := gb902) (o := .cells #[.slice A1_0 l1_0.length c1_0, .slice A1_1 l1_1.length c1_1] 26 (0, 0)) (zb BK902) hb); have n3_ := Aside0.mk (blk_below (g := gb903) (o := .cells #[.slice none 0 0, .slice none 0 0] 26 (0, 0)) (zb BK903) hb); have n4_ := Aside0.mk (below_step (zB HB) hb); have n5_ := Aside0.mk (hbox); have n6_ := Aside0.mk ((by rw [hg]; exact (below_size (zB HB)) : w.heap.size ≤ gb912)); have n7_ := Aside0.mk ((by rw [hg]; exact (below_size (zB HB)) : w.heap.size ≤ gb912)); have n8_ := Aside0.mk ((by rw [hg]; exact Nat.ne_of_lt (blk_lt (g := gb902) (o := .cells #[.slice A1_0 l1_0.length c1_0, .slice A1_1 l1_1.length c1_1] 26 (0, 0)) (zb BK902)) : gb902 ≠ gb912)); have n9_ := Aside0.mk ((by rw [hg]; exact Nat.ne_of_gt (blk_lt (g := gb902) (o := .cells #[.slice A1_0 l1_0.length c1_0, .slice A1_1 l1_1.length c1_1] 26 (0, 0)) (zb BK902)) : gb912 ≠ gb902)); have n10_ := Aside0.mk ((by rw [hg]; exact Nat.ne_of_lt (blk_lt (g := gb903) (o := .cells #[.slice none 0 0, .slice none 0 0] 26 (0, 0)) (zb BK903)) : gb903 ≠ gb912)); have n11_ := Aside0.mk ((by rw [hg]; exact Nat.ne_of_gt (blk_lt (g := gb903) (o := .cells #[.slice none 0 0, .slice none 0 0] 26 (0, 0)) (zb BK903)) : gb912 ≠ gb903)); clear HO908; clear HO911; clear BK902; clear BK903; clear HB; have HO908 := n0_; have HO911 := n1_; have BK902 := n2_; have BK903 := n3_; have HB := n4_; have BK912 := n5_; have GW912 := n6_; have GE912 := n7_; have NB902_912 := n8_; have NB912_902 := n9_; have NB903_912 := n10_; have NB912_903 := n11_; clear n0_ n1_ n2_ n3_ n4_ n5_ n6_ n7_ n8_ n9_ n10_ n11_; clear hb hbox hg; obtain ⟨Ao20, co20, eo20⟩ := Kd.R_slice HO908.out; subst eo20; have hnb21 := NB912_902.out; have hnc21 := NB902_912.out; have hnb22 := NB912_903.out; have hnc22 := NB903_912.out; have hcz23_0 : w19.cell? ⟨gb912, 0, none⟩ = some (.slice none 0 0) := (blk_cell BK912.out 0).trans rfl; have hcz23_1 : w19.cell? ⟨gb912, 1, none⟩ = some (.slice none 0 0) := (blk_cell BK912.out 1).trans rfl; have hfz23_0 := blk_frozen BK912.out 0; have hfz23_1 := blk_frozen BK912.out 1; obtain ⟨Ao24, co24, eo24⟩ := Kd.R_slice HO911.out; subst eo24))
    go_loopg [6] kj2 (fun kq v6 w' => ∃ (x6_2 : Int) (x913001_2 : List (S33)) (u913001 : Value), v6 = .int .i64 x6_2 ∧ Aside0 (spec_TurnFlat.l0 kq l0 x6_2 t906 x913001_2 = some (r1, r2)) ∧ Aside0 (kq ≤ kj2) ∧ Aside0 (Kd.R (Kd.int .i64) 3 w' w.heap.size (fun _ => True) (.slice Ao20 t906.length co20) t906) ∧ Aside0 (Kd.R k33 33 w' w.heap.size (fun _ => True) u913001 x913001_2) ∧ Aside0 (w'.heap[gb902]? = some (.cells #[(.slice A1_0 l1_0.length c1_0), (.slice A1_1 l1_1.length c1_1)] 26 (0, 0))) ∧ Aside0 (w'.heap[gb903]? = some (.cells #[(.slice none 0 0), (.slice none 0 0)] 26 (0, 0))) ∧ Aside0 (w'.heap[gb912]? = some (.cells #[(.slice Ao20 t906.length co20), u913001] 26 (0, 0))) ∧ Aside0 (Below w.heap.size w w'))
    case atStart => exact ⟨(0), (t909), (.slice Ao24 t909.length co24), zr, H', ⟨Nat.le_refl _⟩, ⟨by (with_reducible repeat (first | apply Kd.R_alloc | apply Kd.R_drewN | apply Kd.R_drew)); exact Kd.R_mono (Kd.R_far (p := ⟨gb912, 1, none⟩) (Kd.R_far (p := ⟨gb912, 0, none⟩) (Kd.R_types HO908.out BK912.out (by decide)) (fun _ hk => hk.2) (.slice Ao20 t906.length co20)) (fun _ hk => hk.2) (.slice Ao24 t909.length co24)) (fun _ hk => trivial)⟩, ⟨by (with_reducible repeat (first | apply Kd.R_alloc | apply Kd.R_drewN | apply Kd.R_drew)); exact Kd.R_mono (Kd.R_far (p := ⟨gb912, 1, none⟩) (Kd.R_far (p := ⟨gb912, 0, none⟩) (Kd.R_types HO911.out BK912.out (by decide)) (fun _ hk => hk.2) (.slice Ao20 t906.length co20)) (fun _ hk => hk.2) (.slice Ao24 t909.length co24)) (fun _ hk => trivial)⟩, ⟨by (with_reducible repeat (first | refine blk_drewN ?_ _ | refine blk_drew ?_ | refine blk_alloc ?_ _)); refine blk_far ?_ NB902_912.out _; (with_reducible repeat (first | refine blk_drewN ?_ _ | refine blk_drew ?_ | refine blk_alloc ?_ _)); refine blk_far ?_ NB902_912.out _; (with_reducible repeat (first | refine blk_drewN ?_ _ | refine blk_drew ?_ | refine blk_alloc ?_ _)); exact BK902.out⟩, ⟨by (with_reducible repeat (first | refine blk_drewN ?_ _ | refine blk_drew ?_ | refine blk_alloc ?_ _)); refine blk_far ?_ NB903_912.out _; (with_reducible repeat (first | refine blk_drewN ?_ _ | refine blk_drew ?_ | refine blk_alloc ?_ _)); refine blk_far ?_ NB903_912.out _; (with_reducible repeat (first | refine blk_drewN ?_ _ | refine blk_drew ?_ | refine blk_alloc ?_ _)); exact BK903.out⟩, ⟨by (with_reducible repeat (first | refine blk_drewN ?_ _ | refine blk_drew ?_ | refine blk_alloc ?_ _)); refine blk_put (cs := #[.slice Ao20 t906.length co20, .slice none 0 0]) ?_ 1 _ rfl; (with_reducible repeat (first | refine blk_drewN ?_ _ | refine blk_drew ?_ | refine blk_alloc ?_ _)); refine blk_put (cs := #[.slice none 0 0, .slice none 0 0]) ?_ 0 _ rfl; (with_reducible repeat (first | refine blk_drewN ?_ _ | refine blk_drew ?_ | refine blk_alloc ?_ _)); exact BK912.out⟩, ⟨by repeat (first | (with_reducible first | exact HB.out | apply below_alloc | apply pw_below_drewN | apply below_drew1 | refine below_set ?_ GE902.out | refine below_set ?_ GE903.out | refine below_set ?_ GE912.out) | exact HB.out)⟩⟩
    case round =>
     clear H'
     try clear c1
     try clear c2
     try clear p2
     try clear c4
     try clear c7
     try clear c9
     try clear c12
     try clear c13
     try clear c16
     try clear c21
     try clear c22
     try clear hcz10_0
     try clear hcz10_1
     try clear hcz14_0
     try clear hcz14_1
     try clear hcz17_0
     try clear hcz17_1
     try clear hcz23_0
     try clear hcz23_1
     try clear hfz10_0
     try clear hfz10_1
     try clear hfz14_0
     try clear hfz14_1
     try clear hfz17_0
     try clear hfz17_1
     try clear hfz23_0
     try clear hfz23_1
     try clear p2
     obtain ⟨x6_2, x913001_2, u913001, rfl, HA, HK2, HO_913000, HO_913001, BK902, BK903, BK912, HB⟩ := hrel
     cases gk with
     | zero => exact absurd HA.out (by simp [spec_TurnFlat.l0])
     | succ k2 =>
      have H := HA.out
      clear HA
      simp only [spec_TurnFlat.l0] at H
      by_cases c25 : x6_2 < (x913001_2.length : Int)
      ·rw [if_pos c25] at H
       have c25b0 : decide (x6_2 < (x913001_2.length : Int)) = true := decide_eq_true c25
       clear c25
       by_cases c26 : 0 ≤ x6_2
       ·rw [if_pos c26] at H
        have c26b0 : decide (0 ≤ x6_2) = true := decide_eq_true c26
        clear c26
        replace H := Option.bind_eq_some_iff.mp H
        obtain ⟨t914, A270, H⟩ := H
        replace H : (spec_TurnFlat.l0 k2 l0 (wrap64 (x6_2 + 1)) t906 (x913001_2.set (x6_2 : Int).toNat (⟨t914, (rd_T33 x913001_2 x6_2).f1⟩ : S33))) = some (r1, r2) := H
        have A27 := Aside0.mk A270
        clear A270
        obtain ⟨y915, hy915⟩ : ∃ y_ : List (S33), y_ = (x913001_2.set (x6_2 : Int).toNat (⟨t914, (rd_T33 x913001_2 x6_2).f1⟩ : S33)) := ⟨_, rfl⟩
        replace H : (spec_TurnFlat.l0 k2 l0 (wrap64 (x6_2 + 1)) t906 y915) = some (r1, r2) := by first | (rw [hy915]; with_reducible exact H) | (have H2_ := (Option.bind_some _ _).symm.trans H; rw [hy915]; with_reducible exact H2_) | (have H2_ := (Option.bind_some _ _).symm.trans H; with_reducible exact H2_) | with_reducible exact H | (rw [hy915]; exact H) | exact H
        have Ny915 := Aside0.mk hy915
        clear hy915
        have H' := Aside0.mk H
        clear H
        have hnb29 := NB912_902.out
        have hnc29 := NB902_912.out
        have hnb30 := NB912_903.out
        have hnc30 := NB903_912.out
        have hcz31_0 : wr.cell? ⟨gb912, 0, none⟩ = some (.slice Ao20 t906.length co20) := (blk_cell BK912.out 0).trans rfl
        have hcz31_1 : wr.cell? ⟨gb912, 1, none⟩ = some (u913001) := (blk_cell BK912.out 1).trans rfl
        have hfz31_0 := blk_frozen BK912.out 0
        have hfz31_1 := blk_frozen BK912.out 1
        obtain ⟨Ao32, co32, eo32⟩ := Kd.R_slice HO_913001.out
        subst eo32
        try go_wp2
        have n0_ := Aside0.mk (Kd.R_drew HO_913000.out)
        have n1_ := Aside0.mk (Kd.R_drew HO_913001.out)
        have n2_ := Aside0.mk (blk_drew BK902.out)
        have n3_ := Aside0.mk (blk_drew BK903.out)
        have n4_ := Aside0.mk (blk_drew BK912.out)
        have n5_ := Aside0.mk (below_drew1 HB.out)
        clear HO_913000
        clear HO_913001
        clear BK902
        clear BK903
        clear BK912
        clear HB
        have HO_913000 := n0_
        have HO_913001 := n1_
        have BK902 := n2_
        have BK903 := n3_
        have BK912 := n4_
        have HB := n5_
        clear n0_ n1_ n2_ n3_ n4_ n5_
        have p913 : 0 ≤ (x6_2 : Int) := of_decide_eq_true za
        have q913 : x6_2 < (x913001_2.length : Int) := of_decide_eq_true za
        obtain ⟨ad913, e913, hx913_0, hx913_1⟩ := at_T33 (Kd.R_reads' HO_913001.out).2.2 x6_2 p913 q913
        cases e913
        replace p913 := eq_true p913
        replace q913 := eq_true q913
        refine start_ (n := 14) (S := fun w' => w'.cell? ⟨gb912, 0, none⟩ = some (.slice Ao20 t906.length co20) ∧ w'.cell? ⟨gb912, 1, none⟩ = some (.slice (some ad913) x913001_2.length co32) ∧ w'.cell? (ad913.add ((x6_2).toNat * 2)) = some (.string ((rd_T33 x913001_2 x6_2).f0)) ∧ w'.cell? ⟨(ad913.add ((x6_2).toNat * 2)).block, (ad913.add ((x6_2).toNat * 2)).off + 1, none⟩ = some (.int .i64 ((rd_T33 x913001_2 x6_2).f1))) (ds := [13]) #[false, false, false, false, false, false, false, false, false, false, false, false, false, false] (by kernel_rfl) rfl rfl ⟨(blk_cell BK912.out 0).trans rfl, (blk_cell BK912.out 1).trans rfl, hx913_0, hx913_1⟩ (fun hHeld => ?_); refine with_tabW spec_TurnFlat.tab7 spec_TurnFlat.bits7 (fun HT_ HW_ => ?_)
        generalize wr.drew = w33 at HO_913000 HO_913001 BK902 BK903 BK912 HB hx913_0 hx913_1 hHeld ⊢
        refine pure_ (i := 0) (N := some 25) (v := ?_) (a' := ?_) #[true, false, false, false, false, false, false, false, false, false, false, false, false, false] rfl rfl (any_of HT_.out (by kernel_rfl)) (fun _ _ _ h => h) (Or.inl ⟨by rfl, ?_⟩) ?_ ?_
        rotate_left
        ·intro w'
         go_simp
         with_reducible rfl
        rotate_left
        ·simp only [Act.put, List.setIfInBounds_toArray, List.set_cons_zero, List.set_cons_succ, i64_w, i32_w]
         rfl
        refine pure_ (i := 2) (N := some 27) (v := ?_) (a' := ?_) #[true, false, true, false, false, false, false, false, false, false, false, false, false, false] rfl rfl (any_of HT_.out (by kernel_rfl)) (fun _ _ _ h => h) (Or.inl ⟨by rfl, ?_⟩) ?_ ?_
        rotate_left
        ·intro w'
         go_simp
         with_reducible rfl
        rotate_left
        ·simp only [Act.put, List.setIfInBounds_toArray, List.set_cons_zero, List.set_cons_succ, i64_w, i32_w]
         rfl
        refine pure_ (i := 3) (N := some 28) (v := ?_) (a' := ?_) #[true, false, true, true, false, false, false, false, false, false, false, false, false, false] rfl rfl (any_of HT_.out (by kernel_rfl)) (fun _ _ _ h => h) (Or.inl ⟨by rfl, ?_⟩) ?_ ?_
        rotate_left
        ·intro w'
         go_simp
         with_reducible rfl
        rotate_left
        ·simp only [Act.put, List.setIfInBounds_toArray, List.set_cons_zero, List.set_cons_succ, i64_w, i32_w]
         rfl
        refine pure_ (i := 4) (N := some 29) (v := ?_) (a' := ?_) #[true, false, true, true, true, false, false, false, false, false, false, false, false, false] rfl rfl (any_of HT_.out (by kernel_rfl)) (fun _ _ _ h => h) (Or.inl ⟨by rfl, ?_⟩) ?_ ?_
        rotate_left
        ·intro w'
         go_simp
         with_reducible rfl
        rotate_left
        ·simp only [Act.put, List.setIfInBounds_toArray, List.set_cons_zero, List.set_cons_succ, i64_w, i32_w]
         rfl
        refine pure_ (i := 6) (N := some 31) (v := ?_) (a' := ?_) #[true, false, true, true, true, false, true, false, false, false, false, false, false, false] rfl rfl (any_of HT_.out (by kernel_rfl)) (fun _ _ _ h => h) (Or.inl ⟨by rfl, ?_⟩) ?_ ?_
        rotate_left
        ·intro w'
         go_simp
         with_reducible rfl
        rotate_left
        ·simp only [Act.put, List.setIfInBounds_toArray, List.set_cons_zero, List.set_cons_succ, i64_w, i32_w]
         rfl
        refine take_ (i := 1) (N := some 26) (v := ?_) (a' := ?_) #[true, true, true, true, true, false, true, false, false, false, false, false, false, false] rfl rfl (take_ofW HT_.out HW_.out (by kernel_rfl)) (fun _ _ _ h => h) (Or.inl ⟨by rfl, ?_⟩) hHeld ?_ ?_
        rotate_left
        ·rintro w' ⟨s0, s1, s2, s3⟩
         go_simp
         with_reducible rfl
        rotate_left
        ·simp only [Act.put, List.setIfInBounds_toArray, List.set_cons_zero, List.set_cons_succ, i64_w, i32_w]
         rfl
        refine take_ (i := 5) (N := some 30) (v := ?_) (a' := ?_) #[true, true, true, true, true, true, true, false, false, false, false, false, false, false] rfl rfl (take_ofW HT_.out HW_.out (by kernel_rfl)) (fun _ _ _ h => h) (Or.inl ⟨by rfl, ?_⟩) hHeld ?_ ?_
        rotate_left
        ·rintro w' ⟨s0, s1, s2, s3⟩
         go_simp
         with_reducible rfl
        rotate_left
        ·simp only [Act.put, List.setIfInBounds_toArray, List.set_cons_zero, List.set_cons_succ, i64_w, i32_w]
         rfl
        refine pure_ (i := 7) (N := some 32) (v := ?_) (a' := ?_) #[true, true, true, true, true, true, true, true, false, false, false, false, false, false] rfl rfl (any_of HT_.out (by kernel_rfl)) (fun _ _ _ h => h) (Or.inl ⟨by rfl, ?_⟩) ?_ ?_
        rotate_left
        ·intro w'
         go_simp
         with_reducible rfl
        rotate_left
        ·simp only [Act.put, List.setIfInBounds_toArray, List.set_cons_zero, List.set_cons_succ, i64_w, i32_w]
         rfl
        refine pure_ (i := 8) (N := some 33) (v := ?_) (a' := ?_) #[true, true, true, true, true, true, true, true, true, false, false, false, false, false] rfl rfl (any_of HT_.out (by kernel_rfl)) (fun _ _ _ h => h) (Or.inl ⟨by rfl, ?_⟩) ?_ ?_
        rotate_left
        ·intro w'
         go_simp
         with_reducible rfl
        rotate_left
        ·simp only [Act.put, List.setIfInBounds_toArray, List.set_cons_zero, List.set_cons_succ, i64_w, i32_w]
         rfl
        refine take_ (i := 9) (N := some 34) (v := ?_) (a' := ?_) #[true, true, true, true, true, true, true, true, true, true, false, false, false, false] rfl rfl (take_ofW HT_.out HW_.out (by kernel_rfl)) (fun _ _ _ h => h) (Or.inl ⟨by rfl, ?_⟩) hHeld ?_ ?_
        rotate_left
        ·rintro w' ⟨s0, s1, s2, s3⟩
         go_simp
         with_reducible rfl
        rotate_left
        ·simp only [Act.put, List.setIfInBounds_toArray, List.set_cons_zero, List.set_cons_succ, i64_w, i32_w]
         rfl
        refine one_ (i := 10) (N := some 35) #[true, true, true, true, true, true, true, true, true, true, true, false, false, false] rfl rfl (one_of HT_.out (by kernel_rfl)) (by decide) (fun K hK => ?_)
        refine goes_ Try.func80 (by kernel_rfl) rfl #[.slice A0 l0.length c0, .string ((rd_T33 x913001_2 x6_2).f0)] (by rfl) rfl rfl zl ?_
        with_reducible refine (spec_turned.calls k2 _ _ l0 ((rd_T33 x913001_2 x6_2).f0) t914 _ ?side1 ?side2 A27.out).mono ?_
        (case side1 => repeat (first | exact (Kd.C_below HR0.out HB.out) | (with_reducible refine Kd.C_alloc ?_ _) | (with_reducible refine Kd.C_drewN ?_ _) | (with_reducible refine Kd.C_drew ?_)))
        (case side2 => exact HC0.out)
        rintro e w' ⟨rfl, ⟨nd, rfl⟩⟩
        refine ⟨_, rfl, ?_⟩
        have p28 : 0 ≤ (x6_2 : Int) := of_decide_eq_true za
        have q28 : (x6_2 : Int) < ((x913001_2.length : Int) : Int) := of_decide_eq_true za
        obtain ⟨go28, co28, eo28, gb28, gl28, cl28, HG28⟩ := Kd.R_form HO_913001.out (by omega)
        (first | cases eo28 | (injection eo28 with ea_ en_ ec_; (first | subst ea_ | (injection ea_ with ea_; subst ea_)); subst ec_; clear en_))
        have GB28 := Aside0.mk gb28
        have GG28 := Aside0.mk HG28
        clear gb28 gl28 HG28
        (first | simp only [add_plain] at hx913_0 | skip)
        (first | simp only [add_plain] at hx913_1 | skip)
        obtain ⟨ce28, hcl28, hM28, hcc28, hfr28⟩ := Kd.R_elem HO_913001.out z33 (x6_2 : Int) p28 q28
        obtain rfl := k33_openM hM28
        have hx28_0 : World.cell? _ ⟨go28, (x6_2 : Int).toNat * 2, none⟩ = some (.string ((rd_T33 x913001_2 x6_2).f0)) := hcc28 0 _ rfl
        have hx28_1 : World.cell? _ ⟨go28, (x6_2 : Int).toNat * 2 + 1, none⟩ = some (.int .i64 ((rd_T33 x913001_2 x6_2).f1)) := hcc28 1 _ rfl
        have hf28_0 : World.frozen? _ ⟨go28, (x6_2 : Int).toNat * 2, none⟩ = false := hfr28 0
        have hf28_1 : World.frozen? _ ⟨go28, (x6_2 : Int).toNat * 2 + 1, none⟩ = false := hfr28 1
        clear hcl28 hcc28 hfr28 hM28
        replace p28 := eq_true p28
        replace q28 := eq_true q28
        obtain ⟨ce34, hcl34, hM34, hcc34, hfr34⟩ := Kd.R_elem HO_913001.out z33 (x6_2 : Int) (of_decide_eq_true za) (by have h_ : (x6_2 : Int) < ((x913001_2.length : Int) : Int) := of_decide_eq_true za; first | exact h_ | (have e_ := (Kd.R_reads' HO_913001.out).1; omega) | simpa using h_)
        obtain rfl := k33_openM hM34
        have HP34 := (Kd.R_seg HO_913001.out (x6_2 : Int) (of_decide_eq_true za) (by have h_ : (x6_2 : Int) < ((x913001_2.length : Int) : Int) := of_decide_eq_true za; first | exact h_ | (have e_ := (Kd.R_reads' HO_913001.out).1; omega) | simpa using h_) (seg := [.string t914]) (j := 0) hcl34 hcc34 (show 1 ≤ 2 from by decide) (x' := (⟨t914, (rd_T33 x913001_2 x6_2).f1⟩ : S33)) (k33_mkM _ _ _ (⟨t914, (rd_T33 x913001_2 x6_2).f1⟩ : S33) ) (fun _ hk => hk)).1
        rw [← Ny915.out] at HP34
        have HQ34 := Aside0.mk HP34
        clear hcl34 hcc34 hfr34 hM34 HP34
        refine hK.out _ _ ⟨(blk_cell BK912.out 0).trans rfl, (blk_cell BK912.out 1).trans rfl, hHeld.2.2.1, hHeld.2.2.2⟩ (fun hHeld => ?_)
        clear hK K
        refine norm_ (a' := ?_) ?_ ?_
        rotate_left
        ·show Act.put _ (some 35) _ = _
         simp only [Act.put, List.setIfInBounds_toArray, List.set_cons_zero, List.set_cons_succ, i64_w, i32_w]
         rfl
        refine pure_ (i := 11) (N := some 36) (v := ?_) (a' := ?_) #[true, true, true, true, true, true, true, true, true, true, true, true, false, false] rfl rfl (any_of HT_.out (by kernel_rfl)) (fun _ _ _ h => h) (Or.inl ⟨by rfl, ?_⟩) ?_ ?_
        rotate_left
        ·intro w'
         go_simp
         with_reducible rfl
        rotate_left
        ·simp only [Act.put, List.setIfInBounds_toArray, List.set_cons_zero, List.set_cons_succ, i64_w, i32_w]
         rfl
        refine pure_ (i := 12) (N := some 37) (v := ?_) (a' := ?_) #[true, true, true, true, true, true, true, true, true, true, true, true, true, false] rfl rfl (any_of HT_.out (by kernel_rfl)) (fun _ _ _ h => h) (Or.inl ⟨by rfl, ?_⟩) ?_ ?_
        rotate_left
        ·intro w'
         go_simp
         with_reducible rfl
        rotate_left
        ·simp only [Act.put, List.setIfInBounds_toArray, List.set_cons_zero, List.set_cons_succ, i64_w, i32_w]
         rfl
        refine last_ (i := 13) (N := none) #[true, true, true, true, true, true, true, true, true, true, true, true, true, true] rfl rfl (one_of HT_.out (by kernel_rfl)) (by decide) (fun K hK => ?_)
        refine skip_ (w1 := ?_) (by rfl) rfl ?_ ?_
        rotate_left
        ·go_simp
         rfl
        refine hK.out _ _ ?_
        clear hK K
        refine done_ (done_of HT_.out (by kernel_rfl)) ?_
        try go_wp2
        go_roundg k2
        case measure => have := HJ2.out; have := HK2.out; omega
        case rel => exact ⟨(wrap64 (x6_2 + 1)), (y915), (.slice (some ⟨go28, 0, none⟩) x913001_2.length co32), zr, H', ⟨by have := HJ2.out; have := HK2.out; omega⟩, ⟨by (with_reducible repeat (first | apply Kd.R_alloc | apply Kd.R_drewN | apply Kd.R_drew)); exact Kd.R_mono (Kd.R_far (p := ⟨go28, (x6_2 : Int).toNat * 2, none⟩) (Kd.R_types HO_913000.out GG28.out (by decide)) (fun _ hk => hk.2) (.string t914)) (fun _ hk => trivial)⟩, ⟨by (with_reducible repeat (first | apply Kd.R_alloc | apply Kd.R_drewN | apply Kd.R_drew)); exact HQ34.out⟩, ⟨by (with_reducible repeat (first | refine blk_drewN ?_ _ | refine blk_drew ?_ | refine blk_alloc ?_ _)); refine blk_far ?_ (by have h_ := Kd.R_ne HO_913001.out BK902.out (by decide); intro e_; exact h_ (by rw [e_]; rfl)) _; (with_reducible repeat (first | refine blk_drewN ?_ _ | refine blk_drew ?_ | refine blk_alloc ?_ _)); exact BK902.out⟩, ⟨by (with_reducible repeat (first | refine blk_drewN ?_ _ | refine blk_drew ?_ | refine blk_alloc ?_ _)); refine blk_far ?_ (by have h_ := Kd.R_ne HO_913001.out BK903.out (by decide); intro e_; exact h_ (by rw [e_]; rfl)) _; (with_reducible repeat (first | refine blk_drewN ?_ _ | refine blk_drew ?_ | refine blk_alloc ?_ _)); exact BK903.out⟩, ⟨by (with_reducible repeat (first | refine blk_drewN ?_ _ | refine blk_drew ?_ | refine blk_alloc ?_ _)); refine blk_far ?_ (by have h_ := Kd.R_ne HO_913001.out BK912.out (by decide); intro e_; exact h_ (by rw [e_]; rfl)) _; (with_reducible repeat (first | refine blk_drewN ?_ _ | refine blk_drew ?_ | refine blk_alloc ?_ _)); exact BK912.out⟩, ⟨by repeat (first | (with_reducible first | exact HB.out | apply below_alloc | apply pw_below_drewN | apply below_drew1 | refine below_set ?_ GB28.out | refine below_set ?_ GE902.out | refine below_set ?_ GE903.out | refine below_set ?_ GE912.out) | exact HB.out)⟩⟩
       ·rw [if_neg c26] at H
        exact absurd H (by simp)
      ·rw [if_neg c25] at H
       have c25b0 : decide (x6_2 < (x913001_2.length : Int)) = false := decide_eq_false c25
       clear c25
       simp only [Option.some.injEq, Prod.mk.injEq] at H
       obtain ⟨rfl, rfl⟩ := H
       have hnb35 := NB912_902.out
       have hnc35 := NB902_912.out
       have hnb36 := NB912_903.out
       have hnc36 := NB903_912.out
       have hcz37_0 : wr.cell? ⟨gb912, 0, none⟩ = some (.slice Ao20 t906.length co20) := (blk_cell BK912.out 0).trans rfl
       have hcz37_1 : wr.cell? ⟨gb912, 1, none⟩ = some (u913001) := (blk_cell BK912.out 1).trans rfl
       have hfz37_0 := blk_frozen BK912.out 0
       have hfz37_1 := blk_frozen BK912.out 1
       obtain ⟨Ao38, co38, eo38⟩ := Kd.R_slice HO_913001.out
       subst eo38
       have hnb39 := NB903_902.out
       have hnc39 := NB902_903.out
       have hcz40_0 : wr.cell? ⟨gb903, 0, none⟩ = some (.slice none 0 0) := (blk_cell BK903.out 0).trans rfl
       have hcz40_1 : wr.cell? ⟨gb903, 1, none⟩ = some (.slice none 0 0) := (blk_cell BK903.out 1).trans rfl
       have hfz40_0 := blk_frozen BK903.out 0
       have hfz40_1 := blk_frozen BK903.out 1
       go_wp2
       refine bodyPost_ret (results_cell_row rfl _ _ gb903 26 #[.slice Ao20 t906.length co20, .slice Ao38 x913001_2.length co38] (0, 0) _ rfl (by (with_reducible repeat (first | refine blk_drewN ?_ _ | refine blk_drew ?_ | refine blk_alloc ?_ _)); refine blk_put (cs := #[.slice Ao20 t906.length co20, .slice none 0 0]) ?_ 1 _ rfl; (with_reducible repeat (first | refine blk_drewN ?_ _ | refine blk_drew ?_ | refine blk_alloc ?_ _)); refine blk_put (cs := #[.slice none 0 0, .slice none 0 0]) ?_ 0 _ rfl; (with_reducible repeat (first | refine blk_drewN ?_ _ | refine blk_drew ?_ | refine blk_alloc ?_ _)); exact BK903.out) Try.underlying26 rfl (by kernel_rfl)) rfl ?_
       exact ⟨_, _, by first | rfl | (simp [errW_none, errW_some] <;> rfl) | (simp [*, errW_none, errW_some] <;> rfl), by (with_reducible repeat (first | apply Kd.R_alloc | apply Kd.R_drewN | apply Kd.R_drew)); exact Kd.R_mono (Kd.R_far (p := ⟨gb903, 1, none⟩) (Kd.R_far (p := ⟨gb903, 0, none⟩) (Kd.R_types HO_913000.out BK903.out (by decide)) (fun _ hk => hk.2) (.slice Ao20 t906.length co20)) (fun _ hk => hk.2) (.slice Ao38 x913001_2.length co38)) (fun _ hk => trivial), by (with_reducible repeat (first | apply Kd.R_alloc | apply Kd.R_drewN | apply Kd.R_drew)); exact Kd.R_mono (Kd.R_far (p := ⟨gb903, 1, none⟩) (Kd.R_far (p := ⟨gb903, 0, none⟩) (Kd.R_types HO_913001.out BK903.out (by decide)) (fun _ hk => hk.2) (.slice Ao20 t906.length co20)) (fun _ hk => hk.2) (.slice Ao38 x913001_2.length co38)) (fun _ hk => trivial), by repeat (first | (with_reducible first | exact HB.out | apply below_alloc | apply pw_below_drewN | apply below_drew1 | refine below_set ?_ GE902.out | refine below_set ?_ GE903.out | refine below_set ?_ GE912.out) | exact HB.out)⟩

end Go.Proofs.Ytfcpbgedgedalaa.Q
