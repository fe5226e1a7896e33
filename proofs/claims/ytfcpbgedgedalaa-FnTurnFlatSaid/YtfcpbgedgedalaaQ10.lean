-- written by px.py (a program of this claim's), over the kit's print. Not trusted: Lean checks it.
import Derived.Test.YtfcpbgedgedalaaQ0
import Derived.Test.YtfcpbgedgedalaaQ4
import Derived.Test.YtfcpbgedgedalaaQ6
import Derived.Test.YtfcpbgedgedalaaQ8
import Derived.Test.YtfcpbgedgedalaaQ9
namespace Go.Proofs.Ytfcpbgedgedalaa.Q
open Go.RowKit Go.Proofs.YtfcpbgedgedalaaL.PrintWords Go.Proofs.YtfcpbgedgedalaaL.PrintLast Go.Proofs.YtfcpbgedgedalaaL.PrintMore
attribute [local go_sem] max2_int min2_int max_two min_two max_three min_three max_four min_four   -- for this text's walks alone
set_option linter.unusedVariables false
set_option linter.unusedSimpArgs false

theorem zi129_10 {w0 W W' : World} {g : Nat} {f0 f0' : List Int} {f1 f1' : Int} (h : Aside0 (IsS129 w0 W g f0 f1)) (i : IsS129 w0 W g f0 f1 → IsS129 w0 W' g f0' f1' := by intro hh_; repeat (first | (with_reducible first | exact hh_ | apply IsS129.alloc | apply IsS129.drewN | apply IsS129.drew | apply IsS129.set_1 | refine IsS129.far ?_ (Aside0.out (by assumption)) _) | exact hh_)) : IsS129 w0 W' g f0' f1' := i h.out
/-! ### spec_someFlat: function 61 -/
def spec_someFlat.f (k : Nat) (s0_0 : List Int) (s0_1 : Int) : Option (List Int × (List (S33)) × Int) := (spec_goodFlat.f k s0_0 s0_1).bind fun bt182 => ((spec_reader_pick.f k s0_0 bt182.2.2 24).bind fun bt190 => (if bt190.1 = 0 then ((spec_reader_one.f k s0_0 bt190.2 (([100, (-100)] : List Int))).bind fun bt195 => (if bt182.1.length < 17592186044416 then (some ((bt182.1 ++ [bt195.1]), bt182.2.1, bt195.2)) else (none))) else (if bt190.1 = 1 then ((spec_anyName.f k s0_0 bt190.2).bind fun bt200 => ((spec_anyNumber.f k s0_0 bt200.2).bind fun bt202 => (if bt182.2.1.length < 5864062014805 then (some (bt182.1, (bt182.2.1 ++ [(⟨bt200.1, bt202.1⟩ : S33)]), bt202.2)) else (none)))) else (if bt190.1 = 2 then (if 9 ≤ 35184372088832 then (some ((List.replicate 9 0), bt182.2.1, bt190.2)) else (none)) else (some (bt182.1, bt182.2.1, bt190.2))))))
theorem spec_someFlat.mono : ∀ a0 a1 k, LeO (spec_someFlat.f k a0 a1) (spec_someFlat.f (k + 1) a0 a1) := by
 intro a0 a1 k
 unfold spec_someFlat.f
 repeat' first
   | (with_reducible exact spec_anyName.mono _ _ _)
   | (with_reducible exact spec_anyNumber.mono _ _ _)
   | (with_reducible exact spec_goodFlat.mono _ _ _)
   | (with_reducible exact spec_reader_one.mono _ _ _ _)
   | (with_reducible exact spec_reader_pick.mono _ _ _ _)
   | (with_reducible exact LeO.refl _)
   | (with_reducible exact LeO.none _)
   | (with_reducible refine LeO.ite ?_ ?_)
   | (with_reducible refine LeO.bind ?_ (fun _ => ?_))
   | exact spec_anyName.mono _ _ _
   | exact spec_anyNumber.mono _ _ _
   | exact spec_goodFlat.mono _ _ _
   | exact spec_reader_one.mono _ _ _ _
   | exact spec_reader_pick.mono _ _ _ _
   | exact LeO.none _
   | refine LeO.ite ?_ ?_
   | refine LeO.bind ?_ (fun _ => ?_)
def spec_someFlat.T4 : Bool × List (List Nat × List Nat) := (true, [([], []), ([0], [0]), ([], []), ([], []), ([2, 3], [2, 3]), ([4], [4]), ([1, 5, 4], [1, 5]), ([0, 1, 2, 3, 4, 5, 6], []), ([7, 6, 6, 0, 1, 2, 3, 4, 5, 6], [6, 7])])
def spec_someFlat.B4 : List Nat := [0, 1, 0, 0, 12, 28, 63, 127, 255]
theorem spec_someFlat.tab4 : rtab .any (opsOf Try.f61 4) = spec_someFlat.T4 := by kernel_rfl
theorem spec_someFlat.bits4 : waitsOk spec_someFlat.T4.2 spec_someFlat.B4 = true := by kernel_rfl
def spec_someFlat.T6 : Bool × List (List Nat × List Nat) := (true, [([], []), ([0], [0]), ([], []), ([2], [2]), ([], []), ([4, 3], [4]), ([3, 5], [3, 5]), ([6], [6]), ([1, 7, 5], [1, 7]), ([0, 1, 2, 3, 4, 5, 6, 7, 8], []), ([9, 8, 8, 0, 1, 2, 3, 4, 5, 6, 7, 8], [8, 9])])
def spec_someFlat.B6 : List Nat := [0, 1, 0, 4, 0, 28, 60, 124, 255, 511, 1023]
theorem spec_someFlat.tab6 : rtab .any (opsOf Try.f61 6) = spec_someFlat.T6 := by kernel_rfl
theorem spec_someFlat.bits6 : waitsOk spec_someFlat.T6.2 spec_someFlat.B6 = true := by kernel_rfl
set_option maxHeartbeats 8000000 in
set_option maxRecDepth 100000 in
theorem spec_someFlat.calls (k : Nat) (g : Nat) (s0_0 : List Int) (s0_1 : Int) (r1 : List Int) (r2 : List (S33)) (r3 : Int) (w0 w : World) (hI : IsS129 w0 w g s0_0 s0_1) (hB : Below w0.heap.size w0 w) (h : spec_someFlat.f k s0_0 s0_1 = some (r1, r2, r3)) :
  Calls Try.prog 61 #[.pointer (some ⟨g, 0, none⟩)] w fun e w' => ∃ v0_ v1_ : Value, e = .returned (.agg #[v0_, v1_]) ∧ Kd.R (Kd.int .i64) 3 w' w.heap.size (fun _ => True) v0_ r1 ∧ Kd.R k33 33 w' w.heap.size (fun _ => True) v1_ r2 ∧ IsS129 w0 w' g s0_0 r3 ∧ Below w0.heap.size w0 w' ∧ KeepBut w w' g none := by
 have hu26 := Try.underlying26
 have hu33 := Try.underlying33
 have HI0 := Aside0.mk hI
 have HK := Aside0.mk (KeepBut.refl w g none)
 have HL := Aside0.mk hB.size
 clear hI
 have HW0 := Aside0.mk hB.size
 have HB := Aside0.mk hB
 clear hB
 have H : ((spec_goodFlat.f k s0_0 s0_1).bind fun bt182 => ((spec_reader_pick.f k s0_0 bt182.2.2 24).bind fun bt190 => (if bt190.1 = 0 then ((spec_reader_one.f k s0_0 bt190.2 (([100, (-100)] : List Int))).bind fun bt195 => (if bt182.1.length < 17592186044416 then (some ((bt182.1 ++ [bt195.1]), bt182.2.1, bt195.2)) else (none))) else (if bt190.1 = 1 then ((spec_anyName.f k s0_0 bt190.2).bind fun bt200 => ((spec_anyNumber.f k s0_0 bt200.2).bind fun bt202 => (if bt182.2.1.length < 5864062014805 then (some (bt182.1, (bt182.2.1 ++ [(⟨bt200.1, bt202.1⟩ : S33)]), bt202.2)) else (none)))) else (if bt190.1 = 2 then (if 9 ≤ 35184372088832 then (some ((List.replicate 9 0), bt182.2.1, bt190.2)) else (none)) else (some (bt182.1, bt182.2.1, bt190.2))))))) = some (r1, r2, r3) := h
 clear h
 replace H := Option.bind_eq_some_iff.mp H
 obtain ⟨⟨t182, t185, t188⟩, A20, H⟩ := H
 replace H : ((spec_reader_pick.f k s0_0 t188 24).bind fun bt190 => (if bt190.1 = 0 then ((spec_reader_one.f k s0_0 bt190.2 (([100, (-100)] : List Int))).bind fun bt195 => (if t182.length < 17592186044416 then (some ((t182 ++ [bt195.1]), t185, bt195.2)) else (none))) else (if bt190.1 = 1 then ((spec_anyName.f k s0_0 bt190.2).bind fun bt200 => ((spec_anyNumber.f k s0_0 bt200.2).bind fun bt202 => (if t185.length < 5864062014805 then (some (t182, (t185 ++ [(⟨bt200.1, bt202.1⟩ : S33)]), bt202.2)) else (none)))) else (if bt190.1 = 2 then (if 9 ≤ 35184372088832 then (some ((List.replicate 9 0), t185, bt190.2)) else (none)) else (some (t182, t185, bt190.2)))))) = some (r1, r2, r3) := H
 have A2 := Aside0.mk A20
 clear A20
 replace H := Option.bind_eq_some_iff.mp H
 obtain ⟨⟨t190, t191⟩, A30, H⟩ := H
 replace H : (if t190 = 0 then ((spec_reader_one.f k s0_0 t191 (([100, (-100)] : List Int))).bind fun bt195 => (if t182.length < 17592186044416 then (some ((t182 ++ [bt195.1]), t185, bt195.2)) else (none))) else (if t190 = 1 then ((spec_anyName.f k s0_0 t191).bind fun bt200 => ((spec_anyNumber.f k s0_0 bt200.2).bind fun bt202 => (if t185.length < 5864062014805 then (some (t182, (t185 ++ [(⟨bt200.1, bt202.1⟩ : S33)]), bt202.2)) else (none)))) else (if t190 = 2 then (if 9 ≤ 35184372088832 then (some ((List.replicate 9 0), t185, t191)) else (none)) else (some (t182, t185, t191))))) = some (r1, r2, r3) := H
 have A3 := Aside0.mk A30
 clear A30
 by_cases c4 : t190 = 0
 ·rw [if_pos c4] at H
  have c4b0 : (t190 == 0) = true := beq_iff_eq.mpr c4
  have c4b1 : (t190 != 0) = false := bne_eq_false_iff_eq.mpr c4
  clear c4
  obtain ⟨y192, hy192⟩ : ∃ y_ : List Int, y_ = (([100, (-100)] : List Int)) := ⟨_, rfl⟩
  replace H : ((spec_reader_one.f k s0_0 t191 y192).bind fun bt195 => (if t182.length < 17592186044416 then (some ((t182 ++ [bt195.1]), t185, bt195.2)) else (none))) = some (r1, r2, r3) := by first | (rw [hy192]; with_reducible exact H) | (have H2_ := (Option.bind_some _ _).symm.trans H; rw [hy192]; with_reducible exact H2_) | (have H2_ := (Option.bind_some _ _).symm.trans H; with_reducible exact H2_) | with_reducible exact H | (rw [hy192]; exact H) | exact H
  have Ny192 := Aside0.mk hy192
  clear hy192
  replace H := Option.bind_eq_some_iff.mp H
  obtain ⟨⟨t195, t196⟩, A50, H⟩ := H
  replace H : (if t182.length < 17592186044416 then (some ((t182 ++ [t195]), t185, t196)) else (none)) = some (r1, r2, r3) := H
  have A5 := Aside0.mk A50
  clear A50
  by_cases c6 : t182.length < 17592186044416
  ·rw [if_pos c6] at H
   have LMc6 := Aside0.mk c6
   clear c6
   obtain ⟨y197, hy197⟩ : ∃ y_ : List Int, y_ = (t182 ++ [t195]) := ⟨_, rfl⟩
   replace H : (some (y197, t185, t196)) = some (r1, r2, r3) := by first | (rw [hy197]; with_reducible exact H) | (have H2_ := (Option.bind_some _ _).symm.trans H; rw [hy197]; with_reducible exact H2_) | (have H2_ := (Option.bind_some _ _).symm.trans H; with_reducible exact H2_) | with_reducible exact H | (rw [hy197]; exact H) | exact H
   have Ny197 := Aside0.mk hy197
   clear hy197
   simp only [Option.some.injEq, Prod.mk.injEq] at H
   obtain ⟨rfl, rfl, rfl⟩ := H
   go_enter Try.func61, Try.ntmps61
   try go_wp2_with (first | ((with_reducible refine gate_dst (N := 2) rfl ?_); refine box_event ?hg (N := 2) ?hd (cs := #[.slice none 0 0, .slice none 0 0]) (t := 26) ?hr ?_; (case hd => rfl); (case hg => rfl); (case hr => first | (go_simp; done) | (go_simp; rfl)); intro gb181 hg w7 hbox hb; have n0_ := Aside0.mk (IsS129.below (zi129_10 HI0) hb); have n1_ := Aside0.mk (KeepBut.trans (zk HK) (KeepBut.of_below hb g none) (.inl rfl)); have n2_ := Aside0.mk (below_step (by repeat (first | (with_reducible first | exact HB.out | apply below_alloc | apply pw_below_drewN | apply below_drew1 | refine below_set ?_ (IsS129.ge HI0.out)) | exact HB.out)) hb); have n3_ := Aside0.mk (hbox); have n4_ := Aside0.mk ((by rw [hg]; exact (keep_size (w := w) (g := g) (row := none) (zk HK)) : w.heap.size ≤ gb181)); have n5_ := Aside0.mk ((Nat.le_trans HW0.out (by rw [hg]; exact (keep_size (w := w) (g := g) (row := none) (zk HK)) : w.heap.size ≤ gb181) : w0.heap.size ≤ gb181)); have n6_ := Aside0.mk ((by rw [hg]; exact Nat.ne_of_lt (IsS129.lt (show IsS129 w0 _ g s0_0 s0_1 from by repeat (first | (with_reducible first | exact HI0.out | apply IsS129.alloc | apply IsS129.drewN | apply IsS129.drew | apply IsS129.set_1) | exact HI0.out))) : g ≠ gb181)); have n7_ := Aside0.mk ((by rw [hg]; exact Nat.ne_of_gt (IsS129.lt (show IsS129 w0 _ g s0_0 s0_1 from by repeat (first | (with_reducible first | exact HI0.out | apply IsS129.alloc | apply IsS129.drewN | apply IsS129.drew | apply IsS129.set_1) | exact HI0.out))) : gb181 ≠ g)); clear HI0; clear HK; clear HB; have HI0 := n0_; have HK := n1_; have HB := n2_; have BK181 := n3_; have GW181 := n4_; have GE181 := n5_; have NB0_181 := n6_; have NB181_0 := n7_; clear n0_ n1_ n2_ n3_ n4_ n5_ n6_ n7_; clear hb hbox hg) | ((with_reducible refine gate_callee (f := 110) rfl ?_); refine goesL_ (some 5) rfl rfl Try.func110 (by kernel_rfl) rfl #[.pointer (some ⟨g, 0, none⟩)] rfl zl ?_; (with_reducible refine (spec_goodFlat.calls k g s0_0 s0_1 t182 t185 t188 w0 _ ?side1 ?side2 A2.out).mono ?_); (case side1 => repeat (first | (with_reducible first | exact HI0.out | apply IsS129.alloc | apply IsS129.drewN | apply IsS129.drew | apply IsS129.set_1 | refine IsS129.far ?_ NB0_181.out _) | exact HI0.out)); (case side2 => repeat (first | (with_reducible first | exact HB.out | apply below_alloc | apply pw_below_drewN | apply below_drew1 | refine below_set ?_ (IsS129.ge HI0.out) | refine below_set ?_ GE181.out) | exact HB.out)); rintro e w8 ⟨v183, v186, rfl, ho0, ho1, hi, hb, hk⟩; refine ⟨_, rfl, ?_⟩; have n0_ := Aside0.mk (KeepBut.blk hk (g' := gb181) (o := .cells #[.slice none 0 0, .slice none 0 0] 26 (0, 0)) (zb BK181) NB181_0.out (by simp)); have n1_ := Aside0.mk (Kd.R_lower ho0 (keep_size (w := w) (g := g) (row := none) (zk HK))); have n2_ := Aside0.mk (Kd.R_lower ho1 (keep_size (w := w) (g := g) (row := none) (zk HK))); have n3_ := Aside0.mk (KeepBut.trans (zk HK) hk (.inl rfl)); have n4_ := Aside0.mk (hb); have n5_ := Aside0.mk (hi); clear BK181; clear HK; clear HB; clear HI0; have BK181 := n0_; have HO184 := n1_; have HO187 := n2_; have HK := n3_; have HB := n4_; have HI0 := n5_; clear n0_ n1_ n2_ n3_ n4_ n5_; (try clear hb); (try clear hb2); (try clear hk); (try clear hi); (try clear ho0); (try clear ho1)) | ((with_reducible refine gate_dst (N := 3) rfl ?_); refine box_event ?hg (N := 3) ?hd (cs := #[.slice none 0 0, .slice none 0 0]) (t := 26) ?hr ?_; (case hd => rfl); (case hg => rfl); (case hr => first | (go_simp; done) | (go_simp; rfl)); intro gb189 hg w9 hbox hb; have n0_ := Aside0.mk (Kd.R_below (zo HO184) hb); have n1_ := Aside0.mk (Kd.R_below (zo HO187) hb); have n2_ := Aside0.mk (IsS129.below (zi129_10 HI0) hb); have n3_ := Aside0.mk (blk_below (g := gb181) (o := .cells #[.slice none 0 0, .slice none 0 0] 26 (0, 0)) (zb BK181) hb); have n4_ := Aside0.mk (KeepBut.trans (zk HK) (KeepBut.of_below hb g none) (.inl rfl)); have n5_ := Aside0.mk (below_step (by repeat (first | (with_reducible first | exact HB.out | apply below_alloc | apply pw_below_drewN | apply below_drew1 | refine below_set ?_ (IsS129.ge HI0.out) | refine below_set ?_ GE181.out) | exact HB.out)) hb); have n6_ := Aside0.mk (hbox); have n7_ := Aside0.mk ((by rw [hg]; exact (keep_size (w := w) (g := g) (row := none) (zk HK)) : w.heap.size ≤ gb189)); have n8_ := Aside0.mk ((Nat.le_trans HW0.out (by rw [hg]; exact (keep_size (w := w) (g := g) (row := none) (zk HK)) : w.heap.size ≤ gb189) : w0.heap.size ≤ gb189)); have n9_ := Aside0.mk ((by rw [hg]; exact Nat.ne_of_lt (blk_lt (g := gb181) (o := .cells #[.slice none 0 0, .slice none 0 0] 26 (0, 0)) (zb BK181)) : gb181 ≠ gb189)); have n10_ := Aside0.mk ((by rw [hg]; exact Nat.ne_of_gt (blk_lt (g := gb181) (o := .cells #[.slice none 0 0, .slice none 0 0] 26 (0, 0)) (zb BK181)) : gb189 ≠ gb181)); have n11_ := Aside0.mk ((by rw [hg]; exact Nat.ne_of_lt (IsS129.lt (show IsS129 w0 _ g s0_0 t188 from by repeat (first | (with_reducible first | exact HI0.out | apply IsS129.alloc | apply IsS129.drewN | apply IsS129.drew | apply IsS129.set_1 | refine IsS129.far ?_ NB0_181.out _) | exact HI0.out))) : g ≠ gb189)); have n12_ := Aside0.mk ((by rw [hg]; exact Nat.ne_of_gt (IsS129.lt (show IsS129 w0 _ g s0_0 t188 from by repeat (first | (with_reducible first | exact HI0.out | apply IsS129.alloc | apply IsS129.drewN | apply IsS129.drew | apply IsS129.set_1 | refine IsS129.far ?_ NB0_181.out _) | exact HI0.out))) : gb189 ≠ g)); clear HO184; clear HO187; clear HI0; clear BK181; clear HK; clear HB; have HO184 := n0_; have HO187 := n1_; have HI0 := n2_; have BK181 := n3_; have HK := n4_; have HB := n5_; have BK189 := n6_; have GW189 := n7_; have GE189 := n8_; have NB181_189 := n9_; have NB189_181 := n10_; have NB0_189 := n11_; have NB189_0 := n12_; clear n0_ n1_ n2_ n3_ n4_ n5_ n6_ n7_ n8_ n9_ n10_ n11_ n12_; clear hb hbox hg; obtain ⟨Ao10, co10, eo10⟩ := Kd.R_slice HO184.out; subst eo10; have hnb11 := NB189_181.out; have hnc11 := NB181_189.out; have hnb12 := NB189_0.out; have hnc12 := NB0_189.out; have hcz13_0 : w9.cell? ⟨gb189, 0, none⟩ = some (.slice none 0 0) := (blk_cell BK189.out 0).trans rfl; have hcz13_1 : w9.cell? ⟨gb189, 1, none⟩ = some (.slice none 0 0) := (blk_cell BK189.out 1).trans rfl; have hfz13_0 := blk_frozen BK189.out 0; have hfz13_1 := blk_frozen BK189.out 1; obtain ⟨Ao14, co14, eo14⟩ := Kd.R_slice HO187.out; subst eo14) | ((with_reducible refine gate_callee (f := 90) rfl ?_); refine goesL_ (some 7) rfl rfl Try.func90 (by kernel_rfl) rfl #[.pointer (some ⟨g, 0, none⟩), .int .i64 24] rfl zl ?_; (with_reducible refine (spec_reader_pick.calls k g s0_0 t188 24 t190 t191 w0 _ ?side1 ?side2 A3.out).mono ?_); (case side1 => repeat (first | (with_reducible first | exact HI0.out | apply IsS129.alloc | apply IsS129.drewN | apply IsS129.drew | apply IsS129.set_1 | refine IsS129.far ?_ NB0_181.out _ | refine IsS129.far ?_ NB0_189.out _) | exact HI0.out)); (case side2 => repeat (first | (with_reducible first | exact HB.out | apply below_alloc | apply pw_below_drewN | apply below_drew1 | refine below_set ?_ (IsS129.ge HI0.out) | refine below_set ?_ GE181.out | refine below_set ?_ GE189.out) | exact HB.out)); rintro e w15 ⟨rfl, hi, hb, hk⟩; refine ⟨_, rfl, ?_⟩; have n0_ := Aside0.mk (KeepBut.blk hk (g' := gb181) (o := .cells #[.slice none 0 0, .slice none 0 0] 26 (0, 0)) (by (with_reducible repeat (first | refine blk_drewN ?_ _ | refine blk_drew ?_ | refine blk_alloc ?_ _)); refine blk_far ?_ NB181_189.out _; (with_reducible repeat (first | refine blk_drewN ?_ _ | refine blk_drew ?_ | refine blk_alloc ?_ _)); refine blk_far ?_ NB181_189.out _; (with_reducible repeat (first | refine blk_drewN ?_ _ | refine blk_drew ?_ | refine blk_alloc ?_ _)); exact BK181.out) NB181_0.out (by simp)); have n1_ := Aside0.mk (Kd.R_mono (Kd.R_keep (IsS129.apart (show IsS129 w0 _ g s0_0 t188 from by repeat (first | (with_reducible first | exact HI0.out | apply IsS129.alloc | apply IsS129.drewN | apply IsS129.drew | apply IsS129.set_1 | refine IsS129.far ?_ NB0_181.out _ | refine IsS129.far ?_ NB0_189.out _) | exact HI0.out)) (by (with_reducible repeat (first | apply Kd.R_alloc | apply Kd.R_drewN | apply Kd.R_drew)); exact (Kd.R_mono (Kd.R_far (p := ⟨gb189, 1, none⟩) (Kd.R_far (p := ⟨gb189, 0, none⟩) (Kd.R_types HO184.out BK189.out (by decide)) (fun _ hk => hk.2) (.slice Ao10 t182.length co10)) (fun _ hk => hk.2) (.slice Ao14 t185.length co14)) (fun _ h_ => h_.1))) (by decide)) hk (fun _ h => h.2)) (fun _ h => h.1)); have n2_ := Aside0.mk (Kd.R_mono (Kd.R_keep (IsS129.apart (show IsS129 w0 _ g s0_0 t188 from by repeat (first | (with_reducible first | exact HI0.out | apply IsS129.alloc | apply IsS129.drewN | apply IsS129.drew | apply IsS129.set_1 | refine IsS129.far ?_ NB0_181.out _ | refine IsS129.far ?_ NB0_189.out _) | exact HI0.out)) (by (with_reducible repeat (first | apply Kd.R_alloc | apply Kd.R_drewN | apply Kd.R_drew)); exact (Kd.R_mono (Kd.R_far (p := ⟨gb189, 1, none⟩) (Kd.R_far (p := ⟨gb189, 0, none⟩) (Kd.R_types HO187.out BK189.out (by decide)) (fun _ hk => hk.2) (.slice Ao10 t182.length co10)) (fun _ hk => hk.2) (.slice Ao14 t185.length co14)) (fun _ h_ => h_.1))) (by decide)) hk (fun _ h => h.2)) (fun _ h => h.1)); have n3_ := Aside0.mk (KeepBut.blk hk (g' := gb189) (o := .cells #[.slice Ao10 t182.length co10, .slice Ao14 t185.length co14] 26 (0, 0)) (by (with_reducible repeat (first | refine blk_drewN ?_ _ | refine blk_drew ?_ | refine blk_alloc ?_ _)); refine blk_put (cs := #[.slice Ao10 t182.length co10, .slice none 0 0]) ?_ 1 _ rfl; (with_reducible repeat (first | refine blk_drewN ?_ _ | refine blk_drew ?_ | refine blk_alloc ?_ _)); refine blk_put (cs := #[.slice none 0 0, .slice none 0 0]) ?_ 0 _ rfl; (with_reducible repeat (first | refine blk_drewN ?_ _ | refine blk_drew ?_ | refine blk_alloc ?_ _)); exact BK189.out) NB189_0.out (by simp)); have n4_ := Aside0.mk (KeepBut.trans (zk HK) hk (.inl rfl)); have n5_ := Aside0.mk (hb); have n6_ := Aside0.mk (hi); clear BK181; clear HO184; clear HO187; clear BK189; clear HK; clear HB; clear HI0; have BK181 := n0_; have HO184 := n1_; have HO187 := n2_; have BK189 := n3_; have HK := n4_; have HB := n5_; have HI0 := n6_; clear n0_ n1_ n2_ n3_ n4_ n5_ n6_; (try clear hb); (try clear hb2); (try clear hk); (try clear hi)))
   have n0_ := Aside0.mk (Kd.R_drew HO184.out)
   have n1_ := Aside0.mk (Kd.R_drew HO187.out)
   have n2_ := Aside0.mk (blk_drew BK181.out)
   have n3_ := Aside0.mk (blk_drew BK189.out)
   have n4_ := Aside0.mk (IsS129.drew HI0.out)
   have n5_ := Aside0.mk (keep_drew HK.out)
   have n6_ := Aside0.mk (below_drew1 HB.out)
   clear HO184
   clear HO187
   clear BK181
   clear BK189
   clear HI0
   clear HK
   clear HB
   have HO184 := n0_
   have HO187 := n1_
   have BK181 := n2_
   have BK189 := n3_
   have HI0 := n4_
   have HK := n5_
   have HB := n6_
   clear n0_ n1_ n2_ n3_ n4_ n5_ n6_
   refine start_ (n := 9) (S := fun w' => w'.cell? ⟨gb189, 0, none⟩ = some (.slice Ao10 t182.length co10) ∧ w'.cell? ⟨gb189, 1, none⟩ = some (.slice Ao14 t185.length co14)) (ds := [8]) #[false, false, false, false, false, false, false, false, false] (by kernel_rfl) rfl rfl ⟨(blk_cell BK189.out 0).trans rfl, (blk_cell BK189.out 1).trans rfl⟩ (fun hHeld => ?_); refine with_tabW spec_someFlat.tab4 spec_someFlat.bits4 (fun HT_ HW_ => ?_)
   generalize w15.drew = w16 at HO184 HO187 BK181 BK189 HI0 HK HB hHeld ⊢
   refine pure_ (i := 0) (N := some 10) (v := ?_) (a' := ?_) #[true, false, false, false, false, false, false, false, false] rfl rfl (any_of HT_.out (by kernel_rfl)) (fun _ _ _ h => h) (Or.inl ⟨by rfl, ?_⟩) ?_ ?_
   rotate_left
   ·intro w'
    go_simp
    with_reducible rfl
   rotate_left
   ·simp only [Act.put, List.setIfInBounds_toArray, List.set_cons_zero, List.set_cons_succ, i64_w, i32_w]
    rfl
   refine pure_ (i := 2) (N := some 12) (v := ?_) (a' := ?_) #[true, false, true, false, false, false, false, false, false] rfl rfl (any_of HT_.out (by kernel_rfl)) (fun _ _ _ h => h) (Or.inl ⟨by rfl, ?_⟩) ?_ ?_
   rotate_left
   ·intro w'
    go_simp
    with_reducible rfl
   rotate_left
   ·simp only [Act.put, List.setIfInBounds_toArray, List.set_cons_zero, List.set_cons_succ, i64_w, i32_w]
    rfl
   refine take_ (i := 1) (N := some 11) (v := ?_) (a' := ?_) #[true, true, true, false, false, false, false, false, false] rfl rfl (take_ofW HT_.out HW_.out (by kernel_rfl)) (fun _ _ _ h => h) (Or.inl ⟨by rfl, ?_⟩) hHeld ?_ ?_
   rotate_left
   ·rintro w' ⟨s0, s1⟩
    go_simp
    with_reducible rfl
   rotate_left
   ·simp only [Act.put, List.setIfInBounds_toArray, List.set_cons_zero, List.set_cons_succ, i64_w, i32_w]
    rfl
   refine one_ (i := 3) (N := some 13) #[true, true, true, true, false, false, false, false, false] rfl rfl (one_of HT_.out (by kernel_rfl)) (by decide) (fun K hK => ?_)
   refine Kd.R_lit_step (Kd.int .i64) _ 3 ?hg (N := 13) ?hd (xs := ([100, (-100)] : List Int)) (inner := [.int .i64 100, .int .i64 (-100)]) (ok := fun _ => True) (okp := fun _ => True) ?hr ?hp (fun _ hk => hk) trivial (Below.refl _ _) (Nat.le_refl _) (by simp) ?_; (case hd => rfl); (case hg => rfl); (case hr => first | (go_simp; done) | (go_simp; rfl)); (case hp => exact (Reps.one (show Kd.M (Kd.int .i64) _ _ _ 100 [.int .i64 100] from rfl) (Reps.one (show Kd.M (Kd.int .i64) _ _ _ (-100) [.int .i64 (-100)] from rfl) (Reps.none _ _))))
   intro v193 w17 ho18 hb hg_ hnew_
   clear hg_ hnew_
   (first | rw [← Ny192.out] at ho18 | (simp only [Int.reduceToNat] at ho18; rw [← Ny192.out] at ho18))
   have n0_ := Aside0.mk (Kd.R_elder' (zo HO184) (Kd.R_base ho18) hb)
   have n1_ := Aside0.mk (Kd.R_below (zo HO187) hb)
   have n2_ := Aside0.mk (Kd.R_lower (Kd.R_new' ho18 (Kd.R_lt (zo HO184))) (keep_size (w := w) (g := g) (row := none) (zk HK)))
   have n3_ := Aside0.mk (IsS129.below (zi129_10 HI0) hb)
   have n4_ := Aside0.mk (blk_below (g := gb181) (o := .cells #[.slice none 0 0, .slice none 0 0] 26 (0, 0)) (zb BK181) hb)
   have n5_ := Aside0.mk (blk_below (g := gb189) (o := .cells #[.slice Ao10 t182.length co10, .slice Ao14 t185.length co14] 26 (0, 0)) (zb BK189) hb)
   have n6_ := Aside0.mk (KeepBut.trans (zk HK) (KeepBut.of_below hb g none) (.inl rfl))
   have n7_ := Aside0.mk (below_step (by repeat (first | (with_reducible first | exact HB.out | apply below_alloc | apply pw_below_drewN | apply below_drew1 | refine below_set ?_ (IsS129.ge HI0.out) | refine below_set ?_ GE181.out | refine below_set ?_ GE189.out) | exact HB.out)) hb)
   clear HO184
   clear HO187
   clear HI0
   clear BK181
   clear BK189
   clear HK
   clear HB
   have HO184 := n0_
   have HO187 := n1_
   have HO194 := n2_
   have HI0 := n3_
   have BK181 := n4_
   have BK189 := n5_
   have HK := n6_
   have HB := n7_
   clear n0_ n1_ n2_ n3_ n4_ n5_ n6_ n7_
   clear hb ho18
   obtain ⟨Ao19, co19, eo19⟩ := Kd.R_slice HO194.out
   (first | subst eo19 | (injection eo19 with f1_ f2_ f3_; have f4_ := f1_.symm; have f5_ := f3_.symm; clear f1_ f2_ f3_; subst f4_; subst f5_))
   refine hK.out _ _ ⟨(blk_cell BK189.out 0).trans rfl, (blk_cell BK189.out 1).trans rfl⟩ (fun hHeld => ?_)
   clear hK K
   refine norm_ (a' := ?_) ?_ ?_
   rotate_left
   ·show Act.put _ (some 13) _ = _
    simp only [Act.put, List.setIfInBounds_toArray, List.set_cons_zero, List.set_cons_succ, i64_w, i32_w]
    rfl
   refine one_ (i := 4) (N := some 14) #[true, true, true, true, true, false, false, false, false] rfl rfl (one_of HT_.out (by kernel_rfl)) (by decide) (fun K hK => ?_)
   refine goes_ Try.func111 (by kernel_rfl) rfl #[.pointer (some ⟨g, 0, none⟩), .slice Ao19 y192.length co19] (by rfl) rfl rfl zl ?_
   with_reducible refine (spec_reader_one.calls k g s0_0 t191 _ _ y192 t195 t196 w0 _ ?side1 ?side2 ?side3 ?side4 ?side5 A5.out).mono ?_
   (case side1 => repeat (first | (with_reducible first | exact HI0.out | apply IsS129.alloc | apply IsS129.drewN | apply IsS129.drew | apply IsS129.set_1 | refine IsS129.far ?_ NB0_181.out _ | refine IsS129.far ?_ NB0_189.out _) | exact HI0.out))
   (case side2 => repeat (first | (with_reducible first | exact HB.out | apply below_alloc | apply pw_below_drewN | apply below_drew1 | refine below_set ?_ (IsS129.ge HI0.out) | refine below_set ?_ GE181.out | refine below_set ?_ GE189.out) | exact HB.out))
   (case side3 => repeat (first | exact (Kd.R_reads' HO194.out).2.2 | (with_reducible refine Kd.C_alloc ?_ _) | (with_reducible refine Kd.C_drewN ?_ _) | (with_reducible refine Kd.C_drew ?_)))
   (case side4 => exact (Kd.R_reads' HO194.out).2.1)
   (case side5 => exact far_slice (IsS129.own_ne HI0.out HO194.out (by decide)))
   rintro e w20 ⟨rfl, hi, hb, hk⟩
   refine ⟨_, rfl, ?_⟩
   have n0_ := Aside0.mk (KeepBut.blk hk (g' := gb181) (o := .cells #[.slice none 0 0, .slice none 0 0] 26 (0, 0)) (zb BK181) NB181_0.out (by simp))
   have n1_ := Aside0.mk (Kd.R_mono (Kd.R_keep (IsS129.apart (show IsS129 w0 _ g s0_0 t191 from by repeat (first | (with_reducible first | exact HI0.out | apply IsS129.alloc | apply IsS129.drewN | apply IsS129.drew | apply IsS129.set_1 | refine IsS129.far ?_ NB0_181.out _ | refine IsS129.far ?_ NB0_189.out _) | exact HI0.out)) (zo HO184) (by decide)) hk (fun _ h => h.2)) (fun _ h => h.1))
   have n2_ := Aside0.mk (Kd.R_mono (Kd.R_keep (IsS129.apart (show IsS129 w0 _ g s0_0 t191 from by repeat (first | (with_reducible first | exact HI0.out | apply IsS129.alloc | apply IsS129.drewN | apply IsS129.drew | apply IsS129.set_1 | refine IsS129.far ?_ NB0_181.out _ | refine IsS129.far ?_ NB0_189.out _) | exact HI0.out)) (zo HO187) (by decide)) hk (fun _ h => h.2)) (fun _ h => h.1))
   have n3_ := Aside0.mk (KeepBut.blk hk (g' := gb189) (o := .cells #[.slice Ao10 t182.length co10, .slice Ao14 t185.length co14] 26 (0, 0)) (zb BK189) NB189_0.out (by simp))
   have n4_ := Aside0.mk (Kd.R_mono (Kd.R_keep (IsS129.apart (show IsS129 w0 _ g s0_0 t191 from by repeat (first | (with_reducible first | exact HI0.out | apply IsS129.alloc | apply IsS129.drewN | apply IsS129.drew | apply IsS129.set_1 | refine IsS129.far ?_ NB0_181.out _ | refine IsS129.far ?_ NB0_189.out _) | exact HI0.out)) (zo HO194) (by decide)) hk (fun _ h => h.2)) (fun _ h => h.1))
   have n5_ := Aside0.mk (KeepBut.trans (zk HK) hk (.inl rfl))
   have n6_ := Aside0.mk (hb)
   have n7_ := Aside0.mk (hi)
   clear BK181
   clear HO184
   clear HO187
   clear BK189
   clear HO194
   clear HK
   clear HB
   clear HI0
   have BK181 := n0_
   have HO184 := n1_
   have HO187 := n2_
   have BK189 := n3_
   have HO194 := n4_
   have HK := n5_
   have HB := n6_
   have HI0 := n7_
   clear n0_ n1_ n2_ n3_ n4_ n5_ n6_ n7_
   (try clear hb)
   (try clear hb2)
   (try clear hk)
   (try clear hi)
   refine hK.out _ _ ⟨(blk_cell BK189.out 0).trans rfl, (blk_cell BK189.out 1).trans rfl⟩ (fun hHeld => ?_)
   clear hK K
   refine norm_ (a' := ?_) ?_ ?_
   rotate_left
   ·show Act.put _ (some 14) _ = _
    simp only [Act.put, List.setIfInBounds_toArray, List.set_cons_zero, List.set_cons_succ, i64_w, i32_w]
    rfl
   refine one_ (i := 5) (N := some 15) #[true, true, true, true, true, true, false, false, false] rfl rfl (one_of HT_.out (by kernel_rfl)) (by decide) (fun K hK => ?_)
   refine value_ (w1 := ?_) (v := ?_) (by rfl) rfl ?_ ?_
   rotate_left 2
   ·go_simp
    constructor
    ·rfl
    ·rfl
   refine hK.out _ _ ⟨(blk_cell (blk_alloc BK189.out _) 0).trans rfl, (blk_cell (blk_alloc BK189.out _) 1).trans rfl⟩ (fun hHeld => ?_)
   clear hK K
   refine norm_ (a' := ?_) ?_ ?_
   rotate_left
   ·show Act.put _ (some 15) _ = _
    simp only [Act.put, List.setIfInBounds_toArray, List.set_cons_zero, List.set_cons_succ, i64_w, i32_w]
    rfl
   refine one_ (i := 6) (N := some 16) #[true, true, true, true, true, true, true, false, false] rfl rfl (one_of HT_.out (by kernel_rfl)) (by decide) (fun K hK => ?_)
   refine Kd.R_append_step (Kd.int .i64) w.heap.size (by rfl) (.tmp 11) (.tmp 15) 23 3 (.int .i64 0) 8 rfl Try.underlying23 info3 rfl (by decide) (by omega) (.slice Ao10 t182.length co10) t182 t195 [.int .i64 t195] (fun k_ => some k_ ≠ (.slice Ao19 y192.length co19 : Value).ownBlock) (fun _ => False) rfl rfl ?aP (fun _ hk => hk.elim) ?aF ?aO (Below.refl _ _) ?aS ?aL ?_
   (case aP => exact rfl)
   (case aF => exact (fun k_ hk => Kd.fresh' (Kd.R_lt (zo HO194)) k_ hk))
   (case aO => exact (by (with_reducible repeat (first | apply Kd.R_alloc | apply Kd.R_drewN | apply Kd.R_drew)); exact Kd.R_mono HO184.out (fun _ hk => hk.2)))
   (case aS => exact (keep_size (w := w) (g := g) (row := none) (zk HK)))
   (case aL => have := LMc6.out; omega)
   intro v198 w21 ho hb hg hat
   rw [← Ny197.out] at ho
   have n0_ := Aside0.mk (IsS129.grown (zi129_10 HI0) hg (IsS129.own_ne HI0.out HO184.out (by decide)))
   have n1_ := Aside0.mk (blk_grown (g := gb181) (o := .cells #[.slice none 0 0, .slice none 0 0] 26 (0, 0)) (zb BK181) hg (Kd.R_ne HO184.out BK181.out (by decide)))
   have n2_ := Aside0.mk (Kd.R_over' (zo HO187) (Kd.R_typed (zo HO184)) (by decide) hg)
   have n3_ := Aside0.mk (blk_grown (g := gb189) (o := .cells #[.slice Ao10 t182.length co10, .slice Ao14 t185.length co14] 26 (0, 0)) (zb BK189) hg (Kd.R_ne HO184.out BK189.out (by decide)))
   have n4_ := Aside0.mk (Kd.R_after (ok := (fun _ => True)) (zo HO194) hg hat)
   have n5_ := Aside0.mk (below_weaken (by repeat (first | (with_reducible first | exact HB.out | apply below_alloc | apply pw_below_drewN | apply below_drew1 | refine below_set ?_ (IsS129.ge HI0.out) | refine below_set ?_ GE181.out | refine below_set ?_ GE189.out) | exact HB.out)) HL.out hb)
   have n6_ := Aside0.mk (KeepBut.trans (zk HK) (KeepBut.of_grown hg g) (Kd.R_base2 HO184.out))
   have n7_ := Aside0.mk (ho)
   clear HI0
   clear BK181
   clear HO187
   clear BK189
   clear HO194
   clear HB
   clear HK
   clear HO184
   have HI0 := n0_
   have BK181 := n1_
   have HO187 := n2_
   have BK189 := n3_
   have HO194 := n4_
   have HB := n5_
   have HK := n6_
   have HO199 := n7_
   clear n0_ n1_ n2_ n3_ n4_ n5_ n6_ n7_
   clear ho hb hg hat
   obtain ⟨Ao22, co22, eo22⟩ := Kd.R_slice HO199.out
   (first | subst eo22 | (injection eo22 with f1_ f2_ f3_; have f4_ := f1_.symm; have f5_ := f3_.symm; clear f1_ f2_ f3_; subst f4_; subst f5_))
   refine hK.out _ _ ⟨(blk_cell BK189.out 0).trans rfl, (blk_cell BK189.out 1).trans rfl⟩ (fun hHeld => ?_)
   clear hK K
   refine norm_ (a' := ?_) ?_ ?_
   rotate_left
   ·show Act.put _ (some 16) _ = _
    simp only [Act.put, List.setIfInBounds_toArray, List.set_cons_zero, List.set_cons_succ, i64_w, i32_w]
    rfl
   refine pure_ (i := 7) (N := some 17) (v := ?_) (a' := ?_) #[true, true, true, true, true, true, true, true, false] rfl rfl (any_of HT_.out (by kernel_rfl)) (fun _ _ _ h => h) (Or.inl ⟨by rfl, ?_⟩) ?_ ?_
   rotate_left
   ·intro w'
    go_simp
    with_reducible rfl
   rotate_left
   ·simp only [Act.put, List.setIfInBounds_toArray, List.set_cons_zero, List.set_cons_succ, i64_w, i32_w]
    rfl
   refine last_ (i := 8) (N := none) #[true, true, true, true, true, true, true, true, true] rfl rfl (one_of HT_.out (by kernel_rfl)) (by decide) (fun K hK => ?_)
   have hs23 : w21.cell? ⟨gb189, 0, none⟩ = some (.slice Ao10 t182.length co10) := (blk_cell BK189.out 0).trans rfl
   have hfs23 := blk_frozen BK189.out 0
   have hns23_0 := NB181_189.out
   have hms23_0 := NB189_181.out
   refine skip_ (w1 := ?_) (by rfl) rfl ?_ ?_
   rotate_left
   ·go_simp
    rfl
   refine hK.out _ _ ?_
   clear hK K
   refine done_ (done_of HT_.out (by kernel_rfl)) ?_
   have hcz24_0 : w21.cell? ⟨gb189, 0, none⟩ = some (.slice Ao10 t182.length co10) := (blk_cell BK189.out 0).trans rfl
   have hcz24_1 : w21.cell? ⟨gb189, 1, none⟩ = some (.slice Ao14 t185.length co14) := (blk_cell BK189.out 1).trans rfl
   have hfz24_0 := blk_frozen BK189.out 0
   have hfz24_1 := blk_frozen BK189.out 1
   have hnb25 := NB181_0.out
   have hnc25 := NB0_181.out
   have hcz26_0 : w21.cell? ⟨gb181, 0, none⟩ = some (.slice none 0 0) := (blk_cell BK181.out 0).trans rfl
   have hcz26_1 : w21.cell? ⟨gb181, 1, none⟩ = some (.slice none 0 0) := (blk_cell BK181.out 1).trans rfl
   have hfz26_0 := blk_frozen BK181.out 0
   have hfz26_1 := blk_frozen BK181.out 1
   try go_wp2
   refine bodyPost_ret (results_cell_row rfl _ _ gb181 26 #[.slice Ao22 y197.length co22, .slice Ao14 t185.length co14] (0, 0) _ rfl (by (with_reducible repeat (first | refine blk_drewN ?_ _ | refine blk_drew ?_ | refine blk_alloc ?_ _)); refine blk_put (cs := #[.slice Ao22 y197.length co22, .slice none 0 0]) ?_ 1 _ rfl; (with_reducible repeat (first | refine blk_drewN ?_ _ | refine blk_drew ?_ | refine blk_alloc ?_ _)); refine blk_put (cs := #[.slice none 0 0, .slice none 0 0]) ?_ 0 _ rfl; (with_reducible repeat (first | refine blk_drewN ?_ _ | refine blk_drew ?_ | refine blk_alloc ?_ _)); refine blk_far ?_ NB181_189.out _; (with_reducible repeat (first | refine blk_drewN ?_ _ | refine blk_drew ?_ | refine blk_alloc ?_ _)); exact BK181.out) Try.underlying26 rfl (by kernel_rfl)) rfl ?_
   exact ⟨_, _, by first | rfl | (simp [errW_none, errW_some] <;> rfl) | (simp [*, errW_none, errW_some] <;> rfl), by (with_reducible repeat (first | apply Kd.R_alloc | apply Kd.R_drewN | apply Kd.R_drew)); exact Kd.R_mono (Kd.R_far (p := ⟨gb181, 1, none⟩) (Kd.R_far (p := ⟨gb181, 0, none⟩) (Kd.R_far (p := ⟨gb189, 0, none⟩) (Kd.R_types (Kd.R_types HO199.out BK189.out (by decide)) BK181.out (by decide)) (fun _ hk => hk.1.2) (.slice Ao22 y197.length co22)) (fun _ hk => hk.2) (.slice Ao22 y197.length co22)) (fun _ hk => hk.2) (.slice Ao14 t185.length co14)) (fun _ hk => trivial), by (with_reducible repeat (first | apply Kd.R_alloc | apply Kd.R_drewN | apply Kd.R_drew)); exact Kd.R_mono (Kd.R_far (p := ⟨gb181, 1, none⟩) (Kd.R_far (p := ⟨gb181, 0, none⟩) (Kd.R_far (p := ⟨gb189, 0, none⟩) (Kd.R_types (Kd.R_types HO187.out BK189.out (by decide)) BK181.out (by decide)) (fun _ hk => hk.1.2) (.slice Ao22 y197.length co22)) (fun _ hk => hk.2) (.slice Ao22 y197.length co22)) (fun _ hk => hk.2) (.slice Ao14 t185.length co14)) (fun _ hk => trivial), by repeat (first | (with_reducible first | exact HI0.out | apply IsS129.alloc | apply IsS129.drewN | apply IsS129.drew | apply IsS129.set_1 | refine IsS129.far ?_ NB0_181.out _ | refine IsS129.far ?_ NB0_189.out _) | exact HI0.out), by repeat (first | (with_reducible first | exact HB.out | apply below_alloc | apply pw_below_drewN | apply below_drew1 | refine below_set ?_ (IsS129.ge HI0.out) | refine below_set ?_ GE181.out | refine below_set ?_ GE189.out) | exact HB.out), by repeat (first | (with_reducible first | exact HK.out | apply KeepBut.set_ | apply keep_drewN | apply keep_drew | apply keep_alloc | refine keep_far ?_ GW181.out _ | refine keep_far ?_ GW189.out _) | exact HK.out)⟩
  ·rw [if_neg c6] at H
   exact absurd H (by simp)
 ·rw [if_neg c4] at H
  have c4b0 : (t190 == 0) = false := beq_eq_false_iff_ne.mpr c4
  have c4b1 : (t190 != 0) = true := bne_iff_ne.mpr c4
  by_cases c27 : t190 = 1
  ·rw [if_pos c27] at H
   have c27b0 : (t190 == 1) = true := beq_iff_eq.mpr c27
   have c27b1 : (t190 != 1) = false := bne_eq_false_iff_eq.mpr c27
   clear c27
   replace H := Option.bind_eq_some_iff.mp H
   obtain ⟨⟨t200, t201⟩, A280, H⟩ := H
   replace H : ((spec_anyNumber.f k s0_0 t201).bind fun bt202 => (if t185.length < 5864062014805 then (some (t182, (t185 ++ [(⟨t200, bt202.1⟩ : S33)]), bt202.2)) else (none))) = some (r1, r2, r3) := H
   have A28 := Aside0.mk A280
   clear A280
   replace H := Option.bind_eq_some_iff.mp H
   obtain ⟨⟨t202, t203⟩, A290, H⟩ := H
   replace H : (if t185.length < 5864062014805 then (some (t182, (t185 ++ [(⟨t200, t202⟩ : S33)]), t203)) else (none)) = some (r1, r2, r3) := H
   have A29 := Aside0.mk A290
   clear A290
   by_cases c30 : t185.length < 5864062014805
   ·rw [if_pos c30] at H
    have LMc30 := Aside0.mk c30
    clear c30
    obtain ⟨y204, hy204⟩ : ∃ y_ : List (S33), y_ = (t185 ++ [(⟨t200, t202⟩ : S33)]) := ⟨_, rfl⟩
    replace H : (some (t182, y204, t203)) = some (r1, r2, r3) := by first | (rw [hy204]; with_reducible exact H) | (have H2_ := (Option.bind_some _ _).symm.trans H; rw [hy204]; with_reducible exact H2_) | (have H2_ := (Option.bind_some _ _).symm.trans H; with_reducible exact H2_) | with_reducible exact H | (rw [hy204]; exact H) | exact H
    have Ny204 := Aside0.mk hy204
    clear hy204
    simp only [Option.some.injEq, Prod.mk.injEq] at H
    obtain ⟨rfl, rfl, rfl⟩ := H
    go_enter Try.func61, Try.ntmps61
    try go_wp2_with (first | ((with_reducible refine gate_dst (N := 2) rfl ?_); refine box_event ?hg (N := 2) ?hd (cs := #[.slice none 0 0, .slice none 0 0]) (t := 26) ?hr ?_; (case hd => rfl); (case hg => rfl); (case hr => first | (go_simp; done) | (go_simp; rfl)); intro gb181 hg w31 hbox hb; have n0_ := Aside0.mk (IsS129.below (zi129_10 HI0) hb); have n1_ := Aside0.mk (KeepBut.trans (zk HK) (KeepBut.of_below hb g none) (.inl rfl)); have n2_ := Aside0.mk (below_step (by repeat (first | (with_reducible first | exact HB.out | apply below_alloc | apply pw_below_drewN | apply below_drew1 | refine below_set ?_ (IsS129.ge HI0.out)) | exact HB.out)) hb); have n3_ := Aside0.mk (hbox); have n4_ := Aside0.mk ((by rw [hg]; exact (keep_size (w := w) (g := g) (row := none) (zk HK)) : w.heap.size ≤ gb181)); have n5_ := Aside0.mk ((Nat.le_trans HW0.out (by rw [hg]; exact (keep_size (w := w) (g := g) (row := none) (zk HK)) : w.heap.size ≤ gb181) : w0.heap.size ≤ gb181)); have n6_ := Aside0.mk ((by rw [hg]; exact Nat.ne_of_lt (IsS129.lt (show IsS129 w0 _ g s0_0 s0_1 from by repeat (first | (with_reducible first | exact HI0.out | apply IsS129.alloc | apply IsS129.drewN | apply IsS129.drew | apply IsS129.set_1) | exact HI0.out))) : g ≠ gb181)); have n7_ := Aside0.mk ((by rw [hg]; exact Nat.ne_of_gt (IsS129.lt (show IsS129 w0 _ g s0_0 s0_1 from by repeat (first | (with_reducible first | exact HI0.out | apply IsS129.alloc | apply IsS129.drewN | apply IsS129.drew | apply IsS129.set_1) | exact HI0.out))) : gb181 ≠ g)); clear HI0; clear HK; clear HB; have HI0 := n0_; have HK := n1_; have HB := n2_; have BK181 := n3_; have GW181 := n4_; have GE181 := n5_; have NB0_181 := n6_; have NB181_0 := n7_; clear n0_ n1_ n2_ n3_ n4_ n5_ n6_ n7_; clear hb hbox hg) | ((with_reducible refine gate_callee (f := 110) rfl ?_); refine goesL_ (some 5) rfl rfl Try.func110 (by kernel_rfl) rfl #[.pointer (some ⟨g, 0, none⟩)] rfl zl ?_; (with_reducible refine (spec_goodFlat.calls k g s0_0 s0_1 t182 t185 t188 w0 _ ?side1 ?side2 A2.out).mono ?_); (case side1 => repeat (first | (with_reducible first | exact HI0.out | apply IsS129.alloc | apply IsS129.drewN | apply IsS129.drew | apply IsS129.set_1 | refine IsS129.far ?_ NB0_181.out _) | exact HI0.out)); (case side2 => repeat (first | (with_reducible first | exact HB.out | apply below_alloc | apply pw_below_drewN | apply below_drew1 | refine below_set ?_ (IsS129.ge HI0.out) | refine below_set ?_ GE181.out) | exact HB.out)); rintro e w32 ⟨v183, v186, rfl, ho0, ho1, hi, hb, hk⟩; refine ⟨_, rfl, ?_⟩; have n0_ := Aside0.mk (KeepBut.blk hk (g' := gb181) (o := .cells #[.slice none 0 0, .slice none 0 0] 26 (0, 0)) (zb BK181) NB181_0.out (by simp)); have n1_ := Aside0.mk (Kd.R_lower ho0 (keep_size (w := w) (g := g) (row := none) (zk HK))); have n2_ := Aside0.mk (Kd.R_lower ho1 (keep_size (w := w) (g := g) (row := none) (zk HK))); have n3_ := Aside0.mk (KeepBut.trans (zk HK) hk (.inl rfl)); have n4_ := Aside0.mk (hb); have n5_ := Aside0.mk (hi); clear BK181; clear HK; clear HB; clear HI0; have BK181 := n0_; have HO184 := n1_; have HO187 := n2_; have HK := n3_; have HB := n4_; have HI0 := n5_; clear n0_ n1_ n2_ n3_ n4_ n5_; (try clear hb); (try clear hb2); (try clear hk); (try clear hi); (try clear ho0); (try clear ho1)) | ((with_reducible refine gate_dst (N := 3) rfl ?_); refine box_event ?hg (N := 3) ?hd (cs := #[.slice none 0 0, .slice none 0 0]) (t := 26) ?hr ?_; (case hd => rfl); (case hg => rfl); (case hr => first | (go_simp; done) | (go_simp; rfl)); intro gb189 hg w33 hbox hb; have n0_ := Aside0.mk (Kd.R_below (zo HO184) hb); have n1_ := Aside0.mk (Kd.R_below (zo HO187) hb); have n2_ := Aside0.mk (IsS129.below (zi129_10 HI0) hb); have n3_ := Aside0.mk (blk_below (g := gb181) (o := .cells #[.slice none 0 0, .slice none 0 0] 26 (0, 0)) (zb BK181) hb); have n4_ := Aside0.mk (KeepBut.trans (zk HK) (KeepBut.of_below hb g none) (.inl rfl)); have n5_ := Aside0.mk (below_step (by repeat (first | (with_reducible first | exact HB.out | apply below_alloc | apply pw_below_drewN | apply below_drew1 | refine below_set ?_ (IsS129.ge HI0.out) | refine below_set ?_ GE181.out) | exact HB.out)) hb); have n6_ := Aside0.mk (hbox); have n7_ := Aside0.mk ((by rw [hg]; exact (keep_size (w := w) (g := g) (row := none) (zk HK)) : w.heap.size ≤ gb189)); have n8_ := Aside0.mk ((Nat.le_trans HW0.out (by rw [hg]; exact (keep_size (w := w) (g := g) (row := none) (zk HK)) : w.heap.size ≤ gb189) : w0.heap.size ≤ gb189)); have n9_ := Aside0.mk ((by rw [hg]; exact Nat.ne_of_lt (blk_lt (g := gb181) (o := .cells #[.slice none 0 0, .slice none 0 0] 26 (0, 0)) (zb BK181)) : gb181 ≠ gb189)); have n10_ := Aside0.mk ((by rw [hg]; exact Nat.ne_of_gt (blk_lt (g := gb181) (o := .cells #[.slice none 0 0, .slice none 0 0] 26 (0, 0)) (zb BK181)) : gb189 ≠ gb181)); have n11_ := Aside0.mk ((by rw [hg]; exact Nat.ne_of_lt (IsS129.lt (show IsS129 w0 _ g s0_0 t188 from by repeat (first | (with_reducible first | exact HI0.out | apply IsS129.alloc | apply IsS129.drewN | apply IsS129.drew | apply IsS129.set_1 | refine IsS129.far ?_ NB0_181.out _) | exact HI0.out))) : g ≠ gb189)); have n12_ := Aside0.mk ((by rw [hg]; exact Nat.ne_of_gt (IsS129.lt (show IsS129 w0 _ g s0_0 t188 from by repeat (first | (with_reducible first | exact HI0.out | apply IsS129.alloc | apply IsS129.drewN | apply IsS129.drew | apply IsS129.set_1 | refine IsS129.far ?_ NB0_181.out _) | exact HI0.out))) : gb189 ≠ g)); clear HO184; clear HO187; clear HI0; clear BK181; clear HK; clear HB; have HO184 := n0_; have HO187 := n1_; have HI0 := n2_; have BK181 := n3_; have HK := n4_; have HB := n5_; have BK189 := n6_; have GW189 := n7_; have GE189 := n8_; have NB181_189 := n9_; have NB189_181 := n10_; have NB0_189 := n11_; have NB189_0 := n12_; clear n0_ n1_ n2_ n3_ n4_ n5_ n6_ n7_ n8_ n9_ n10_ n11_ n12_; clear hb hbox hg; obtain ⟨Ao34, co34, eo34⟩ := Kd.R_slice HO184.out; subst eo34; have hnb35 := NB189_181.out; have hnc35 := NB181_189.out; have hnb36 := NB189_0.out; have hnc36 := NB0_189.out; have hcz37_0 : w33.cell? ⟨gb189, 0, none⟩ = some (.slice none 0 0) := (blk_cell BK189.out 0).trans rfl; have hcz37_1 : w33.cell? ⟨gb189, 1, none⟩ = some (.slice none 0 0) := (blk_cell BK189.out 1).trans rfl; have hfz37_0 := blk_frozen BK189.out 0; have hfz37_1 := blk_frozen BK189.out 1; obtain ⟨Ao38, co38, eo38⟩ := Kd.R_slice HO187.out; subst eo38) | ((with_reducible refine gate_callee (f := 90) rfl ?_); refine goesL_ (some 7) rfl rfl Try.func90 (by kernel_rfl) rfl #[.pointer (some ⟨g, 0, none⟩), .int .i64 24] rfl zl ?_; (with_reducible refine (spec_reader_pick.calls k g s0_0 t188 24 t190 t191 w0 _ ?side1 ?side2 A3.out).mono ?_); (case side1 => repeat (first | (with_reducible first | exact HI0.out | apply IsS129.alloc | apply IsS129.drewN | apply IsS129.drew | apply IsS129.set_1 | refine IsS129.far ?_ NB0_181.out _ | refine IsS129.far ?_ NB0_189.out _) | exact HI0.out)); (case side2 => repeat (first | (with_reducible first | exact HB.out | apply below_alloc | apply pw_below_drewN | apply below_drew1 | refine below_set ?_ (IsS129.ge HI0.out) | refine below_set ?_ GE181.out | refine below_set ?_ GE189.out) | exact HB.out)); rintro e w39 ⟨rfl, hi, hb, hk⟩; refine ⟨_, rfl, ?_⟩; have n0_ := Aside0.mk (KeepBut.blk hk (g' := gb181) (o := .cells #[.slice none 0 0, .slice none 0 0] 26 (0, 0)) (by (with_reducible repeat (first | refine blk_drewN ?_ _ | refine blk_drew ?_ | refine blk_alloc ?_ _)); refine blk_far ?_ NB181_189.out _; (with_reducible repeat (first | refine blk_drewN ?_ _ | refine blk_drew ?_ | refine blk_alloc ?_ _)); refine blk_far ?_ NB181_189.out _; (with_reducible repeat (first | refine blk_drewN ?_ _ | refine blk_drew ?_ | refine blk_alloc ?_ _)); exact BK181.out) NB181_0.out (by simp)); have n1_ := Aside0.mk (Kd.R_mono (Kd.R_keep (IsS129.apart (show IsS129 w0 _ g s0_0 t188 from by repeat (first | (with_reducible first | exact HI0.out | apply IsS129.alloc | apply IsS129.drewN | apply IsS129.drew | apply IsS129.set_1 | refine IsS129.far ?_ NB0_181.out _ | refine IsS129.far ?_ NB0_189.out _) | exact HI0.out)) (by (with_reducible repeat (first | apply Kd.R_alloc | apply Kd.R_drewN | apply Kd.R_drew)); exact (Kd.R_mono (Kd.R_far (p := ⟨gb189, 1, none⟩) (Kd.R_far (p := ⟨gb189, 0, none⟩) (Kd.R_types HO184.out BK189.out (by decide)) (fun _ hk => hk.2) (.slice Ao34 t182.length co34)) (fun _ hk => hk.2) (.slice Ao38 t185.length co38)) (fun _ h_ => h_.1))) (by decide)) hk (fun _ h => h.2)) (fun _ h => h.1)); have n2_ := Aside0.mk (Kd.R_mono (Kd.R_keep (IsS129.apart (show IsS129 w0 _ g s0_0 t188 from by repeat (first | (with_reducible first | exact HI0.out | apply IsS129.alloc | apply IsS129.drewN | apply IsS129.drew | apply IsS129.set_1 | refine IsS129.far ?_ NB0_181.out _ | refine IsS129.far ?_ NB0_189.out _) | exact HI0.out)) (by (with_reducible repeat (first | apply Kd.R_alloc | apply Kd.R_drewN | apply Kd.R_drew)); exact (Kd.R_mono (Kd.R_far (p := ⟨gb189, 1, none⟩) (Kd.R_far (p := ⟨gb189, 0, none⟩) (Kd.R_types HO187.out BK189.out (by decide)) (fun _ hk => hk.2) (.slice Ao34 t182.length co34)) (fun _ hk => hk.2) (.slice Ao38 t185.length co38)) (fun _ h_ => h_.1))) (by decide)) hk (fun _ h => h.2)) (fun _ h => h.1)); have n3_ := Aside0.mk (KeepBut.blk hk (g' := gb189) (o := .cells #[.slice Ao34 t182.length co34, .slice Ao38 t185.length co38] 26 (0, 0)) (by (with_reducible repeat (first | refine blk_drewN ?_ _ | refine blk_drew ?_ | refine blk_alloc ?_ _)); refine blk_put (cs := #[.slice Ao34 t182.length co34, .slice none 0 0]) ?_ 1 _ rfl; (with_reducible repeat (first | refine blk_drewN ?_ _ | refine blk_drew ?_ | refine blk_alloc ?_ _)); refine blk_put (cs := #[.slice none 0 0, .slice none 0 0]) ?_ 0 _ rfl; (with_reducible repeat (first | refine blk_drewN ?_ _ | refine blk_drew ?_ | refine blk_alloc ?_ _)); exact BK189.out) NB189_0.out (by simp)); have n4_ := Aside0.mk (KeepBut.trans (zk HK) hk (.inl rfl)); have n5_ := Aside0.mk (hb); have n6_ := Aside0.mk (hi); clear BK181; clear HO184; clear HO187; clear BK189; clear HK; clear HB; clear HI0; have BK181 := n0_; have HO184 := n1_; have HO187 := n2_; have BK189 := n3_; have HK := n4_; have HB := n5_; have HI0 := n6_; clear n0_ n1_ n2_ n3_ n4_ n5_ n6_; (try clear hb); (try clear hb2); (try clear hk); (try clear hi)))
    have n0_ := Aside0.mk (Kd.R_drew HO184.out)
    have n1_ := Aside0.mk (Kd.R_drew HO187.out)
    have n2_ := Aside0.mk (blk_drew BK181.out)
    have n3_ := Aside0.mk (blk_drew BK189.out)
    have n4_ := Aside0.mk (IsS129.drew HI0.out)
    have n5_ := Aside0.mk (keep_drew HK.out)
    have n6_ := Aside0.mk (below_drew1 HB.out)
    clear HO184
    clear HO187
    clear BK181
    clear BK189
    clear HI0
    clear HK
    clear HB
    have HO184 := n0_
    have HO187 := n1_
    have BK181 := n2_
    have BK189 := n3_
    have HI0 := n4_
    have HK := n5_
    have HB := n6_
    clear n0_ n1_ n2_ n3_ n4_ n5_ n6_
    refine start_ (n := 11) (S := fun w' => w'.cell? ⟨gb189, 0, none⟩ = some (.slice Ao34 t182.length co34) ∧ w'.cell? ⟨gb189, 1, none⟩ = some (.slice Ao38 t185.length co38)) (ds := [10]) #[false, false, false, false, false, false, false, false, false, false, false] (by kernel_rfl) rfl rfl ⟨(blk_cell BK189.out 0).trans rfl, (blk_cell BK189.out 1).trans rfl⟩ (fun hHeld => ?_); refine with_tabW spec_someFlat.tab6 spec_someFlat.bits6 (fun HT_ HW_ => ?_)
    generalize w39.drew = w40 at HO184 HO187 BK181 BK189 HI0 HK HB hHeld ⊢
    refine pure_ (i := 0) (N := some 20) (v := ?_) (a' := ?_) #[true, false, false, false, false, false, false, false, false, false, false] rfl rfl (any_of HT_.out (by kernel_rfl)) (fun _ _ _ h => h) (Or.inl ⟨by rfl, ?_⟩) ?_ ?_
    rotate_left
    ·intro w'
     go_simp
     with_reducible rfl
    rotate_left
    ·simp only [Act.put, List.setIfInBounds_toArray, List.set_cons_zero, List.set_cons_succ, i64_w, i32_w]
     rfl
    refine pure_ (i := 2) (N := some 22) (v := ?_) (a' := ?_) #[true, false, true, false, false, false, false, false, false, false, false] rfl rfl (any_of HT_.out (by kernel_rfl)) (fun _ _ _ h => h) (Or.inl ⟨by rfl, ?_⟩) ?_ ?_
    rotate_left
    ·intro w'
     go_simp
     with_reducible rfl
    rotate_left
    ·simp only [Act.put, List.setIfInBounds_toArray, List.set_cons_zero, List.set_cons_succ, i64_w, i32_w]
     rfl
    refine pure_ (i := 4) (N := some 24) (v := ?_) (a' := ?_) #[true, false, true, false, true, false, false, false, false, false, false] rfl rfl (any_of HT_.out (by kernel_rfl)) (fun _ _ _ h => h) (Or.inl ⟨by rfl, ?_⟩) ?_ ?_
    rotate_left
    ·intro w'
     go_simp
     with_reducible rfl
    rotate_left
    ·simp only [Act.put, List.setIfInBounds_toArray, List.set_cons_zero, List.set_cons_succ, i64_w, i32_w]
     rfl
    refine take_ (i := 1) (N := some 21) (v := ?_) (a' := ?_) #[true, true, true, false, true, false, false, false, false, false, false] rfl rfl (take_ofW HT_.out HW_.out (by kernel_rfl)) (fun _ _ _ h => h) (Or.inl ⟨by rfl, ?_⟩) hHeld ?_ ?_
    rotate_left
    ·rintro w' ⟨s0, s1⟩
     go_simp
     with_reducible rfl
    rotate_left
    ·simp only [Act.put, List.setIfInBounds_toArray, List.set_cons_zero, List.set_cons_succ, i64_w, i32_w]
     rfl
    refine one_ (i := 3) (N := some 23) #[true, true, true, true, true, false, false, false, false, false, false] rfl rfl (one_of HT_.out (by kernel_rfl)) (by decide) (fun K hK => ?_)
    refine goes_ Try.func112 (by kernel_rfl) rfl #[.pointer (some ⟨g, 0, none⟩)] (by rfl) rfl rfl zl ?_
    with_reducible refine (spec_anyName.calls k g s0_0 t191 t200 t201 w0 _ ?side1 ?side2 A28.out).mono ?_
    (case side1 => repeat (first | (with_reducible first | exact HI0.out | apply IsS129.alloc | apply IsS129.drewN | apply IsS129.drew | apply IsS129.set_1 | refine IsS129.far ?_ NB0_181.out _ | refine IsS129.far ?_ NB0_189.out _) | exact HI0.out))
    (case side2 => repeat (first | (with_reducible first | exact HB.out | apply below_alloc | apply pw_below_drewN | apply below_drew1 | refine below_set ?_ (IsS129.ge HI0.out) | refine below_set ?_ GE181.out | refine below_set ?_ GE189.out) | exact HB.out))
    rintro e w41 ⟨rfl, hi, hb, hk⟩
    refine ⟨_, rfl, ?_⟩
    have n0_ := Aside0.mk (KeepBut.blk hk (g' := gb181) (o := .cells #[.slice none 0 0, .slice none 0 0] 26 (0, 0)) (zb BK181) NB181_0.out (by simp))
    have n1_ := Aside0.mk (Kd.R_mono (Kd.R_keep (IsS129.apart (show IsS129 w0 _ g s0_0 t191 from by repeat (first | (with_reducible first | exact HI0.out | apply IsS129.alloc | apply IsS129.drewN | apply IsS129.drew | apply IsS129.set_1 | refine IsS129.far ?_ NB0_181.out _ | refine IsS129.far ?_ NB0_189.out _) | exact HI0.out)) (zo HO184) (by decide)) hk (fun _ h => h.2)) (fun _ h => h.1))
    have n2_ := Aside0.mk (Kd.R_mono (Kd.R_keep (IsS129.apart (show IsS129 w0 _ g s0_0 t191 from by repeat (first | (with_reducible first | exact HI0.out | apply IsS129.alloc | apply IsS129.drewN | apply IsS129.drew | apply IsS129.set_1 | refine IsS129.far ?_ NB0_181.out _ | refine IsS129.far ?_ NB0_189.out _) | exact HI0.out)) (zo HO187) (by decide)) hk (fun _ h => h.2)) (fun _ h => h.1))
    have n3_ := Aside0.mk (KeepBut.blk hk (g' := gb189) (o := .cells #[.slice Ao34 t182.length co34, .slice Ao38 t185.length co38] 26 (0, 0)) (zb BK189) NB189_0.out (by simp))
    have n4_ := Aside0.mk (KeepBut.trans (zk HK) hk (.inl rfl))
    have n5_ := Aside0.mk (hb)
    have n6_ := Aside0.mk (hi)
    clear BK181
    clear HO184
    clear HO187
    clear BK189
    clear HK
    clear HB
    clear HI0
    have BK181 := n0_
    have HO184 := n1_
    have HO187 := n2_
    have BK189 := n3_
    have HK := n4_
    have HB := n5_
    have HI0 := n6_
    clear n0_ n1_ n2_ n3_ n4_ n5_ n6_
    (try clear hb)
    (try clear hb2)
    (try clear hk)
    (try clear hi)
    refine hK.out _ _ ⟨(blk_cell BK189.out 0).trans rfl, (blk_cell BK189.out 1).trans rfl⟩ (fun hHeld => ?_)
    clear hK K
    refine norm_ (a' := ?_) ?_ ?_
    rotate_left
    ·show Act.put _ (some 23) _ = _
     simp only [Act.put, List.setIfInBounds_toArray, List.set_cons_zero, List.set_cons_succ, i64_w, i32_w]
     rfl
    refine one_ (i := 5) (N := some 25) #[true, true, true, true, true, true, false, false, false, false, false] rfl rfl (one_of HT_.out (by kernel_rfl)) (by decide) (fun K hK => ?_)
    refine goes_ Try.func113 (by kernel_rfl) rfl #[.pointer (some ⟨g, 0, none⟩)] (by rfl) rfl rfl zl ?_
    with_reducible refine (spec_anyNumber.calls k g s0_0 t201 t202 t203 w0 _ ?side1 ?side2 A29.out).mono ?_
    (case side1 => repeat (first | (with_reducible first | exact HI0.out | apply IsS129.alloc | apply IsS129.drewN | apply IsS129.drew | apply IsS129.set_1 | refine IsS129.far ?_ NB0_181.out _ | refine IsS129.far ?_ NB0_189.out _) | exact HI0.out))
    (case side2 => repeat (first | (with_reducible first | exact HB.out | apply below_alloc | apply pw_below_drewN | apply below_drew1 | refine below_set ?_ (IsS129.ge HI0.out) | refine below_set ?_ GE181.out | refine below_set ?_ GE189.out) | exact HB.out))
    rintro e w42 ⟨rfl, hi, hb, hk⟩
    refine ⟨_, rfl, ?_⟩
    have n0_ := Aside0.mk (KeepBut.blk hk (g' := gb181) (o := .cells #[.slice none 0 0, .slice none 0 0] 26 (0, 0)) (zb BK181) NB181_0.out (by simp))
    have n1_ := Aside0.mk (Kd.R_mono (Kd.R_keep (IsS129.apart (show IsS129 w0 _ g s0_0 t201 from by repeat (first | (with_reducible first | exact HI0.out | apply IsS129.alloc | apply IsS129.drewN | apply IsS129.drew | apply IsS129.set_1 | refine IsS129.far ?_ NB0_181.out _ | refine IsS129.far ?_ NB0_189.out _) | exact HI0.out)) (zo HO184) (by decide)) hk (fun _ h => h.2)) (fun _ h => h.1))
    have n2_ := Aside0.mk (Kd.R_mono (Kd.R_keep (IsS129.apart (show IsS129 w0 _ g s0_0 t201 from by repeat (first | (with_reducible first | exact HI0.out | apply IsS129.alloc | apply IsS129.drewN | apply IsS129.drew | apply IsS129.set_1 | refine IsS129.far ?_ NB0_181.out _ | refine IsS129.far ?_ NB0_189.out _) | exact HI0.out)) (zo HO187) (by decide)) hk (fun _ h => h.2)) (fun _ h => h.1))
    have n3_ := Aside0.mk (KeepBut.blk hk (g' := gb189) (o := .cells #[.slice Ao34 t182.length co34, .slice Ao38 t185.length co38] 26 (0, 0)) (zb BK189) NB189_0.out (by simp))
    have n4_ := Aside0.mk (KeepBut.trans (zk HK) hk (.inl rfl))
    have n5_ := Aside0.mk (hb)
    have n6_ := Aside0.mk (hi)
    clear BK181
    clear HO184
    clear HO187
    clear BK189
    clear HK
    clear HB
    clear HI0
    have BK181 := n0_
    have HO184 := n1_
    have HO187 := n2_
    have BK189 := n3_
    have HK := n4_
    have HB := n5_
    have HI0 := n6_
    clear n0_ n1_ n2_ n3_ n4_ n5_ n6_
    (try clear hb)
    (try clear hb2)
    (try clear hk)
    (try clear hi)
    refine hK.out _ _ ⟨(blk_cell BK189.out 0).trans rfl, (blk_cell BK189.out 1).trans rfl⟩ (fun hHeld => ?_)
    clear hK K
    refine norm_ (a' := ?_) ?_ ?_
    rotate_left
    ·show Act.put _ (some 25) _ = _
     simp only [Act.put, List.setIfInBounds_toArray, List.set_cons_zero, List.set_cons_succ, i64_w, i32_w]
     rfl
    refine pure_ (i := 6) (N := some 26) (v := ?_) (a' := ?_) #[true, true, true, true, true, true, true, false, false, false, false] rfl rfl (any_of HT_.out (by kernel_rfl)) (fun _ _ _ h => h) (Or.inl ⟨by rfl, ?_⟩) ?_ ?_
    rotate_left
    ·intro w'
     go_simp
     with_reducible rfl
    rotate_left
    ·simp only [Act.put, List.setIfInBounds_toArray, List.set_cons_zero, List.set_cons_succ, i64_w, i32_w]
     rfl
    refine one_ (i := 7) (N := some 27) #[true, true, true, true, true, true, true, true, false, false, false] rfl rfl (one_of HT_.out (by kernel_rfl)) (by decide) (fun K hK => ?_)
    refine value_ (w1 := ?_) (v := ?_) (by rfl) rfl ?_ ?_
    rotate_left 2
    ·go_simp
     constructor
     ·rfl
     ·rfl
    refine hK.out _ _ ⟨(blk_cell (blk_alloc BK189.out _) 0).trans rfl, (blk_cell (blk_alloc BK189.out _) 1).trans rfl⟩ (fun hHeld => ?_)
    clear hK K
    refine norm_ (a' := ?_) ?_ ?_
    rotate_left
    ·show Act.put _ (some 27) _ = _
     simp only [Act.put, List.setIfInBounds_toArray, List.set_cons_zero, List.set_cons_succ, i64_w, i32_w]
     rfl
    refine one_ (i := 8) (N := some 28) #[true, true, true, true, true, true, true, true, true, false, false] rfl rfl (one_of HT_.out (by kernel_rfl)) (by decide) (fun K hK => ?_)
    refine Kd.R_append_step k33 w.heap.size (by rfl) (.tmp 21) (.tmp 27) 24 33 (.agg #[(.string ⟨#[]⟩), (.int .i64 0)]) 24 rfl Try.underlying24 info33 rfl (by decide) (by omega) (.slice Ao38 t185.length co38) t185 (⟨t200, t202⟩ : S33) [.string t200, .int .i64 t202] (fun _ => True) (fun _ => False) rfl rfl ?aP (fun _ hk => hk.elim) ?aF ?aO (Below.refl _ _) ?aS ?aL ?_
    (case aP => exact k33_mkM _ _ _ (⟨t200, t202⟩ : S33))
    (case aF => exact (fun _ _ => trivial))
    (case aO => exact (zo HO187))
    (case aS => exact (keep_size (w := w) (g := g) (row := none) (zk HK)))
    (case aL => have := LMc30.out; omega)
    intro v205 w43 ho hb hg hat
    rw [← Ny204.out] at ho
    have n0_ := Aside0.mk (IsS129.grown (zi129_10 HI0) hg (IsS129.own_ne HI0.out HO187.out (by decide)))
    have n1_ := Aside0.mk (blk_grown (g := gb181) (o := .cells #[.slice none 0 0, .slice none 0 0] 26 (0, 0)) (zb BK181) hg (Kd.R_ne HO187.out BK181.out (by decide)))
    have n2_ := Aside0.mk (Kd.R_over' (zo HO184) (Kd.R_typed (zo HO187)) (by decide) hg)
    have n3_ := Aside0.mk (blk_grown (g := gb189) (o := .cells #[.slice Ao34 t182.length co34, .slice Ao38 t185.length co38] 26 (0, 0)) (zb BK189) hg (Kd.R_ne HO187.out BK189.out (by decide)))
    have n4_ := Aside0.mk (below_weaken (by repeat (first | (with_reducible first | exact HB.out | apply below_alloc | apply pw_below_drewN | apply below_drew1 | refine below_set ?_ (IsS129.ge HI0.out) | refine below_set ?_ GE181.out | refine below_set ?_ GE189.out) | exact HB.out)) HL.out hb)
    have n5_ := Aside0.mk (KeepBut.trans (zk HK) (KeepBut.of_grown hg g) (Kd.R_base2 HO187.out))
    have n6_ := Aside0.mk (ho)
    clear HI0
    clear BK181
    clear HO184
    clear BK189
    clear HB
    clear HK
    clear HO187
    have HI0 := n0_
    have BK181 := n1_
    have HO184 := n2_
    have BK189 := n3_
    have HB := n4_
    have HK := n5_
    have HO206 := n6_
    clear n0_ n1_ n2_ n3_ n4_ n5_ n6_
    clear ho hb hg hat
    obtain ⟨Ao44, co44, eo44⟩ := Kd.R_slice HO206.out
    (first | subst eo44 | (injection eo44 with f1_ f2_ f3_; have f4_ := f1_.symm; have f5_ := f3_.symm; clear f1_ f2_ f3_; subst f4_; subst f5_))
    refine hK.out _ _ ⟨(blk_cell BK189.out 0).trans rfl, (blk_cell BK189.out 1).trans rfl⟩ (fun hHeld => ?_)
    clear hK K
    refine norm_ (a' := ?_) ?_ ?_
    rotate_left
    ·show Act.put _ (some 28) _ = _
     simp only [Act.put, List.setIfInBounds_toArray, List.set_cons_zero, List.set_cons_succ, i64_w, i32_w]
     rfl
    refine pure_ (i := 9) (N := some 29) (v := ?_) (a' := ?_) #[true, true, true, true, true, true, true, true, true, true, false] rfl rfl (any_of HT_.out (by kernel_rfl)) (fun _ _ _ h => h) (Or.inl ⟨by rfl, ?_⟩) ?_ ?_
    rotate_left
    ·intro w'
     go_simp
     with_reducible rfl
    rotate_left
    ·simp only [Act.put, List.setIfInBounds_toArray, List.set_cons_zero, List.set_cons_succ, i64_w, i32_w]
     rfl
    refine last_ (i := 10) (N := none) #[true, true, true, true, true, true, true, true, true, true, true] rfl rfl (one_of HT_.out (by kernel_rfl)) (by decide) (fun K hK => ?_)
    have hs45 : w43.cell? ⟨gb189, 1, none⟩ = some (.slice Ao38 t185.length co38) := (blk_cell BK189.out 1).trans rfl
    have hfs45 := blk_frozen BK189.out 1
    have hns45_0 := NB181_189.out
    have hms45_0 := NB189_181.out
    refine skip_ (w1 := ?_) (by rfl) rfl ?_ ?_
    rotate_left
    ·go_simp
     rfl
    refine hK.out _ _ ?_
    clear hK K
    refine done_ (done_of HT_.out (by kernel_rfl)) ?_
    have hcz46_0 : w43.cell? ⟨gb189, 0, none⟩ = some (.slice Ao34 t182.length co34) := (blk_cell BK189.out 0).trans rfl
    have hcz46_1 : w43.cell? ⟨gb189, 1, none⟩ = some (.slice Ao38 t185.length co38) := (blk_cell BK189.out 1).trans rfl
    have hfz46_0 := blk_frozen BK189.out 0
    have hfz46_1 := blk_frozen BK189.out 1
    have hnb47 := NB181_0.out
    have hnc47 := NB0_181.out
    have hcz48_0 : w43.cell? ⟨gb181, 0, none⟩ = some (.slice none 0 0) := (blk_cell BK181.out 0).trans rfl
    have hcz48_1 : w43.cell? ⟨gb181, 1, none⟩ = some (.slice none 0 0) := (blk_cell BK181.out 1).trans rfl
    have hfz48_0 := blk_frozen BK181.out 0
    have hfz48_1 := blk_frozen BK181.out 1
    try go_wp2
    refine bodyPost_ret (results_cell_row rfl _ _ gb181 26 #[.slice Ao34 t182.length co34, .slice Ao44 y204.length co44] (0, 0) _ rfl (by (with_reducible repeat (first | refine blk_drewN ?_ _ | refine blk_drew ?_ | refine blk_alloc ?_ _)); refine blk_put (cs := #[.slice Ao34 t182.length co34, .slice none 0 0]) ?_ 1 _ rfl; (with_reducible repeat (first | refine blk_drewN ?_ _ | refine blk_drew ?_ | refine blk_alloc ?_ _)); refine blk_put (cs := #[.slice none 0 0, .slice none 0 0]) ?_ 0 _ rfl; (with_reducible repeat (first | refine blk_drewN ?_ _ | refine blk_drew ?_ | refine blk_alloc ?_ _)); refine blk_far ?_ NB181_189.out _; (with_reducible repeat (first | refine blk_drewN ?_ _ | refine blk_drew ?_ | refine blk_alloc ?_ _)); exact BK181.out) Try.underlying26 rfl (by kernel_rfl)) rfl ?_
    exact ⟨_, _, by first | rfl | (simp [errW_none, errW_some] <;> rfl) | (simp [*, errW_none, errW_some] <;> rfl), by (with_reducible repeat (first | apply Kd.R_alloc | apply Kd.R_drewN | apply Kd.R_drew)); exact Kd.R_mono (Kd.R_far (p := ⟨gb181, 1, none⟩) (Kd.R_far (p := ⟨gb181, 0, none⟩) (Kd.R_far (p := ⟨gb189, 1, none⟩) (Kd.R_types (Kd.R_types HO184.out BK189.out (by decide)) BK181.out (by decide)) (fun _ hk => hk.1.2) (.slice Ao44 y204.length co44)) (fun _ hk => hk.2) (.slice Ao34 t182.length co34)) (fun _ hk => hk.2) (.slice Ao44 y204.length co44)) (fun _ hk => trivial), by (with_reducible repeat (first | apply Kd.R_alloc | apply Kd.R_drewN | apply Kd.R_drew)); exact Kd.R_mono (Kd.R_far (p := ⟨gb181, 1, none⟩) (Kd.R_far (p := ⟨gb181, 0, none⟩) (Kd.R_far (p := ⟨gb189, 1, none⟩) (Kd.R_types (Kd.R_types HO206.out BK189.out (by decide)) BK181.out (by decide)) (fun _ hk => hk.1.2) (.slice Ao44 y204.length co44)) (fun _ hk => hk.2) (.slice Ao34 t182.length co34)) (fun _ hk => hk.2) (.slice Ao44 y204.length co44)) (fun _ hk => trivial), by repeat (first | (with_reducible first | exact HI0.out | apply IsS129.alloc | apply IsS129.drewN | apply IsS129.drew | apply IsS129.set_1 | refine IsS129.far ?_ NB0_181.out _ | refine IsS129.far ?_ NB0_189.out _) | exact HI0.out), by repeat (first | (with_reducible first | exact HB.out | apply below_alloc | apply pw_below_drewN | apply below_drew1 | refine below_set ?_ (IsS129.ge HI0.out) | refine below_set ?_ GE181.out | refine below_set ?_ GE189.out) | exact HB.out), by repeat (first | (with_reducible first | exact HK.out | apply KeepBut.set_ | apply keep_drewN | apply keep_drew | apply keep_alloc | refine keep_far ?_ GW181.out _ | refine keep_far ?_ GW189.out _) | exact HK.out)⟩
   ·rw [if_neg c30] at H
    exact absurd H (by simp)
  ·rw [if_neg c27] at H
   have c27b0 : (t190 == 1) = false := beq_eq_false_iff_ne.mpr c27
   have c27b1 : (t190 != 1) = true := bne_iff_ne.mpr c27
   by_cases c49 : t190 = 2
   ·rw [if_pos c49] at H
    have c49b0 : (t190 == 2) = true := beq_iff_eq.mpr c49
    have c49b1 : (t190 != 2) = false := bne_eq_false_iff_eq.mpr c49
    clear c49
    by_cases c50 : 9 ≤ 35184372088832
    ·rw [if_pos c50] at H
     have c50b0 := eq_true c50
     have c50b1 : decide (9 ≤ 35184372088832) = true := decide_eq_true c50
     clear c50
     obtain ⟨y207, hy207⟩ : ∃ y_ : List Int, y_ = (List.replicate 9 0) := ⟨_, rfl⟩
     replace H : (some (y207, t185, t191)) = some (r1, r2, r3) := by first | (rw [hy207]; with_reducible exact H) | (have H2_ := (Option.bind_some _ _).symm.trans H; rw [hy207]; with_reducible exact H2_) | (have H2_ := (Option.bind_some _ _).symm.trans H; with_reducible exact H2_) | with_reducible exact H | (rw [hy207]; exact H) | exact H
     have Ny207 := Aside0.mk hy207
     clear hy207
     simp only [Option.some.injEq, Prod.mk.injEq] at H
     obtain ⟨rfl, rfl, rfl⟩ := H
     go_enter Try.func61, Try.ntmps61
     go_wp2_with (first | ((with_reducible refine gate_dst (N := 2) rfl ?_); refine box_event ?hg (N := 2) ?hd (cs := #[.slice none 0 0, .slice none 0 0]) (t := 26) ?hr ?_; (case hd => rfl); (case hg => rfl); (case hr => first | (go_simp; done) | (go_simp; rfl)); intro gb181 hg w51 hbox hb; have n0_ := Aside0.mk (IsS129.below (zi129_10 HI0) hb); have n1_ := Aside0.mk (KeepBut.trans (zk HK) (KeepBut.of_below hb g none) (.inl rfl)); have n2_ := Aside0.mk (below_step (by repeat (first | (with_reducible first | exact HB.out | apply below_alloc | apply pw_below_drewN | apply below_drew1 | refine below_set ?_ (IsS129.ge HI0.out)) | exact HB.out)) hb); have n3_ := Aside0.mk (hbox); have n4_ := Aside0.mk ((by rw [hg]; exact (keep_size (w := w) (g := g) (row := none) (zk HK)) : w.heap.size ≤ gb181)); have n5_ := Aside0.mk ((Nat.le_trans HW0.out (by rw [hg]; exact (keep_size (w := w) (g := g) (row := none) (zk HK)) : w.heap.size ≤ gb181) : w0.heap.size ≤ gb181)); have n6_ := Aside0.mk ((by rw [hg]; exact Nat.ne_of_lt (IsS129.lt (show IsS129 w0 _ g s0_0 s0_1 from by repeat (first | (with_reducible first | exact HI0.out | apply IsS129.alloc | apply IsS129.drewN | apply IsS129.drew | apply IsS129.set_1) | exact HI0.out))) : g ≠ gb181)); have n7_ := Aside0.mk ((by rw [hg]; exact Nat.ne_of_gt (IsS129.lt (show IsS129 w0 _ g s0_0 s0_1 from by repeat (first | (with_reducible first | exact HI0.out | apply IsS129.alloc | apply IsS129.drewN | apply IsS129.drew | apply IsS129.set_1) | exact HI0.out))) : gb181 ≠ g)); clear HI0; clear HK; clear HB; have HI0 := n0_; have HK := n1_; have HB := n2_; have BK181 := n3_; have GW181 := n4_; have GE181 := n5_; have NB0_181 := n6_; have NB181_0 := n7_; clear n0_ n1_ n2_ n3_ n4_ n5_ n6_ n7_; clear hb hbox hg) | ((with_reducible refine gate_callee (f := 110) rfl ?_); refine goesL_ (some 5) rfl rfl Try.func110 (by kernel_rfl) rfl #[.pointer (some ⟨g, 0, none⟩)] rfl zl ?_; (with_reducible refine (spec_goodFlat.calls k g s0_0 s0_1 t182 t185 t188 w0 _ ?side1 ?side2 A2.out).mono ?_); (case side1 => repeat (first | (with_reducible first | exact HI0.out | apply IsS129.alloc | apply IsS129.drewN | apply IsS129.drew | apply IsS129.set_1 | refine IsS129.far ?_ NB0_181.out _) | exact HI0.out)); (case side2 => repeat (first | (with_reducible first | exact HB.out | apply below_alloc | apply pw_below_drewN | apply below_drew1 | refine below_set ?_ (IsS129.ge HI0.out) | refine below_set ?_ GE181.out) | exact HB.out)); rintro e w52 ⟨v183, v186, rfl, ho0, ho1, hi, hb, hk⟩; refine ⟨_, rfl, ?_⟩; have n0_ := Aside0.mk (KeepBut.blk hk (g' := gb181) (o := .cells #[.slice none 0 0, .slice none 0 0] 26 (0, 0)) (zb BK181) NB181_0.out (by simp)); have n1_ := Aside0.mk (Kd.R_lower ho0 (keep_size (w := w) (g := g) (row := none) (zk HK))); have n2_ := Aside0.mk (Kd.R_lower ho1 (keep_size (w := w) (g := g) (row := none) (zk HK))); have n3_ := Aside0.mk (KeepBut.trans (zk HK) hk (.inl rfl)); have n4_ := Aside0.mk (hb); have n5_ := Aside0.mk (hi); clear BK181; clear HK; clear HB; clear HI0; have BK181 := n0_; have HO184 := n1_; have HO187 := n2_; have HK := n3_; have HB := n4_; have HI0 := n5_; clear n0_ n1_ n2_ n3_ n4_ n5_; (try clear hb); (try clear hb2); (try clear hk); (try clear hi); (try clear ho0); (try clear ho1)) | ((with_reducible refine gate_dst (N := 3) rfl ?_); refine box_event ?hg (N := 3) ?hd (cs := #[.slice none 0 0, .slice none 0 0]) (t := 26) ?hr ?_; (case hd => rfl); (case hg => rfl); (case hr => first | (go_simp; done) | (go_simp; rfl)); intro gb189 hg w53 hbox hb; have n0_ := Aside0.mk (Kd.R_below (zo HO184) hb); have n1_ := Aside0.mk (Kd.R_below (zo HO187) hb); have n2_ := Aside0.mk (IsS129.below (zi129_10 HI0) hb); have n3_ := Aside0.mk (blk_below (g := gb181) (o := .cells #[.slice none 0 0, .slice none 0 0] 26 (0, 0)) (zb BK181) hb); have n4_ := Aside0.mk (KeepBut.trans (zk HK) (KeepBut.of_below hb g none) (.inl rfl)); have n5_ := Aside0.mk (below_step (by repeat (first | (with_reducible first | exact HB.out | apply below_alloc | apply pw_below_drewN | apply below_drew1 | refine below_set ?_ (IsS129.ge HI0.out) | refine below_set ?_ GE181.out) | exact HB.out)) hb); have n6_ := Aside0.mk (hbox); have n7_ := Aside0.mk ((by rw [hg]; exact (keep_size (w := w) (g := g) (row := none) (zk HK)) : w.heap.size ≤ gb189)); have n8_ := Aside0.mk ((Nat.le_trans HW0.out (by rw [hg]; exact (keep_size (w := w) (g := g) (row := none) (zk HK)) : w.heap.size ≤ gb189) : w0.heap.size ≤ gb189)); have n9_ := Aside0.mk ((by rw [hg]; exact Nat.ne_of_lt (blk_lt (g := gb181) (o := .cells #[.slice none 0 0, .slice none 0 0] 26 (0, 0)) (zb BK181)) : gb181 ≠ gb189)); have n10_ := Aside0.mk ((by rw [hg]; exact Nat.ne_of_gt (blk_lt (g := gb181) (o := .cells #[.slice none 0 0, .slice none 0 0] 26 (0, 0)) (zb BK181)) : gb189 ≠ gb181)); have n11_ := Aside0.mk ((by rw [hg]; exact Nat.ne_of_lt (IsS129.lt (show IsS129 w0 _ g s0_0 t188 from by repeat (first | (with_reducible first | exact HI0.out | apply IsS129.alloc | apply IsS129.drewN | apply IsS129.drew | apply IsS129.set_1 | refine IsS129.far ?_ NB0_181.out _) | exact HI0.out))) : g ≠ gb189)); have n12_ := Aside0.mk ((by rw [hg]; exact Nat.ne_of_gt (IsS129.lt (show IsS129 w0 _ g s0_0 t188 from by repeat (first | (with_reducible first | exact HI0.out | apply IsS129.alloc | apply IsS129.drewN | apply IsS129.drew | apply IsS129.set_1 | refine IsS129.far ?_ NB0_181.out _) | exact HI0.out))) : gb189 ≠ g)); clear HO184; clear HO187; clear HI0; clear BK181; clear HK; clear HB; have HO184 := n0_; have HO187 := n1_; have HI0 := n2_; have BK181 := n3_; have HK := n4_; have HB := n5_; have BK189 := n6_; have GW189 := n7_; have GE189 := n8_; have NB181_189 := n9_; have NB189_181 := n10_; have NB0_189 := n11_; have NB189_0 := n12_; clear n0_ n1_ n2_ n3_ n4_ n5_ n6_ n7_ n8_ n9_ n10_ n11_ n12_; clear hb hbox hg; obtain ⟨Ao54, co54, eo54⟩ := Kd.R_slice HO184.out; subst eo54; have hnb55 := NB189_181.out; have hnc55 := NB181_189.out; have hnb56 := NB189_0.out; have hnc56 := NB0_189.out; have hcz57_0 : w53.cell? ⟨gb189, 0, none⟩ = some (.slice none 0 0) := (blk_cell BK189.out 0).trans rfl; have hcz57_1 : w53.cell? ⟨gb189, 1, none⟩ = some (.slice none 0 0) := (blk_cell BK189.out 1).trans rfl; have hfz57_0 := blk_frozen BK189.out 0; have hfz57_1 := blk_frozen BK189.out 1; obtain ⟨Ao58, co58, eo58⟩ := Kd.R_slice HO187.out; subst eo58) | ((with_reducible refine gate_callee (f := 90) rfl ?_); refine goesL_ (some 7) rfl rfl Try.func90 (by kernel_rfl) rfl #[.pointer (some ⟨g, 0, none⟩), .int .i64 24] rfl zl ?_; (with_reducible refine (spec_reader_pick.calls k g s0_0 t188 24 t190 t191 w0 _ ?side1 ?side2 A3.out).mono ?_); (case side1 => repeat (first | (with_reducible first | exact HI0.out | apply IsS129.alloc | apply IsS129.drewN | apply IsS129.drew | apply IsS129.set_1 | refine IsS129.far ?_ NB0_181.out _ | refine IsS129.far ?_ NB0_189.out _) | exact HI0.out)); (case side2 => repeat (first | (with_reducible first | exact HB.out | apply below_alloc | apply pw_below_drewN | apply below_drew1 | refine below_set ?_ (IsS129.ge HI0.out) | refine below_set ?_ GE181.out | refine below_set ?_ GE189.out) | exact HB.out)); rintro e w59 ⟨rfl, hi, hb, hk⟩; refine ⟨_, rfl, ?_⟩; have n0_ := Aside0.mk (KeepBut.blk hk (g' := gb181) (o := .cells #[.slice none 0 0, .slice none 0 0] 26 (0, 0)) (by (with_reducible repeat (first | refine blk_drewN ?_ _ | refine blk_drew ?_ | refine blk_alloc ?_ _)); refine blk_far ?_ NB181_189.out _; (with_reducible repeat (first | refine blk_drewN ?_ _ | refine blk_drew ?_ | refine blk_alloc ?_ _)); refine blk_far ?_ NB181_189.out _; (with_reducible repeat (first | refine blk_drewN ?_ _ | refine blk_drew ?_ | refine blk_alloc ?_ _)); exact BK181.out) NB181_0.out (by simp)); have n1_ := Aside0.mk (Kd.R_mono (Kd.R_keep (IsS129.apart (show IsS129 w0 _ g s0_0 t188 from by repeat (first | (with_reducible first | exact HI0.out | apply IsS129.alloc | apply IsS129.drewN | apply IsS129.drew | apply IsS129.set_1 | refine IsS129.far ?_ NB0_181.out _ | refine IsS129.far ?_ NB0_189.out _) | exact HI0.out)) (by (with_reducible repeat (first | apply Kd.R_alloc | apply Kd.R_drewN | apply Kd.R_drew)); exact (Kd.R_mono (Kd.R_far (p := ⟨gb189, 1, none⟩) (Kd.R_far (p := ⟨gb189, 0, none⟩) (Kd.R_types HO184.out BK189.out (by decide)) (fun _ hk => hk.2) (.slice Ao54 t182.length co54)) (fun _ hk => hk.2) (.slice Ao58 t185.length co58)) (fun _ h_ => h_.1))) (by decide)) hk (fun _ h => h.2)) (fun _ h => h.1)); have n2_ := Aside0.mk (Kd.R_mono (Kd.R_keep (IsS129.apart (show IsS129 w0 _ g s0_0 t188 from by repeat (first | (with_reducible first | exact HI0.out | apply IsS129.alloc | apply IsS129.drewN | apply IsS129.drew | apply IsS129.set_1 | refine IsS129.far ?_ NB0_181.out _ | refine IsS129.far ?_ NB0_189.out _) | exact HI0.out)) (by (with_reducible repeat (first | apply Kd.R_alloc | apply Kd.R_drewN | apply Kd.R_drew)); exact (Kd.R_mono (Kd.R_far (p := ⟨gb189, 1, none⟩) (Kd.R_far (p := ⟨gb189, 0, none⟩) (Kd.R_types HO187.out BK189.out (by decide)) (fun _ hk => hk.2) (.slice Ao54 t182.length co54)) (fun _ hk => hk.2) (.slice Ao58 t185.length co58)) (fun _ h_ => h_.1))) (by decide)) hk (fun _ h => h.2)) (fun _ h => h.1)); have n3_ := Aside0.mk (KeepBut.blk hk (g' := gb189) (o := .cells #[.slice Ao54 t182.length co54, .slice Ao58 t185.length co58] 26 (0, 0)) (by (with_reducible repeat (first | refine blk_drewN ?_ _ | refine blk_drew ?_ | refine blk_alloc ?_ _)); refine blk_put (cs := #[.slice Ao54 t182.length co54, .slice none 0 0]) ?_ 1 _ rfl; (with_reducible repeat (first | refine blk_drewN ?_ _ | refine blk_drew ?_ | refine blk_alloc ?_ _)); refine blk_put (cs := #[.slice none 0 0, .slice none 0 0]) ?_ 0 _ rfl; (with_reducible repeat (first | refine blk_drewN ?_ _ | refine blk_drew ?_ | refine blk_alloc ?_ _)); exact BK189.out) NB189_0.out (by simp)); have n4_ := Aside0.mk (KeepBut.trans (zk HK) hk (.inl rfl)); have n5_ := Aside0.mk (hb); have n6_ := Aside0.mk (hi); clear BK181; clear HO184; clear HO187; clear BK189; clear HK; clear HB; clear HI0; have BK181 := n0_; have HO184 := n1_; have HO187 := n2_; have BK189 := n3_; have HK := n4_; have HB := n5_; have HI0 := n6_; clear n0_ n1_ n2_ n3_ n4_ n5_ n6_; (try clear hb); (try clear hb2); (try clear hk); (try clear hi)) | ((with_reducible refine gate_dst (N := 32) rfl ?_); refine Kd.R_make (Kd.int .i64) _ 3 rfl (N := 32) rfl 23 _ _ rfl 9 rfl rfl Try.underlying23 (.int .i64 0) 8 info3 rfl (by decide) (by omega) 0 (ok := fun _ => True) (okp := fun _ => True) rfl (fun _ hk => hk) trivial (by omega) (by omega) (Below.refl _ _) (Nat.le_refl _) ?_; intro v208 w60 ho61 hb hg_ hnew_; clear hg_ hnew_; (first | rw [← Ny207.out] at ho61 | (simp only [Int.reduceToNat] at ho61; rw [← Ny207.out] at ho61)); have n0_ := Aside0.mk (Kd.R_elder' (zo HO184) (Kd.R_base ho61) hb); have n1_ := Aside0.mk (Kd.R_below (zo HO187) hb); have n2_ := Aside0.mk (Kd.R_lower (Kd.R_new' ho61 (Kd.R_lt (zo HO184))) (keep_size (w := w) (g := g) (row := none) (zk HK))); have n3_ := Aside0.mk (IsS129.below (zi129_10 HI0) hb); have n4_ := Aside0.mk (blk_below (g := gb181) (o := .cells #[.slice none 0 0, .slice none 0 0] 26 (0, 0)) (zb BK181) hb); have n5_ := Aside0.mk (blk_below (g := gb189) (o := .cells #[.slice Ao54 t182.length co54, .slice Ao58 t185.length co58] 26 (0, 0)) (zb BK189) hb); have n6_ := Aside0.mk (KeepBut.trans (zk HK) (KeepBut.of_below hb g none) (.inl rfl)); have n7_ := Aside0.mk (below_step (by repeat (first | (with_reducible first | exact HB.out | apply below_alloc | apply pw_below_drewN | apply below_drew1 | refine below_set ?_ (IsS129.ge HI0.out) | refine below_set ?_ GE181.out | refine below_set ?_ GE189.out) | exact HB.out)) hb); clear HO184; clear HO187; clear HI0; clear BK181; clear BK189; clear HK; clear HB; have HO184 := n0_; have HO187 := n1_; have HO209 := n2_; have HI0 := n3_; have BK181 := n4_; have BK189 := n5_; have HK := n6_; have HB := n7_; clear n0_ n1_ n2_ n3_ n4_ n5_ n6_ n7_; clear hb ho61; obtain ⟨Ao62, co62, eo62⟩ := Kd.R_slice HO209.out; subst eo62; have hcz63_0 : w60.cell? ⟨gb189, 0, none⟩ = some (.slice Ao54 t182.length co54) := (blk_cell BK189.out 0).trans rfl; have hcz63_1 : w60.cell? ⟨gb189, 1, none⟩ = some (.slice Ao58 t185.length co58) := (blk_cell BK189.out 1).trans rfl; have hfz63_0 := blk_frozen BK189.out 0; have hfz63_1 := blk_frozen BK189.out 1; have hnb64 := NB181_0.out; have hnc64 := NB0_181.out; have hcz65_0 : w60.cell? ⟨gb181, 0, none⟩ = some (.slice none 0 0) := (blk_cell BK181.out 0).trans rfl; have hcz65_1 : w60.cell? ⟨gb181, 1, none⟩ = some (.slice none 0 0) := (blk_cell BK181.out 1).trans rfl; have hfz65_0 := blk_frozen BK181.out 0; have hfz65_1 := blk_frozen BK181.out 1))
     refine bodyPost_ret (results_cell_row rfl _ _ gb181 26 #[.slice Ao62 y207.length co62, .slice Ao58 t185.length co58] (0, 0) _ rfl (by (with_reducible repeat (first | refine blk_drewN ?_ _ | refine blk_drew ?_ | refine blk_alloc ?_ _)); refine blk_put (cs := #[.slice Ao62 y207.length co62, .slice none 0 0]) ?_ 1 _ rfl; (with_reducible repeat (first | refine blk_drewN ?_ _ | refine blk_drew ?_ | refine blk_alloc ?_ _)); refine blk_put (cs := #[.slice none 0 0, .slice none 0 0]) ?_ 0 _ rfl; (with_reducible repeat (first | refine blk_drewN ?_ _ | refine blk_drew ?_ | refine blk_alloc ?_ _)); refine blk_far ?_ NB181_189.out _; (with_reducible repeat (first | refine blk_drewN ?_ _ | refine blk_drew ?_ | refine blk_alloc ?_ _)); exact BK181.out) Try.underlying26 rfl (by kernel_rfl)) rfl ?_
     exact ⟨_, _, by first | rfl | (simp [errW_none, errW_some] <;> rfl) | (simp [*, errW_none, errW_some] <;> rfl), by (with_reducible repeat (first | apply Kd.R_alloc | apply Kd.R_drewN | apply Kd.R_drew)); exact Kd.R_mono (Kd.R_far (p := ⟨gb181, 1, none⟩) (Kd.R_far (p := ⟨gb181, 0, none⟩) (Kd.R_far (p := ⟨gb189, 0, none⟩) (Kd.R_types (Kd.R_types HO209.out BK189.out (by decide)) BK181.out (by decide)) (fun _ hk => hk.1.2) (.slice Ao62 y207.length co62)) (fun _ hk => hk.2) (.slice Ao62 y207.length co62)) (fun _ hk => hk.2) (.slice Ao58 t185.length co58)) (fun _ hk => trivial), by (with_reducible repeat (first | apply Kd.R_alloc | apply Kd.R_drewN | apply Kd.R_drew)); exact Kd.R_mono (Kd.R_far (p := ⟨gb181, 1, none⟩) (Kd.R_far (p := ⟨gb181, 0, none⟩) (Kd.R_far (p := ⟨gb189, 0, none⟩) (Kd.R_types (Kd.R_types HO187.out BK189.out (by decide)) BK181.out (by decide)) (fun _ hk => hk.1.2) (.slice Ao62 y207.length co62)) (fun _ hk => hk.2) (.slice Ao62 y207.length co62)) (fun _ hk => hk.2) (.slice Ao58 t185.length co58)) (fun _ hk => trivial), by repeat (first | (with_reducible first | exact HI0.out | apply IsS129.alloc | apply IsS129.drewN | apply IsS129.drew | apply IsS129.set_1 | refine IsS129.far ?_ NB0_181.out _ | refine IsS129.far ?_ NB0_189.out _) | exact HI0.out), by repeat (first | (with_reducible first | exact HB.out | apply below_alloc | apply pw_below_drewN | apply below_drew1 | refine below_set ?_ (IsS129.ge HI0.out) | refine below_set ?_ GE181.out | refine below_set ?_ GE189.out) | exact HB.out), by repeat (first | (with_reducible first | exact HK.out | apply KeepBut.set_ | apply keep_drewN | apply keep_drew | apply keep_alloc | refine keep_far ?_ GW181.out _ | refine keep_far ?_ GW189.out _) | exact HK.out)⟩
    ·rw [if_neg c50] at H
     exact absurd H (by simp)
   ·rw [if_neg c49] at H
    have c49b0 : (t190 == 2) = false := beq_eq_false_iff_ne.mpr c49
    have c49b1 : (t190 != 2) = true := bne_iff_ne.mpr c49
    simp only [Option.some.injEq, Prod.mk.injEq] at H
    obtain ⟨rfl, rfl, rfl⟩ := H
    go_enter Try.func61, Try.ntmps61
    go_wp2_with (first | ((with_reducible refine gate_dst (N := 2) rfl ?_); refine box_event ?hg (N := 2) ?hd (cs := #[.slice none 0 0, .slice none 0 0]) (t := 26) ?hr ?_; (case hd => rfl); (case hg => rfl); (case hr => first | (go_simp; done) | (go_simp; rfl)); intro gb181 hg w66 hbox hb; have n0_ := Aside0.mk (IsS129.below (zi129_10 HI0) hb); have n1_ := Aside0.mk (KeepBut.trans (zk HK) (KeepBut.of_below hb g none) (.inl rfl)); have n2_ := Aside0.mk (below_step (by repeat (first | (with_reducible first | exact HB.out | apply below_alloc | apply pw_below_drewN | apply below_drew1 | refine below_set ?_ (IsS129.ge HI0.out)) | exact HB.out)) hb); have n3_ := Aside0.mk (hbox); have n4_ := Aside0.mk ((by rw [hg]; exact (keep_size (w := w) (g := g) (row := none) (zk HK)) : w.heap.size ≤ gb181)); have n5_ := Aside0.mk ((Nat.le_trans HW0.out (by rw [hg]; exact (keep_size (w := w) (g := g) (row := none) (zk HK)) : w.heap.size ≤ gb181) : w0.heap.size ≤ gb181)); have n6_ := Aside0.mk ((by rw [hg]; exact Nat.ne_of_lt (IsS129.lt (show IsS129 w0 _ g s0_0 s0_1 from by repeat (first | (with_reducible first | exact HI0.out | apply IsS129.alloc | apply IsS129.drewN | apply IsS129.drew | apply IsS129.set_1) | exact HI0.out))) : g ≠ gb181)); have n7_ := Aside0.mk ((by rw [hg]; exact Nat.ne_of_gt (IsS129.lt (show IsS129 w0 _ g s0_0 s0_1 from by repeat (first | (with_reducible first | exact HI0.out | apply IsS129.alloc | apply IsS129.drewN | apply IsS129.drew | apply IsS129.set_1) | exact HI0.out))) : gb181 ≠ g)); clear HI0; clear HK; clear HB; have HI0 := n0_; have HK := n1_; have HB := n2_; have BK181 := n3_; have GW181 := n4_; have GE181 := n5_; have NB0_181 := n6_; have NB181_0 := n7_; clear n0_ n1_ n2_ n3_ n4_ n5_ n6_ n7_; clear hb hbox hg) | ((with_reducible refine gate_callee (f := 110) rfl ?_); refine goesL_ (some 5) rfl rfl Try.func110 (by kernel_rfl) rfl #[.pointer (some ⟨g, 0, none⟩)] rfl zl ?_; (with_reducible refine (spec_goodFlat.calls k g s0_0 s0_1 t182 t185 t188 w0 _ ?side1 ?side2 A2.out).mono ?_); (case side1 => repeat (first | (with_reducible first | exact HI0.out | apply IsS129.alloc | apply IsS129.drewN | apply IsS129.drew | apply IsS129.set_1 | refine IsS129.far ?_ NB0_181.out _) | exact HI0.out)); (case side2 => repeat (first | (with_reducible first | exact HB.out | apply below_alloc | apply pw_below_drewN | apply below_drew1 | refine below_set ?_ (IsS129.ge HI0.out) | refine below_set ?_ GE181.out) | exact HB.out)); rintro e w67 ⟨v183, v186, rfl, ho0, ho1, hi, hb, hk⟩; refine ⟨_, rfl, ?_⟩; have n0_ := Aside0.mk (KeepBut.blk hk (g' := gb181) (o := .cells #[.slice none 0 0, .slice none 0 0] 26 (0, 0)) (zb BK181) NB181_0.out (by simp)); have n1_ := Aside0.mk (Kd.R_lower ho0 (keep_size (w := w) (g := g) (row := none) (zk HK))); have n2_ := Aside0.mk (Kd.R_lower ho1 (keep_size (w := w) (g := g) (row := none) (zk HK))); have n3_ := Aside0.mk (KeepBut.trans (zk HK) hk (.inl rfl)); have n4_ := Aside0.mk (hb); have n5_ := Aside0.mk (hi); clear BK181; clear HK; clear HB; clear HI0; have BK181 := n0_; have HO184 := n1_; have HO187 := n2_; have HK := n3_; have HB := n4_; have HI0 := n5_; clear n0_ n1_ n2_ n3_ n4_ n5_; (try clear hb); (try clear hb2); (try clear hk); (try clear hi); (try clear ho0); (try clear ho1)) | ((with_reducible refine gate_dst (N := 3) rfl ?_); refine box_event ?hg (N := 3) ?hd (cs := #[.slice none 0 0, .slice none 0 0]) (t := 26) ?hr ?_; (case hd => rfl); (case hg => rfl); (case hr => first | (go_simp; done) | (go_simp; rfl)); intro gb189 hg w68 hbox hb; have n0_ := Aside0.mk (Kd.R_below (zo HO184) hb); have n1_ := Aside0.mk (Kd.R_below (zo HO187) hb); have n2_ := Aside0.mk (IsS129.below (zi129_10 HI0) hb); have n3_ := Aside0.mk (blk_below (g := gb181) (o := .cells #[.slice none 0 0, .slice none 0 0] 26 (0, 0)) (zb BK181) hb); have n4_ := Aside0.mk (KeepBut.trans (zk HK) (KeepBut.of_below hb g none) (.inl rfl)); have n5_ := Aside0.mk (below_step (by repeat (first | (with_reducible first | exact HB.out | apply below_alloc | apply pw_below_drewN | apply below_drew1 | refine below_set ?_ (IsS129.ge HI0.out) | refine below_set ?_ GE181.out) | exact HB.out)) hb); have n6_ := Aside0.mk (hbox); have n7_ := Aside0.mk ((by rw [hg]; exact (keep_size (w := w) (g := g) (row := none) (zk HK)) : w.heap.size ≤ gb189)); have n8_ := Aside0.mk ((Nat.le_trans HW0.out (by rw [hg]; exact (keep_size (w := w) (g := g) (row := none) (zk HK)) : w.heap.size ≤ gb189) : w0.heap.size ≤ gb189)); have n9_ := Aside0.mk ((by rw [hg]; exact Nat.ne_of_lt (blk_lt (g := gb181) (o := .cells #[.slice none 0 0, .slice none 0 0] 26 (0, 0)) (zb BK181)) : gb181 ≠ gb189)); have n10_ := Aside0.mk ((by rw [hg]; exact Nat.ne_of_gt (blk_lt (g := gb181) (o := .cells #[.slice none 0 0, .slice none 0 0] 26 (0, 0)) (zb BK181)) : gb189 ≠ gb181)); have n11_ := Aside0.mk ((by rw [hg]; exact Nat.ne_of_lt (IsS129.lt (show IsS129 w0 _ g s0_0 t188 from by repeat (first | (with_reducible first | exact HI0.out | apply IsS129.alloc | apply IsS129.drewN | apply IsS129.drew | apply IsS129.set_1 | refine IsS129.far ?_ NB0_181.out _) | exact HI0.out))) : g ≠ gb189)); have n12_ := Aside0.mk ((by rw [hg]; exact Nat.ne_of_gt (IsS129.lt (show IsS129 w0 _ g s0_0 t188 from by repeat (first | (with_reducible first | exact HI0.out | apply IsS129.alloc | apply IsS129.drewN | apply IsS129.drew | apply IsS129.set_1 | refine IsS129.far ?_ NB0_181.out _) | exact HI0.out))) : gb189 ≠ g)); clear HO184; clear HO187; clear HI0; clear BK181; clear HK; clear HB; have HO184 := n0_; have HO187 := n1_; have HI0 := n2_; have BK181 := n3_; have HK := n4_; have HB := n5_; have BK189 := n6_; have GW189 := n7_; have GE189 := n8_; have NB181_189 := n9_; have NB189_181 := n10_; have NB0_189 := n11_; have NB189_0 := n12_; clear n0_ n1_ n2_ n3_ n4_ n5_ n6_ n7_ n8_ n9_ n10_ n11_ n12_; clear hb hbox hg; obtain ⟨Ao69, co69, eo69⟩ := Kd.R_slice HO184.out; subst eo69; have hnb70 := NB189_181.out; have hnc70 := NB181_189.out; have hnb71 := NB189_0.out; have hnc71 := NB0_189.out; have hcz72_0 : w68.cell? ⟨gb189, 0, none⟩ = some (.slice none 0 0) := (blk_cell BK189.out 0).trans rfl; have hcz72_1 : w68.cell? ⟨gb189, 1, none⟩ = some (.slice none 0 0) := (blk_cell BK189.out 1).trans rfl; have hfz72_0 := blk_frozen BK189.out 0; have hfz72_1 := blk_frozen BK189.out 1; obtain ⟨Ao73, co73, eo73⟩ := Kd.R_slice HO187.out; subst eo73) | ((with_reducible refine gate_callee (f := 90) rfl ?_); refine goesL_ (some 7) rfl rfl Try.func90 (by kernel_rfl) rfl #[.pointer (some ⟨g, 0, none⟩), .int .i64 24] rfl zl ?_; (with_reducible refine (spec_reader_pick.calls k g s0_0 t188 24 t190 t191 w0 _ ?side1 ?side2 A3.out).mono ?_); (case side1 => repeat (first | (with_reducible first | exact HI0.out | apply IsS129.alloc | apply IsS129.drewN | apply IsS129.drew | apply IsS129.set_1 | refine IsS129.far ?_ NB0_181.out _ | refine IsS129.far ?_ NB0_189.out _) | exact HI0.out)); (case side2 => repeat (first | (with_reducible first | exact HB.out | apply below_alloc | apply pw_below_drewN | apply below_drew1 | refine below_set ?_ (IsS129.ge HI0.out) | refine below_set ?_ GE181.out | refine below_set ?_ GE189.out) | exact HB.out)); rintro e w74 ⟨rfl, hi, hb, hk⟩; refine ⟨_, rfl, ?_⟩; have n0_ := Aside0.mk (KeepBut.blk hk (g' := gb181) (o := .cells #[.slice none 0 0, .slice none 0 0] 26 (0, 0)) (by (with_reducible repeat (first | refine blk_drewN ?_ _ | refine blk_drew ?_ | refine blk_alloc ?_ _)); refine blk_far ?_ NB181_189.out _; (with_reducible repeat (first | refine blk_drewN ?_ _ | refine blk_drew ?_ | refine blk_alloc ?_ _)); refine blk_far ?_ NB181_189.out _; (with_reducible repeat (first | refine blk_drewN ?_ _ | refine blk_drew ?_ | refine blk_alloc ?_ _)); exact BK181.out) NB181_0.out (by simp)); have n1_ := Aside0.mk (Kd.R_mono (Kd.R_keep (IsS129.apart (show IsS129 w0 _ g s0_0 t188 from by repeat (first | (with_reducible first | exact HI0.out | apply IsS129.alloc | apply IsS129.drewN | apply IsS129.drew | apply IsS129.set_1 | refine IsS129.far ?_ NB0_181.out _ | refine IsS129.far ?_ NB0_189.out _) | exact HI0.out)) (by (with_reducible repeat (first | apply Kd.R_alloc | apply Kd.R_drewN | apply Kd.R_drew)); exact (Kd.R_mono (Kd.R_far (p := ⟨gb189, 1, none⟩) (Kd.R_far (p := ⟨gb189, 0, none⟩) (Kd.R_types HO184.out BK189.out (by decide)) (fun _ hk => hk.2) (.slice Ao69 t182.length co69)) (fun _ hk => hk.2) (.slice Ao73 t185.length co73)) (fun _ h_ => h_.1))) (by decide)) hk (fun _ h => h.2)) (fun _ h => h.1)); have n2_ := Aside0.mk (Kd.R_mono (Kd.R_keep (IsS129.apart (show IsS129 w0 _ g s0_0 t188 from by repeat (first | (with_reducible first | exact HI0.out | apply IsS129.alloc | apply IsS129.drewN | apply IsS129.drew | apply IsS129.set_1 | refine IsS129.far ?_ NB0_181.out _ | refine IsS129.far ?_ NB0_189.out _) | exact HI0.out)) (by (with_reducible repeat (first | apply Kd.R_alloc | apply Kd.R_drewN | apply Kd.R_drew)); exact (Kd.R_mono (Kd.R_far (p := ⟨gb189, 1, none⟩) (Kd.R_far (p := ⟨gb189, 0, none⟩) (Kd.R_types HO187.out BK189.out (by decide)) (fun _ hk => hk.2) (.slice Ao69 t182.length co69)) (fun _ hk => hk.2) (.slice Ao73 t185.length co73)) (fun _ h_ => h_.1))) (by decide)) hk (fun _ h => h.2)) (fun _ h => h.1)); have n3_ := Aside0.mk (KeepBut.blk hk (g' := gb189) (o := .cells #[.slice Ao69 t182.length co69, .slice Ao73 t185.length co73] 26 (0, 0)) (by (with_reducible repeat (first | refine blk_drewN ?_ _ | refine blk_drew ?_ | refine blk_alloc ?_ _)); refine blk_put (cs := #[.slice Ao69 t182.length co69, .slice none 0 0]) ?_ 1 _ rfl; (with_reducible repeat (first | refine blk_drewN ?_ _ | refine blk_drew ?_ | refine blk_alloc ?_ _)); refine blk_put (cs := #[.slice none 0 0, .slice none 0 0]) ?_ 0 _ rfl; (with_reducible repeat (first | refine blk_drewN ?_ _ | refine blk_drew ?_ | refine blk_alloc ?_ _)); exact BK189.out) NB189_0.out (by simp)); have n4_ := Aside0.mk (KeepBut.trans (zk HK) hk (.inl rfl)); have n5_ := Aside0.mk (hb); have n6_ := Aside0.mk (hi); clear BK181; clear HO184; clear HO187; clear BK189; clear HK; clear HB; clear HI0; have BK181 := n0_; have HO184 := n1_; have HO187 := n2_; have BK189 := n3_; have HK := n4_; have HB := n5_; have HI0 := n6_; clear n0_ n1_ n2_ n3_ n4_ n5_ n6_; (try clear hb); (try clear hb2); (try clear hk); (try clear hi); have hcz75_0 : w74.cell? ⟨gb189, 0, none⟩ = some (.slice Ao69 t182.length co69) := (blk_cell BK189.out 0).trans rfl; have hcz75_1 : w74.cell? ⟨gb189, 1, none⟩ = some (.slice Ao73 t185.length co73) := (blk_cell BK189.out 1).trans rfl; have hfz75_0 := blk_frozen BK189.out 0; have hfz75_1 := blk_frozen BK189.out 1; have hnb76 := NB181_0.out; have hnc76 := NB0_181.out; have hcz77_0 : w74.cell? ⟨gb181, 0, none⟩ = some (.slice none 0 0) := (blk_cell BK181.out 0).trans rfl; have hcz77_1 : w74.cell? ⟨gb181, 1, none⟩ = some (.slice none 0 0) := (blk_cell BK181.out 1).trans rfl; have hfz77_0 := blk_frozen BK181.out 0; have hfz77_1 := blk_frozen BK181.out 1))
    refine bodyPost_ret (results_cell_row rfl _ _ gb181 26 #[.slice Ao69 t182.length co69, .slice Ao73 t185.length co73] (0, 0) _ rfl (by (with_reducible repeat (first | refine blk_drewN ?_ _ | refine blk_drew ?_ | refine blk_alloc ?_ _)); refine blk_put (cs := #[.slice Ao69 t182.length co69, .slice none 0 0]) ?_ 1 _ rfl; (with_reducible repeat (first | refine blk_drewN ?_ _ | refine blk_drew ?_ | refine blk_alloc ?_ _)); refine blk_put (cs := #[.slice none 0 0, .slice none 0 0]) ?_ 0 _ rfl; (with_reducible repeat (first | refine blk_drewN ?_ _ | refine blk_drew ?_ | refine blk_alloc ?_ _)); exact BK181.out) Try.underlying26 rfl (by kernel_rfl)) rfl ?_
    exact ⟨_, _, by first | rfl | (simp [errW_none, errW_some] <;> rfl) | (simp [*, errW_none, errW_some] <;> rfl), by (with_reducible repeat (first | apply Kd.R_alloc | apply Kd.R_drewN | apply Kd.R_drew)); exact Kd.R_mono (Kd.R_far (p := ⟨gb181, 1, none⟩) (Kd.R_far (p := ⟨gb181, 0, none⟩) (Kd.R_types HO184.out BK181.out (by decide)) (fun _ hk => hk.2) (.slice Ao69 t182.length co69)) (fun _ hk => hk.2) (.slice Ao73 t185.length co73)) (fun _ hk => trivial), by (with_reducible repeat (first | apply Kd.R_alloc | apply Kd.R_drewN | apply Kd.R_drew)); exact Kd.R_mono (Kd.R_far (p := ⟨gb181, 1, none⟩) (Kd.R_far (p := ⟨gb181, 0, none⟩) (Kd.R_types HO187.out BK181.out (by decide)) (fun _ hk => hk.2) (.slice Ao69 t182.length co69)) (fun _ hk => hk.2) (.slice Ao73 t185.length co73)) (fun _ hk => trivial), by repeat (first | (with_reducible first | exact HI0.out | apply IsS129.alloc | apply IsS129.drewN | apply IsS129.drew | apply IsS129.set_1 | refine IsS129.far ?_ NB0_181.out _ | refine IsS129.far ?_ NB0_189.out _) | exact HI0.out), by repeat (first | (with_reducible first | exact HB.out | apply below_alloc | apply pw_below_drewN | apply below_drew1 | refine below_set ?_ (IsS129.ge HI0.out) | refine below_set ?_ GE181.out | refine below_set ?_ GE189.out) | exact HB.out), by repeat (first | (with_reducible first | exact HK.out | apply KeepBut.set_ | apply keep_drewN | apply keep_drew | apply keep_alloc | refine keep_far ?_ GW181.out _ | refine keep_far ?_ GW189.out _) | exact HK.out)⟩

end Go.Proofs.Ytfcpbgedgedalaa.Q
