-- written by px.py and merge.py (programs of this claim's), over the kit's print. Not trusted: Lean checks it.
import Derived.Test.YtfcpbgedgedalaaQ0
import Derived.Test.YtfcpbgedgedalaaM0FnTurnSignature
import Derived.Test.YtfcpbgedgedalaaM1FnTurnSignature
import Derived.Test.YtfcpbgedgedalaaM4FnTurnSignature
namespace Go.Proofs.Ytfcpbgedgedalaa.Q
open Go.RowKit Go.Proofs.YtfcpbgedgedalaaL.PrintWords Go.Proofs.YtfcpbgedgedalaaL.PrintLast Go.Proofs.YtfcpbgedgedalaaL.PrintMore
attribute [local go_sem] max2_int min2_int max_two min_two max_three min_three max_four min_four   -- for this text's walks alone
set_option linter.unusedVariables false
set_option linter.unusedSimpArgs false

theorem zi129_95 {w0 W W' : World} {g : Nat} {f0 f0' : List Int} {f1 f1' : Int} (h : Aside0 (IsS129 w0 W g f0 f1)) (i : IsS129 w0 W g f0 f1 → IsS129 w0 W' g f0' f1' := by intro hh_; repeat (first | (with_reducible first | exact hh_ | apply IsS129.alloc | apply IsS129.drewN | apply IsS129.drew | apply IsS129.set_1 | refine IsS129.far ?_ (Aside0.out (by assumption)) _) | exact hh_)) : IsS129 w0 W' g f0' f1' := i h.out
theorem zj129_95 {B : Nat} {w W W' : World} (h : Aside0 (Below B w W)) (i : Below B w W → Below B w W' := by intro hh_; repeat (first | (with_reducible first | exact hh_ | apply below_alloc | apply pw_below_drewN | apply below_drew1 | refine below_set ?_ (IsS129.ge (Aside0.out (by assumption))) | refine below_set ?_ (Aside0.out (by assumption))) | exact hh_)) : Below B w W' := i h.out
/-! ### spec_someSignature: function 96 -/
def spec_someSignature.f (k : Nat) (s0_0 : List Int) (s0_1 : Int) : Option ((List (S123)) × Int) := (spec_goodSignature.f k s0_0 s0_1).bind fun bt1031 => (if (bt1031.1.length : Int) > 0 then ((spec_reader_pick.f k s0_0 bt1031.2 (bt1031.1.length : Int)).bind fun bt1036 => ((spec_reader_pick.f k s0_0 bt1036.2 24).bind fun bt1038 => (if bt1038.1 = 0 then ((spec_anyName.f k s0_0 bt1038.2).bind fun bt1040 => (if 0 ≤ bt1036.1 then (if bt1036.1 < (bt1031.1.length : Int) then (some ((bt1031.1.set (bt1036.1 : Int).toNat (⟨bt1040.1, (rd_T123 bt1031.1 bt1036.1).f1, (rd_T123 bt1031.1 bt1036.1).f2, (rd_T123 bt1031.1 bt1036.1).f3⟩ : S123)), bt1040.2)) else (none)) else (none))) else (if bt1038.1 = 1 then ((spec_reader_one.f k s0_0 bt1038.2 (([(-1), 5, 0, 2, 4] : List Int))).bind fun bt1046 => (if 0 ≤ bt1036.1 then (if bt1036.1 < (bt1031.1.length : Int) then (some ((bt1031.1.set (bt1036.1 : Int).toNat (⟨(rd_T123 bt1031.1 bt1036.1).f0, bt1046.1, (rd_T123 bt1031.1 bt1036.1).f2, (rd_T123 bt1031.1 bt1036.1).f3⟩ : S123)), bt1046.2)) else (none)) else (none))) else (if bt1038.1 = 2 then (if 0 ≤ bt1036.1 then (if bt1036.1 < (bt1031.1.length : Int) then (some ((bt1031.1.set (bt1036.1 : Int).toNat (⟨(rd_T123 bt1031.1 bt1036.1).f0, (rd_T123 bt1031.1 bt1036.1).f1, !((rd_T123 bt1031.1 bt1036.1).f2), (rd_T123 bt1031.1 bt1036.1).f3⟩ : S123)), bt1038.2)) else (none)) else (none)) else (if bt1038.1 = 3 then ((spec_reader_one.f k s0_0 bt1038.2 (([100, 5] : List Int))).bind fun bt1054 => (if 0 ≤ bt1036.1 then (if bt1036.1 < (bt1031.1.length : Int) then (some ((bt1031.1.set (bt1036.1 : Int).toNat (⟨(rd_T123 bt1031.1 bt1036.1).f0, (rd_T123 bt1031.1 bt1036.1).f1, (rd_T123 bt1031.1 bt1036.1).f2, bt1054.1⟩ : S123)), bt1054.2)) else (none)) else (none))) else (some (bt1031.1, bt1038.2)))))))) else (some (bt1031.1, bt1031.2)))
theorem spec_someSignature.mono : ∀ a0 a1 k, LeO (spec_someSignature.f k a0 a1) (spec_someSignature.f (k + 1) a0 a1) := by
 intro a0 a1 k
 unfold spec_someSignature.f
 repeat' first
   | (with_reducible exact spec_anyName.mono _ _ _)
   | (with_reducible exact spec_goodSignature.mono _ _ _)
   | (with_reducible exact spec_reader_one.mono _ _ _ _)
   | (with_reducible exact spec_reader_pick.mono _ _ _ _)
   | (with_reducible exact LeO.refl _)
   | (with_reducible exact LeO.none _)
   | (with_reducible refine LeO.ite ?_ ?_)
   | (with_reducible refine LeO.bind ?_ (fun _ => ?_))
   | exact spec_anyName.mono _ _ _
   | exact spec_goodSignature.mono _ _ _
   | exact spec_reader_one.mono _ _ _ _
   | exact spec_reader_pick.mono _ _ _ _
   | exact LeO.none _
   | refine LeO.ite ?_ ?_
   | refine LeO.bind ?_ (fun _ => ?_)
def spec_someSignature.T6 : Bool × List (List Nat × List Nat) := (true, [([], []), ([0], [0]), ([], []), ([], []), ([3], [3]), ([1, 2, 0, 1, 2, 3, 4], [1, 2]), ([5, 0, 1, 2, 3, 4], [5]), ([6, 4, 4, 0, 1, 2, 3, 4], [4, 6])])
def spec_someSignature.B6 : List Nat := [0, 1, 0, 0, 8, 31, 63, 127]
theorem spec_someSignature.tab6 : rtab .any (opsOf Try.f96 6) = spec_someSignature.T6 := by kernel_rfl
theorem spec_someSignature.bits6 : waitsOk spec_someSignature.T6.2 spec_someSignature.B6 = true := by kernel_rfl
def spec_someSignature.T8 : Bool × List (List Nat × List Nat) := (true, [([], []), ([0], [0]), ([], []), ([], []), ([], []), ([3, 4], [3, 4]), ([1, 2, 0, 1, 2, 3, 4, 5], [1, 2]), ([6, 0, 1, 2, 3, 4, 5], [6]), ([7, 5, 5, 0, 1, 2, 3, 4, 5], [5, 7])])
def spec_someSignature.B8 : List Nat := [0, 1, 0, 0, 0, 24, 63, 127, 255]
theorem spec_someSignature.tab8 : rtab .any (opsOf Try.f96 8) = spec_someSignature.T8 := by kernel_rfl
theorem spec_someSignature.bits8 : waitsOk spec_someSignature.T8.2 spec_someSignature.B8 = true := by kernel_rfl
def spec_someSignature.T10 : Bool × List (List Nat × List Nat) := (true, [([], []), ([0], [0]), ([], []), ([], []), ([3], [3]), ([], []), ([4, 5], [4, 5]), ([6], [6]), ([7], [7]), ([8], [8]), ([1, 2, 0, 1, 2, 3, 4, 5, 6, 7, 8, 9], [1, 2]), ([10, 0, 1, 2, 3, 4, 5, 6, 7, 8, 9], [10]), ([11, 9, 0, 1, 2, 3, 4, 5, 6, 7, 8, 9], [9, 11])])
def spec_someSignature.B10 : List Nat := [0, 1, 0, 0, 8, 0, 56, 120, 248, 504, 1023, 2047, 4095]
theorem spec_someSignature.tab10 : rtab .any (opsOf Try.f96 10) = spec_someSignature.T10 := by kernel_rfl
theorem spec_someSignature.bits10 : waitsOk spec_someSignature.T10.2 spec_someSignature.B10 = true := by kernel_rfl
def spec_someSignature.T12 : Bool × List (List Nat × List Nat) := (true, [([], []), ([0], [0]), ([], []), ([], []), ([], []), ([3, 4], [3, 4]), ([1, 2, 0, 1, 2, 3, 4, 5], [1, 2]), ([6, 0, 1, 2, 3, 4, 5], [6]), ([7, 5, 5, 0, 1, 2, 3, 4, 5], [5, 7])])
def spec_someSignature.B12 : List Nat := [0, 1, 0, 0, 0, 24, 63, 127, 255]
theorem spec_someSignature.tab12 : rtab .any (opsOf Try.f96 12) = spec_someSignature.T12 := by kernel_rfl
theorem spec_someSignature.bits12 : waitsOk spec_someSignature.T12.2 spec_someSignature.B12 = true := by kernel_rfl
set_option maxHeartbeats 8000000 in
set_option maxRecDepth 100000 in
theorem spec_someSignature.calls (k : Nat) (g : Nat) (s0_0 : List Int) (s0_1 : Int) (r1 : List (S123)) (r2 : Int) (w0 w : World) (hI : IsS129 w0 w g s0_0 s0_1) (hB : Below w0.heap.size w0 w) (h : spec_someSignature.f k s0_0 s0_1 = some (r1, r2)) :
  Calls Try.prog 96 #[.pointer (some ⟨g, 0, none⟩)] w fun e w' => ∃ v0_ : Value, e = .returned (.agg #[v0_]) ∧ Kd.R k123 123 w' w.heap.size (fun _ => True) v0_ r1 ∧ IsS129 w0 w' g s0_0 r2 ∧ Below w0.heap.size w0 w' ∧ KeepBut w w' g none := by
 have hu71 := Try.underlying71
 have HI0 := Aside0.mk hI
 have HK := Aside0.mk (KeepBut.refl w g none)
 have HL := Aside0.mk hB.size
 clear hI
 have HW0 := Aside0.mk hB.size
 have HB := Aside0.mk hB
 clear hB
 have H : ((spec_goodSignature.f k s0_0 s0_1).bind fun bt1031 => (if (bt1031.1.length : Int) > 0 then ((spec_reader_pick.f k s0_0 bt1031.2 (bt1031.1.length : Int)).bind fun bt1036 => ((spec_reader_pick.f k s0_0 bt1036.2 24).bind fun bt1038 => (if bt1038.1 = 0 then ((spec_anyName.f k s0_0 bt1038.2).bind fun bt1040 => (if 0 ≤ bt1036.1 then (if bt1036.1 < (bt1031.1.length : Int) then (some ((bt1031.1.set (bt1036.1 : Int).toNat (⟨bt1040.1, (rd_T123 bt1031.1 bt1036.1).f1, (rd_T123 bt1031.1 bt1036.1).f2, (rd_T123 bt1031.1 bt1036.1).f3⟩ : S123)), bt1040.2)) else (none)) else (none))) else (if bt1038.1 = 1 then ((spec_reader_one.f k s0_0 bt1038.2 (([(-1), 5, 0, 2, 4] : List Int))).bind fun bt1046 => (if 0 ≤ bt1036.1 then (if bt1036.1 < (bt1031.1.length : Int) then (some ((bt1031.1.set (bt1036.1 : Int).toNat (⟨(rd_T123 bt1031.1 bt1036.1).f0, bt1046.1, (rd_T123 bt1031.1 bt1036.1).f2, (rd_T123 bt1031.1 bt1036.1).f3⟩ : S123)), bt1046.2)) else (none)) else (none))) else (if bt1038.1 = 2 then (if 0 ≤ bt1036.1 then (if bt1036.1 < (bt1031.1.length : Int) then (some ((bt1031.1.set (bt1036.1 : Int).toNat (⟨(rd_T123 bt1031.1 bt1036.1).f0, (rd_T123 bt1031.1 bt1036.1).f1, !((rd_T123 bt1031.1 bt1036.1).f2), (rd_T123 bt1031.1 bt1036.1).f3⟩ : S123)), bt1038.2)) else (none)) else (none)) else (if bt1038.1 = 3 then ((spec_reader_one.f k s0_0 bt1038.2 (([100, 5] : List Int))).bind fun bt1054 => (if 0 ≤ bt1036.1 then (if bt1036.1 < (bt1031.1.length : Int) then (some ((bt1031.1.set (bt1036.1 : Int).toNat (⟨(rd_T123 bt1031.1 bt1036.1).f0, (rd_T123 bt1031.1 bt1036.1).f1, (rd_T123 bt1031.1 bt1036.1).f2, bt1054.1⟩ : S123)), bt1054.2)) else (none)) else (none))) else (some (bt1031.1, bt1038.2)))))))) else (some (bt1031.1, bt1031.2)))) = some (r1, r2) := h
 clear h
 replace H := Option.bind_eq_some_iff.mp H
 obtain ⟨⟨t1031, t1034⟩, A20, H⟩ := H
 (try dsimp only at H)
 have A2 := Aside0.mk A20
 clear A20
 by_cases c3 : (t1031.length : Int) > 0
 ·rw [if_pos c3] at H
  have c3b0 : decide (0 < (t1031.length : Int)) = true := decide_eq_true c3
  have c3b1 : decide (0 < t1031.length) = true := decide_eq_true (by omega)
  clear c3
  replace H := Option.bind_eq_some_iff.mp H
  obtain ⟨⟨t1036, t1037⟩, A40, H⟩ := H
  (try dsimp only at H)
  have A4 := Aside0.mk A40
  clear A40
  replace H := Option.bind_eq_some_iff.mp H
  obtain ⟨⟨t1038, t1039⟩, A50, H⟩ := H
  (try dsimp only at H)
  have A5 := Aside0.mk A50
  clear A50
  by_cases c6 : t1038 = 0
  ·rw [if_pos c6] at H
   have c6b0 : (t1038 == 0) = true := beq_iff_eq.mpr c6
   have c6b1 : (t1038 != 0) = false := bne_eq_false_iff_eq.mpr c6
   clear c6
   replace H := Option.bind_eq_some_iff.mp H
   obtain ⟨⟨t1040, t1041⟩, A70, H⟩ := H
   (try dsimp only at H)
   have A7 := Aside0.mk A70
   clear A70
   by_cases c8 : 0 ≤ t1036
   ·rw [if_pos c8] at H
    have c8b0 : decide (0 ≤ t1036) = true := decide_eq_true c8
    clear c8
    by_cases c9 : t1036 < (t1031.length : Int)
    ·rw [if_pos c9] at H
     have c9b0 : decide (t1036 < (t1031.length : Int)) = true := decide_eq_true c9
     clear c9
     obtain ⟨y1042, hy1042⟩ : ∃ y_ : List (S123), y_ = (t1031.set (t1036 : Int).toNat (⟨t1040, (rd_T123 t1031 t1036).f1, (rd_T123 t1031 t1036).f2, (rd_T123 t1031 t1036).f3⟩ : S123)) := ⟨_, rfl⟩
     replace H : (some (y1042, t1041)) = some (r1, r2) := by first | (rw [hy1042]; with_reducible exact H) | (have H2_ := (Option.bind_some _ _).symm.trans H; rw [hy1042]; with_reducible exact H2_) | (have H2_ := (Option.bind_some _ _).symm.trans H; with_reducible exact H2_) | with_reducible exact H | (rw [hy1042]; exact H) | exact H
     have Ny1042 := Aside0.mk hy1042
     clear hy1042
     simp only [Option.some.injEq, Prod.mk.injEq] at H
     obtain ⟨rfl, rfl⟩ := H
     go_enter Try.func96, Try.ntmps96
     try go_wp2_with (first | ((with_reducible refine gate_dst (N := 2) rfl ?_); refine box_event ?hg (N := 2) ?hd (cs := #[.slice none 0 0]) (t := 71) ?hr ?_; (case hd => rfl); (case hg => rfl); (case hr => first | (go_simp; done) | (go_simp; rfl)); intro gb1030 hg w11 hbox hb; replace HB := Aside0.mk (below_step (zj129_95 HB) hb); have BK1030 := Aside0.mk (hbox); have GW1030 := Aside0.mk ((by rw [hg]; exact (keep_size (w := w) (g := g) (row := none) (zk HK)) : w.heap.size ≤ gb1030)); have GE1030 := Aside0.mk ((Nat.le_trans HW0.out (by rw [hg]; exact (keep_size (w := w) (g := g) (row := none) (zk HK)) : w.heap.size ≤ gb1030) : w0.heap.size ≤ gb1030)); replace HK := Aside0.mk (KeepBut.trans (zk HK) (KeepBut.of_below hb g none) (.inl rfl)); have NB0_1030 := Aside0.mk ((by rw [hg]; exact Nat.ne_of_lt (IsS129.lt (show IsS129 w0 _ g s0_0 s0_1 from zi129_95 HI0)) : g ≠ gb1030)); have NB1030_0 := Aside0.mk ((by rw [hg]; exact Nat.ne_of_gt (IsS129.lt (show IsS129 w0 _ g s0_0 s0_1 from zi129_95 HI0)) : gb1030 ≠ g)); replace HI0 := Aside0.mk (IsS129.below (zi129_95 HI0) hb); clear hb hbox hg) | ((with_reducible refine gate_callee (f := 134) rfl ?_); refine goesL_ (some 6) rfl rfl Try.func134 (by kernel_rfl) rfl #[.pointer (some ⟨g, 0, none⟩)] rfl zl ?_; (with_reducible refine (spec_goodSignature.calls k g s0_0 s0_1 t1031 t1034 w0 _ ?side1 ?side2 A2.out).mono ?_); (case side1 => exact zi129_95 HI0); (case side2 => exact zj129_95 HB); rintro e w12 ⟨v1032, rfl, ho0, hi, hb, hk⟩; refine ⟨_, rfl, ?_⟩; replace BK1030 := Aside0.mk (KeepBut.blk hk (g' := gb1030) (o := .cells #[.slice none 0 0] 71 (0, 0)) (zb BK1030) NB1030_0.out (by simp)); have HO1033 := Aside0.mk (Kd.R_lower ho0 (keep_size (w := w) (g := g) (row := none) (zk HK))); replace HK := Aside0.mk (KeepBut.trans (zk HK) hk (.inl rfl)); replace HB := Aside0.mk (hb); replace HI0 := Aside0.mk (hi); (try clear hb); (try clear hb2); (try clear hk); (try clear hi); (try clear ho0)) | ((with_reducible refine gate_dst (N := 3) rfl ?_); refine box_event ?hg (N := 3) ?hd (cs := #[.slice none 0 0]) (t := 71) ?hr ?_; (case hd => rfl); (case hg => rfl); (case hr => first | (go_simp; done) | (go_simp; rfl)); intro gb1035 hg w13 hbox hb; replace HO1033 := Aside0.mk (Kd.R_below (zo HO1033) hb); replace HB := Aside0.mk (below_step (zj129_95 HB) hb); have BK1035 := Aside0.mk (hbox); have GW1035 := Aside0.mk ((by rw [hg]; exact (keep_size (w := w) (g := g) (row := none) (zk HK)) : w.heap.size ≤ gb1035)); have GE1035 := Aside0.mk ((Nat.le_trans HW0.out (by rw [hg]; exact (keep_size (w := w) (g := g) (row := none) (zk HK)) : w.heap.size ≤ gb1035) : w0.heap.size ≤ gb1035)); replace HK := Aside0.mk (KeepBut.trans (zk HK) (KeepBut.of_below hb g none) (.inl rfl)); have NB1030_1035 := Aside0.mk ((by rw [hg]; exact Nat.ne_of_lt (blk_lt (g := gb1030) (o := .cells #[.slice none 0 0] 71 (0, 0)) (zb BK1030)) : gb1030 ≠ gb1035)); have NB1035_1030 := Aside0.mk ((by rw [hg]; exact Nat.ne_of_gt (blk_lt (g := gb1030) (o := .cells #[.slice none 0 0] 71 (0, 0)) (zb BK1030)) : gb1035 ≠ gb1030)); replace BK1030 := Aside0.mk (blk_below (g := gb1030) (o := .cells #[.slice none 0 0] 71 (0, 0)) (zb BK1030) hb); have NB0_1035 := Aside0.mk ((by rw [hg]; exact Nat.ne_of_lt (IsS129.lt (show IsS129 w0 _ g s0_0 t1034 from zi129_95 HI0)) : g ≠ gb1035)); have NB1035_0 := Aside0.mk ((by rw [hg]; exact Nat.ne_of_gt (IsS129.lt (show IsS129 w0 _ g s0_0 t1034 from zi129_95 HI0)) : gb1035 ≠ g)); replace HI0 := Aside0.mk (IsS129.below (zi129_95 HI0) hb); clear hb hbox hg; obtain ⟨Ao14, co14, eo14⟩ := Kd.R_slice HO1033.out; subst eo14; have hnb15 := NB1035_1030.out; have hnc15 := NB1030_1035.out; have hnb16 := NB1035_0.out; have hnc16 := NB0_1035.out; have hcz17_0 : w13.cell? ⟨gb1035, 0, none⟩ = some (.slice none 0 0) := (blk_cell BK1035.out 0).trans rfl; have hfz17_0 := blk_frozen BK1035.out 0) | ((with_reducible refine gate_callee (f := 90) rfl ?_); refine goesL_ (some 15) rfl rfl Try.func90 (by kernel_rfl) rfl #[.pointer (some ⟨g, 0, none⟩), .int .i64 (t1031.length : Int)] rfl zl ?_; (with_reducible refine (spec_reader_pick.calls k g s0_0 t1034 (t1031.length : Int) t1036 t1037 w0 _ ?side1 ?side2 A4.out).mono ?_); (case side1 => exact zi129_95 HI0); (case side2 => exact zj129_95 HB); rintro e w18 ⟨rfl, hi, hb, hk⟩; refine ⟨_, rfl, ?_⟩; replace BK1030 := Aside0.mk (KeepBut.blk hk (g' := gb1030) (o := .cells #[.slice none 0 0] 71 (0, 0)) (zf BK1030) NB1030_0.out (by simp)); replace HO1033 := Aside0.mk (Kd.R_mono (Kd.R_keep (IsS129.apart (show IsS129 w0 _ g s0_0 t1034 from zi129_95 HI0) (by (with_reducible repeat (first | apply Kd.R_alloc | apply Kd.R_drewN | apply Kd.R_drew)); exact (Kd.R_mono (Kd.R_far (p := ⟨gb1035, 0, none⟩) (Kd.R_types HO1033.out BK1035.out (by decide)) (fun _ hk => hk.2) (.slice Ao14 t1031.length co14)) (fun _ h_ => h_.1))) (by decide)) hk (fun _ h => h.2)) (fun _ h => h.1)); replace BK1035 := Aside0.mk (KeepBut.blk hk (g' := gb1035) (o := .cells #[.slice Ao14 t1031.length co14] 71 (0, 0)) (by (with_reducible repeat (first | refine blk_drewN ?_ _ | refine blk_drew ?_ | refine blk_alloc ?_ _)); refine blk_put (cs := #[.slice none 0 0]) ?_ 0 _ rfl; (with_reducible repeat (first | refine blk_drewN ?_ _ | refine blk_drew ?_ | refine blk_alloc ?_ _)); exact BK1035.out) NB1035_0.out (by simp)); replace HK := Aside0.mk (KeepBut.trans (zk HK) hk (.inl rfl)); replace HB := Aside0.mk (hb); replace HI0 := Aside0.mk (hi); (try clear hb); (try clear hb2); (try clear hk); (try clear hi)) | ((with_reducible refine gate_callee (f := 90) rfl ?_); refine goesL_ (some 17) rfl rfl Try.func90 (by kernel_rfl) rfl #[.pointer (some ⟨g, 0, none⟩), .int .i64 24] rfl zl ?_; (with_reducible refine (spec_reader_pick.calls k g s0_0 t1037 24 t1038 t1039 w0 _ ?side1 ?side2 A5.out).mono ?_); (case side1 => exact zi129_95 HI0); (case side2 => exact zj129_95 HB); rintro e w19 ⟨rfl, hi, hb, hk⟩; refine ⟨_, rfl, ?_⟩; replace BK1030 := Aside0.mk (KeepBut.blk hk (g' := gb1030) (o := .cells #[.slice none 0 0] 71 (0, 0)) (zb BK1030) NB1030_0.out (by simp)); replace HO1033 := Aside0.mk (Kd.R_mono (Kd.R_keep (IsS129.apart (show IsS129 w0 _ g s0_0 t1037 from zi129_95 HI0) (zo HO1033) (by decide)) hk (fun _ h => h.2)) (fun _ h => h.1)); replace BK1035 := Aside0.mk (KeepBut.blk hk (g' := gb1035) (o := .cells #[.slice Ao14 t1031.length co14] 71 (0, 0)) (zb BK1035) NB1035_0.out (by simp)); replace HK := Aside0.mk (KeepBut.trans (zk HK) hk (.inl rfl)); replace HB := Aside0.mk (hb); replace HI0 := Aside0.mk (hi); (try clear hb); (try clear hb2); (try clear hk); (try clear hi)))
     replace HO1033 := Aside0.mk (Kd.R_drew HO1033.out)
     replace BK1030 := Aside0.mk (blk_drew BK1030.out)
     replace BK1035 := Aside0.mk (blk_drew BK1035.out)
     replace HI0 := Aside0.mk (IsS129.drew HI0.out)
     replace HK := Aside0.mk (keep_drew HK.out)
     replace HB := Aside0.mk (below_drew1 HB.out)
     refine start_ (n := 8) (S := fun w' => w'.cell? ⟨gb1035, 0, none⟩ = some (.slice Ao14 t1031.length co14)) (ds := [7]) #[false, false, false, false, false, false, false, false] (by kernel_rfl) rfl rfl ((blk_cell BK1035.out 0).trans rfl) (fun hHeld => ?_); refine with_tabW spec_someSignature.tab6 spec_someSignature.bits6 (fun HT_ HW_ => ?_)
     generalize w19.drew = w20 at HO1033 BK1030 BK1035 HI0 HK HB hHeld ⊢
     refine pure_ (i := 0) (N := some 20) (v := ?_) (a' := ?_) #[true, false, false, false, false, false, false, false] rfl rfl (any_of HT_.out (by kernel_rfl)) (fun _ _ _ h => h) (Or.inl ⟨by rfl, ?_⟩) ?_ ?_
     rotate_left
     ·intro w'
      go_simp
      with_reducible rfl
     rotate_left
     ·simp only [Act.put, List.setIfInBounds_toArray, List.set_cons_zero, List.set_cons_succ, i64_w, i32_w]
      rfl
     refine pure_ (i := 2) (N := some 22) (v := ?_) (a' := ?_) #[true, false, true, false, false, false, false, false] rfl rfl (any_of HT_.out (by kernel_rfl)) (fun _ _ _ h => h) (Or.inl ⟨by rfl, ?_⟩) ?_ ?_
     rotate_left
     ·intro w'
      go_simp
      with_reducible rfl
     rotate_left
     ·simp only [Act.put, List.setIfInBounds_toArray, List.set_cons_zero, List.set_cons_succ, i64_w, i32_w]
      rfl
     refine pure_ (i := 3) (N := some 23) (v := ?_) (a' := ?_) #[true, false, true, true, false, false, false, false] rfl rfl (any_of HT_.out (by kernel_rfl)) (fun _ _ _ h => h) (Or.inl ⟨by rfl, ?_⟩) ?_ ?_
     rotate_left
     ·intro w'
      go_simp
      with_reducible rfl
     rotate_left
     ·simp only [Act.put, List.setIfInBounds_toArray, List.set_cons_zero, List.set_cons_succ, i64_w, i32_w]
      rfl
     refine take_ (i := 1) (N := some 21) (v := ?_) (a' := ?_) #[true, true, true, true, false, false, false, false] rfl rfl (take_ofW HT_.out HW_.out (by kernel_rfl)) (fun _ _ _ h => h) (Or.inl ⟨by rfl, ?_⟩) hHeld ?_ ?_
     rotate_left
     ·intro w' s0
      go_simp
      with_reducible rfl
     rotate_left
     ·simp only [Act.put, List.setIfInBounds_toArray, List.set_cons_zero, List.set_cons_succ, i64_w, i32_w]
      rfl
     refine one_ (i := 4) (N := some 24) #[true, true, true, true, true, false, false, false] rfl rfl (one_of HT_.out (by kernel_rfl)) (by decide) (fun K hK => ?_)
     refine goes_ Try.func112 (by kernel_rfl) rfl #[.pointer (some ⟨g, 0, none⟩)] (by rfl) rfl rfl zl ?_
     with_reducible refine (spec_anyName.calls k g s0_0 t1039 t1040 t1041 w0 _ ?side1 ?side2 A7.out).mono ?_
     (case side1 => exact zi129_95 HI0)
     (case side2 => exact zj129_95 HB)
     rintro e w21 ⟨rfl, hi, hb, hk⟩
     refine ⟨_, rfl, ?_⟩
     replace BK1030 := Aside0.mk (KeepBut.blk hk (g' := gb1030) (o := .cells #[.slice none 0 0] 71 (0, 0)) (zb BK1030) NB1030_0.out (by simp))
     replace HO1033 := Aside0.mk (Kd.R_mono (Kd.R_keep (IsS129.apart (show IsS129 w0 _ g s0_0 t1039 from zi129_95 HI0) (zo HO1033) (by decide)) hk (fun _ h => h.2)) (fun _ h => h.1))
     replace BK1035 := Aside0.mk (KeepBut.blk hk (g' := gb1035) (o := .cells #[.slice Ao14 t1031.length co14] 71 (0, 0)) (zb BK1035) NB1035_0.out (by simp))
     replace HK := Aside0.mk (KeepBut.trans (zk HK) hk (.inl rfl))
     replace HB := Aside0.mk (hb)
     replace HI0 := Aside0.mk (hi)
     (try clear hb)
     (try clear hb2)
     (try clear hk)
     (try clear hi)
     have p10 : 0 ≤ (t1036 : Int) := of_decide_eq_true za
     have q10 : (t1036 : Int) < ((t1031.length : Int) : Int) := of_decide_eq_true za
     obtain ⟨go10, co10, eo10, gb10, gl10, cl10, HG10⟩ := Kd.R_form HO1033.out (by omega)
     (first | cases eo10 | (injection eo10 with ea_ en_ ec_; (first | subst ea_ | (injection ea_ with ea_; subst ea_)); subst ec_; clear en_))
     have GB10 := Aside0.mk gb10
     have GG10 := Aside0.mk HG10
     clear gb10 gl10 HG10
     obtain ⟨ce10, hcl10, hM10, hcc10, hfr10⟩ := Kd.R_elem HO1033.out z123 (t1036 : Int) p10 q10
     obtain rfl := k123_openM hM10
     have hx10_0 : World.cell? _ ⟨go10, (t1036 : Int).toNat * 4, none⟩ = some (.string ((rd_T123 t1031 t1036).f0)) := hcc10 0 _ rfl
     have hx10_1 : World.cell? _ ⟨go10, (t1036 : Int).toNat * 4 + 1, none⟩ = some (.int .i64 ((rd_T123 t1031 t1036).f1)) := hcc10 1 _ rfl
     have hx10_2 : World.cell? _ ⟨go10, (t1036 : Int).toNat * 4 + 2, none⟩ = some (.bool ((rd_T123 t1031 t1036).f2)) := hcc10 2 _ rfl
     have hx10_3 : World.cell? _ ⟨go10, (t1036 : Int).toNat * 4 + 3, none⟩ = some (.int .i64 ((rd_T123 t1031 t1036).f3)) := hcc10 3 _ rfl
     have hf10_0 : World.frozen? _ ⟨go10, (t1036 : Int).toNat * 4, none⟩ = false := hfr10 0
     have hf10_1 : World.frozen? _ ⟨go10, (t1036 : Int).toNat * 4 + 1, none⟩ = false := hfr10 1
     have hf10_2 : World.frozen? _ ⟨go10, (t1036 : Int).toNat * 4 + 2, none⟩ = false := hfr10 2
     have hf10_3 : World.frozen? _ ⟨go10, (t1036 : Int).toNat * 4 + 3, none⟩ = false := hfr10 3
     clear hcl10 hcc10 hfr10 hM10
     replace p10 := eq_true p10
     replace q10 := eq_true q10
     have HN0_go10 := Aside0.mk (show g ≠ go10 from by have h_ := IsS129.own_ne HI0.out HO1033.out (by decide); intro e_; exact h_ (by rw [e_]; rfl))
     obtain ⟨ce22, hcl22, hM22, hcc22, hfr22⟩ := Kd.R_elem HO1033.out z123 (t1036 : Int) (of_decide_eq_true za) (by have h_ : (t1036 : Int) < ((t1031.length : Int) : Int) := of_decide_eq_true za; first | exact h_ | (have e_ := (Kd.R_reads' HO1033.out).1; omega) | simpa using h_)
     obtain rfl := k123_openM hM22
     have HP22 := (Kd.R_seg HO1033.out (t1036 : Int) (of_decide_eq_true za) (by have h_ : (t1036 : Int) < ((t1031.length : Int) : Int) := of_decide_eq_true za; first | exact h_ | (have e_ := (Kd.R_reads' HO1033.out).1; omega) | simpa using h_) (seg := [.string t1040]) (j := 0) hcl22 hcc22 (show 1 ≤ 4 from by decide) (x' := (⟨t1040, (rd_T123 t1031 t1036).f1, (rd_T123 t1031 t1036).f2, (rd_T123 t1031 t1036).f3⟩ : S123)) (k123_mkM _ _ _ (⟨t1040, (rd_T123 t1031 t1036).f1, (rd_T123 t1031 t1036).f2, (rd_T123 t1031 t1036).f3⟩ : S123) ) (fun _ hk => hk)).1
     rw [← Ny1042.out] at HP22
     have HQ22 := Aside0.mk HP22
     clear hcl22 hcc22 hfr22 hM22 HP22
     refine hK.out _ _ ((blk_cell BK1035.out 0).trans rfl) (fun hHeld => ?_)
     clear hK K
     refine norm_ (a' := ?_) ?_ ?_
     rotate_left
     ·show Act.put _ (some 24) _ = _
      simp only [Act.put, List.setIfInBounds_toArray, List.set_cons_zero, List.set_cons_succ, i64_w, i32_w]
      rfl
     refine pure_ (i := 5) (N := some 25) (v := ?_) (a' := ?_) #[true, true, true, true, true, true, false, false] rfl rfl (any_of HT_.out (by kernel_rfl)) (fun _ _ _ h => h) (Or.inl ⟨by rfl, ?_⟩) ?_ ?_
     rotate_left
     ·intro w'
      go_simp
      with_reducible rfl
     rotate_left
     ·simp only [Act.put, List.setIfInBounds_toArray, List.set_cons_zero, List.set_cons_succ, i64_w, i32_w]
      rfl
     refine pure_ (i := 6) (N := some 26) (v := ?_) (a' := ?_) #[true, true, true, true, true, true, true, false] rfl rfl (any_of HT_.out (by kernel_rfl)) (fun _ _ _ h => h) (Or.inl ⟨by rfl, ?_⟩) ?_ ?_
     rotate_left
     ·intro w'
      go_simp
      with_reducible rfl
     rotate_left
     ·simp only [Act.put, List.setIfInBounds_toArray, List.set_cons_zero, List.set_cons_succ, i64_w, i32_w]
      rfl
     refine last_ (i := 7) (N := none) #[true, true, true, true, true, true, true, true] rfl rfl (one_of HT_.out (by kernel_rfl)) (by decide) (fun K hK => ?_)
     refine skip_ (w1 := ?_) (by rfl) rfl ?_ ?_
     rotate_left
     ·go_simp
      rfl
     refine hK.out _ _ ?_
     clear hK K
     refine done_ (done_of HT_.out (by kernel_rfl)) ?_
     have n0_ : Aside0 (Kd.R k123 123 (w21.setCell ⟨go10, (t1036 : Int).toNat * 4, none⟩ (.string t1040)) w.heap.size (fun _ => True) (.slice (some ⟨go10, 0, none⟩) t1031.length co14) y1042) := ⟨zo HQ22⟩
     have n1_ : Aside0 ((w21.setCell ⟨go10, (t1036 : Int).toNat * 4, none⟩ (.string t1040)).heap[gb1030]? = some (.cells #[.slice none 0 0] 71 (0, 0))) := ⟨by (with_reducible repeat (first | refine blk_drewN ?_ _ | refine blk_drew ?_ | refine blk_alloc ?_ _)); refine blk_far ?_ (by have h_ := Kd.R_ne HO1033.out BK1030.out (by decide); intro e_; exact h_ (by rw [e_]; rfl)) _; (with_reducible repeat (first | refine blk_drewN ?_ _ | refine blk_drew ?_ | refine blk_alloc ?_ _)); exact BK1030.out⟩
     have n2_ : Aside0 ((w21.setCell ⟨go10, (t1036 : Int).toNat * 4, none⟩ (.string t1040)).heap[gb1035]? = some (.cells #[.slice (some ⟨go10, 0, none⟩) t1031.length co14] 71 (0, 0))) := ⟨by (with_reducible repeat (first | refine blk_drewN ?_ _ | refine blk_drew ?_ | refine blk_alloc ?_ _)); refine blk_far ?_ (by have h_ := Kd.R_ne HO1033.out BK1035.out (by decide); intro e_; exact h_ (by rw [e_]; rfl)) _; (with_reducible repeat (first | refine blk_drewN ?_ _ | refine blk_drew ?_ | refine blk_alloc ?_ _)); exact BK1035.out⟩
     have n3_ : Aside0 (IsS129 w0 (w21.setCell ⟨go10, (t1036 : Int).toNat * 4, none⟩ (.string t1040)) g s0_0 t1041) := ⟨by repeat (first | (with_reducible first | exact HI0.out | apply IsS129.alloc | apply IsS129.drewN | apply IsS129.drew | apply IsS129.set_1 | refine IsS129.far ?_ HN0_go10.out _ | refine IsS129.far ?_ NB0_1030.out _ | refine IsS129.far ?_ NB0_1035.out _) | exact HI0.out)⟩
     have n4_ : Aside0 (KeepBut w (w21.setCell ⟨go10, (t1036 : Int).toNat * 4, none⟩ (.string t1040)) g none) := ⟨zk HK⟩
     have n5_ : Aside0 (Below w0.heap.size w0 (w21.setCell ⟨go10, (t1036 : Int).toNat * 4, none⟩ (.string t1040))) := ⟨by repeat (first | (with_reducible first | exact HB.out | apply below_alloc | apply pw_below_drewN | apply below_drew1 | refine below_set ?_ (Nat.le_trans HL.out GB10.out) | refine below_set ?_ (IsS129.ge HI0.out) | refine below_set ?_ GE1030.out | refine below_set ?_ GE1035.out) | exact HB.out)⟩
     (try clear HO1033)
     (try clear BK1030)
     (try clear BK1035)
     (try clear HI0)
     (try clear HK)
     (try clear HB)
     generalize (w21.setCell ⟨go10, (t1036 : Int).toNat * 4, none⟩ (.string t1040)) = w23 at n0_ n1_ n2_ n3_ n4_ n5_ ⊢
     have HO1033 := n0_
     have BK1030 := n1_
     have BK1035 := n2_
     have HI0 := n3_
     have HK := n4_
     have HB := n5_
     clear n0_ n1_ n2_ n3_ n4_ n5_
     have hcz24_0 : w23.cell? ⟨gb1035, 0, none⟩ = some (.slice (some ⟨go10, 0, none⟩) t1031.length co14) := (blk_cell BK1035.out 0).trans rfl
     have hfz24_0 := blk_frozen BK1035.out 0
     have hnb25 := NB1030_0.out
     have hnc25 := NB0_1030.out
     have hcz26_0 : w23.cell? ⟨gb1030, 0, none⟩ = some (.slice none 0 0) := (blk_cell BK1030.out 0).trans rfl
     have hfz26_0 := blk_frozen BK1030.out 0
     try go_wp2
     refine bodyPost_ret (results_cell_row rfl _ _ gb1030 71 #[.slice (some ⟨go10, 0, none⟩) t1031.length co14] (0, 0) _ rfl (by (with_reducible repeat (first | refine blk_drewN ?_ _ | refine blk_drew ?_ | refine blk_alloc ?_ _)); refine blk_put (cs := #[.slice none 0 0]) ?_ 0 _ rfl; (with_reducible repeat (first | refine blk_drewN ?_ _ | refine blk_drew ?_ | refine blk_alloc ?_ _)); exact BK1030.out) Try.underlying71 rfl (by kernel_rfl)) rfl ?_
     exact ⟨_, by first | rfl | (simp [errW_none, errW_some] <;> rfl) | (simp [*, errW_none, errW_some] <;> rfl), by (with_reducible repeat (first | apply Kd.R_alloc | apply Kd.R_drewN | apply Kd.R_drew)); exact Kd.R_mono (Kd.R_far (p := ⟨gb1030, 0, none⟩) (Kd.R_types HO1033.out BK1030.out (by decide)) (fun _ hk => hk.2) (.slice (some ⟨go10, 0, none⟩) t1031.length co14)) (fun _ hk => trivial), by repeat (first | (with_reducible first | exact HI0.out | apply IsS129.alloc | apply IsS129.drewN | apply IsS129.drew | apply IsS129.set_1 | refine IsS129.far ?_ NB0_1030.out _ | refine IsS129.far ?_ NB0_1035.out _) | exact HI0.out), by repeat (first | (with_reducible first | exact HB.out | apply below_alloc | apply pw_below_drewN | apply below_drew1 | refine below_set ?_ (IsS129.ge HI0.out) | refine below_set ?_ GE1030.out | refine below_set ?_ GE1035.out) | exact HB.out), zk HK⟩
    ·rw [if_neg c9] at H
     exact absurd H (by simp)
   ·rw [if_neg c8] at H
    exact absurd H (by simp)
  ·rw [if_neg c6] at H
   have c6b0 : (t1038 == 0) = false := beq_eq_false_iff_ne.mpr c6
   have c6b1 : (t1038 != 0) = true := bne_iff_ne.mpr c6
   by_cases c27 : t1038 = 1
   ·rw [if_pos c27] at H
    have c27b0 : (t1038 == 1) = true := beq_iff_eq.mpr c27
    have c27b1 : (t1038 != 1) = false := bne_eq_false_iff_eq.mpr c27
    clear c27
    obtain ⟨y1043, hy1043⟩ : ∃ y_ : List Int, y_ = (([(-1), 5, 0, 2, 4] : List Int)) := ⟨_, rfl⟩
    replace H : ((spec_reader_one.f k s0_0 t1039 y1043).bind fun bt1046 => (if 0 ≤ t1036 then (if t1036 < (t1031.length : Int) then (some ((t1031.set (t1036 : Int).toNat (⟨(rd_T123 t1031 t1036).f0, bt1046.1, (rd_T123 t1031 t1036).f2, (rd_T123 t1031 t1036).f3⟩ : S123)), bt1046.2)) else (none)) else (none))) = some (r1, r2) := by first | (rw [hy1043]; with_reducible exact H) | (have H2_ := (Option.bind_some _ _).symm.trans H; rw [hy1043]; with_reducible exact H2_) | (have H2_ := (Option.bind_some _ _).symm.trans H; with_reducible exact H2_) | with_reducible exact H | (rw [hy1043]; exact H) | exact H
    have Ny1043 := Aside0.mk hy1043
    clear hy1043
    replace H := Option.bind_eq_some_iff.mp H
    obtain ⟨⟨t1046, t1047⟩, A280, H⟩ := H
    (try dsimp only at H)
    have A28 := Aside0.mk A280
    clear A280
    by_cases c29 : 0 ≤ t1036
    ·rw [if_pos c29] at H
     have c29b0 : decide (0 ≤ t1036) = true := decide_eq_true c29
     clear c29
     by_cases c30 : t1036 < (t1031.length : Int)
     ·rw [if_pos c30] at H
      have c30b0 : decide (t1036 < (t1031.length : Int)) = true := decide_eq_true c30
      clear c30
      obtain ⟨y1048, hy1048⟩ : ∃ y_ : List (S123), y_ = (t1031.set (t1036 : Int).toNat (⟨(rd_T123 t1031 t1036).f0, t1046, (rd_T123 t1031 t1036).f2, (rd_T123 t1031 t1036).f3⟩ : S123)) := ⟨_, rfl⟩
      replace H : (some (y1048, t1047)) = some (r1, r2) := by first | (rw [hy1048]; with_reducible exact H) | (have H2_ := (Option.bind_some _ _).symm.trans H; rw [hy1048]; with_reducible exact H2_) | (have H2_ := (Option.bind_some _ _).symm.trans H; with_reducible exact H2_) | with_reducible exact H | (rw [hy1048]; exact H) | exact H
      have Ny1048 := Aside0.mk hy1048
      clear hy1048
      simp only [Option.some.injEq, Prod.mk.injEq] at H
      obtain ⟨rfl, rfl⟩ := H
      go_enter Try.func96, Try.ntmps96
      try go_wp2_with (first | ((with_reducible refine gate_dst (N := 2) rfl ?_); refine box_event ?hg (N := 2) ?hd (cs := #[.slice none 0 0]) (t := 71) ?hr ?_; (case hd => rfl); (case hg => rfl); (case hr => first | (go_simp; done) | (go_simp; rfl)); intro gb1030 hg w32 hbox hb; replace HB := Aside0.mk (below_step (zj129_95 HB) hb); have BK1030 := Aside0.mk (hbox); have GW1030 := Aside0.mk ((by rw [hg]; exact (keep_size (w := w) (g := g) (row := none) (zk HK)) : w.heap.size ≤ gb1030)); have GE1030 := Aside0.mk ((Nat.le_trans HW0.out (by rw [hg]; exact (keep_size (w := w) (g := g) (row := none) (zk HK)) : w.heap.size ≤ gb1030) : w0.heap.size ≤ gb1030)); replace HK := Aside0.mk (KeepBut.trans (zk HK) (KeepBut.of_below hb g none) (.inl rfl)); have NB0_1030 := Aside0.mk ((by rw [hg]; exact Nat.ne_of_lt (IsS129.lt (show IsS129 w0 _ g s0_0 s0_1 from zi129_95 HI0)) : g ≠ gb1030)); have NB1030_0 := Aside0.mk ((by rw [hg]; exact Nat.ne_of_gt (IsS129.lt (show IsS129 w0 _ g s0_0 s0_1 from zi129_95 HI0)) : gb1030 ≠ g)); replace HI0 := Aside0.mk (IsS129.below (zi129_95 HI0) hb); clear hb hbox hg) | ((with_reducible refine gate_callee (f := 134) rfl ?_); refine goesL_ (some 6) rfl rfl Try.func134 (by kernel_rfl) rfl #[.pointer (some ⟨g, 0, none⟩)] rfl zl ?_; (with_reducible refine (spec_goodSignature.calls k g s0_0 s0_1 t1031 t1034 w0 _ ?side1 ?side2 A2.out).mono ?_); (case side1 => exact zi129_95 HI0); (case side2 => exact zj129_95 HB); rintro e w33 ⟨v1032, rfl, ho0, hi, hb, hk⟩; refine ⟨_, rfl, ?_⟩; replace BK1030 := Aside0.mk (KeepBut.blk hk (g' := gb1030) (o := .cells #[.slice none 0 0] 71 (0, 0)) (zb BK1030) NB1030_0.out (by simp)); have HO1033 := Aside0.mk (Kd.R_lower ho0 (keep_size (w := w) (g := g) (row := none) (zk HK))); replace HK := Aside0.mk (KeepBut.trans (zk HK) hk (.inl rfl)); replace HB := Aside0.mk (hb); replace HI0 := Aside0.mk (hi); (try clear hb); (try clear hb2); (try clear hk); (try clear hi); (try clear ho0)) | ((with_reducible refine gate_dst (N := 3) rfl ?_); refine box_event ?hg (N := 3) ?hd (cs := #[.slice none 0 0]) (t := 71) ?hr ?_; (case hd => rfl); (case hg => rfl); (case hr => first | (go_simp; done) | (go_simp; rfl)); intro gb1035 hg w34 hbox hb; replace HO1033 := Aside0.mk (Kd.R_below (zo HO1033) hb); replace HB := Aside0.mk (below_step (zj129_95 HB) hb); have BK1035 := Aside0.mk (hbox); have GW1035 := Aside0.mk ((by rw [hg]; exact (keep_size (w := w) (g := g) (row := none) (zk HK)) : w.heap.size ≤ gb1035)); have GE1035 := Aside0.mk ((Nat.le_trans HW0.out (by rw [hg]; exact (keep_size (w := w) (g := g) (row := none) (zk HK)) : w.heap.size ≤ gb1035) : w0.heap.size ≤ gb1035)); replace HK := Aside0.mk (KeepBut.trans (zk HK) (KeepBut.of_below hb g none) (.inl rfl)); have NB1030_1035 := Aside0.mk ((by rw [hg]; exact Nat.ne_of_lt (blk_lt (g := gb1030) (o := .cells #[.slice none 0 0] 71 (0, 0)) (zb BK1030)) : gb1030 ≠ gb1035)); have NB1035_1030 := Aside0.mk ((by rw [hg]; exact Nat.ne_of_gt (blk_lt (g := gb1030) (o := .cells #[.slice none 0 0] 71 (0, 0)) (zb BK1030)) : gb1035 ≠ gb1030)); replace BK1030 := Aside0.mk (blk_below (g := gb1030) (o := .cells #[.slice none 0 0] 71 (0, 0)) (zb BK1030) hb); have NB0_1035 := Aside0.mk ((by rw [hg]; exact Nat.ne_of_lt (IsS129.lt (show IsS129 w0 _ g s0_0 t1034 from zi129_95 HI0)) : g ≠ gb1035)); have NB1035_0 := Aside0.mk ((by rw [hg]; exact Nat.ne_of_gt (IsS129.lt (show IsS129 w0 _ g s0_0 t1034 from zi129_95 HI0)) : gb1035 ≠ g)); replace HI0 := Aside0.mk (IsS129.below (zi129_95 HI0) hb); clear hb hbox hg; obtain ⟨Ao35, co35, eo35⟩ := Kd.R_slice HO1033.out; subst eo35; have hnb36 := NB1035_1030.out; have hnc36 := NB1030_1035.out; have hnb37 := NB1035_0.out; have hnc37 := NB0_1035.out; have hcz38_0 : w34.cell? ⟨gb1035, 0, none⟩ = some (.slice none 0 0) := (blk_cell BK1035.out 0).trans rfl; have hfz38_0 := blk_frozen BK1035.out 0) | ((with_reducible refine gate_callee (f := 90) rfl ?_); refine goesL_ (some 15) rfl rfl Try.func90 (by kernel_rfl) rfl #[.pointer (some ⟨g, 0, none⟩), .int .i64 (t1031.length : Int)] rfl zl ?_; (with_reducible refine (spec_reader_pick.calls k g s0_0 t1034 (t1031.length : Int) t1036 t1037 w0 _ ?side1 ?side2 A4.out).mono ?_); (case side1 => exact zi129_95 HI0); (case side2 => exact zj129_95 HB); rintro e w39 ⟨rfl, hi, hb, hk⟩; refine ⟨_, rfl, ?_⟩; replace BK1030 := Aside0.mk (KeepBut.blk hk (g' := gb1030) (o := .cells #[.slice none 0 0] 71 (0, 0)) (zf BK1030) NB1030_0.out (by simp)); replace HO1033 := Aside0.mk (Kd.R_mono (Kd.R_keep (IsS129.apart (show IsS129 w0 _ g s0_0 t1034 from zi129_95 HI0) (by (with_reducible repeat (first | apply Kd.R_alloc | apply Kd.R_drewN | apply Kd.R_drew)); exact (Kd.R_mono (Kd.R_far (p := ⟨gb1035, 0, none⟩) (Kd.R_types HO1033.out BK1035.out (by decide)) (fun _ hk => hk.2) (.slice Ao35 t1031.length co35)) (fun _ h_ => h_.1))) (by decide)) hk (fun _ h => h.2)) (fun _ h => h.1)); replace BK1035 := Aside0.mk (KeepBut.blk hk (g' := gb1035) (o := .cells #[.slice Ao35 t1031.length co35] 71 (0, 0)) (by (with_reducible repeat (first | refine blk_drewN ?_ _ | refine blk_drew ?_ | refine blk_alloc ?_ _)); refine blk_put (cs := #[.slice none 0 0]) ?_ 0 _ rfl; (with_reducible repeat (first | refine blk_drewN ?_ _ | refine blk_drew ?_ | refine blk_alloc ?_ _)); exact BK1035.out) NB1035_0.out (by simp)); replace HK := Aside0.mk (KeepBut.trans (zk HK) hk (.inl rfl)); replace HB := Aside0.mk (hb); replace HI0 := Aside0.mk (hi); (try clear hb); (try clear hb2); (try clear hk); (try clear hi)) | ((with_reducible refine gate_callee (f := 90) rfl ?_); refine goesL_ (some 17) rfl rfl Try.func90 (by kernel_rfl) rfl #[.pointer (some ⟨g, 0, none⟩), .int .i64 24] rfl zl ?_; (with_reducible refine (spec_reader_pick.calls k g s0_0 t1037 24 t1038 t1039 w0 _ ?side1 ?side2 A5.out).mono ?_); (case side1 => exact zi129_95 HI0); (case side2 => exact zj129_95 HB); rintro e w40 ⟨rfl, hi, hb, hk⟩; refine ⟨_, rfl, ?_⟩; replace BK1030 := Aside0.mk (KeepBut.blk hk (g' := gb1030) (o := .cells #[.slice none 0 0] 71 (0, 0)) (zb BK1030) NB1030_0.out (by simp)); replace HO1033 := Aside0.mk (Kd.R_mono (Kd.R_keep (IsS129.apart (show IsS129 w0 _ g s0_0 t1037 from zi129_95 HI0) (zo HO1033) (by decide)) hk (fun _ h => h.2)) (fun _ h => h.1)); replace BK1035 := Aside0.mk (KeepBut.blk hk (g' := gb1035) (o := .cells #[.slice Ao35 t1031.length co35] 71 (0, 0)) (zb BK1035) NB1035_0.out (by simp)); replace HK := Aside0.mk (KeepBut.trans (zk HK) hk (.inl rfl)); replace HB := Aside0.mk (hb); replace HI0 := Aside0.mk (hi); (try clear hb); (try clear hb2); (try clear hk); (try clear hi)))
      replace HO1033 := Aside0.mk (Kd.R_drew HO1033.out)
      replace BK1030 := Aside0.mk (blk_drew BK1030.out)
      replace BK1035 := Aside0.mk (blk_drew BK1035.out)
      replace HI0 := Aside0.mk (IsS129.drew HI0.out)
      replace HK := Aside0.mk (keep_drew HK.out)
      replace HB := Aside0.mk (below_drew1 HB.out)
      refine start_ (n := 9) (S := fun w' => w'.cell? ⟨gb1035, 0, none⟩ = some (.slice Ao35 t1031.length co35)) (ds := [8]) #[false, false, false, false, false, false, false, false, false] (by kernel_rfl) rfl rfl ((blk_cell BK1035.out 0).trans rfl) (fun hHeld => ?_); refine with_tabW spec_someSignature.tab8 spec_someSignature.bits8 (fun HT_ HW_ => ?_)
      generalize w40.drew = w41 at HO1033 BK1030 BK1035 HI0 HK HB hHeld ⊢
      refine pure_ (i := 0) (N := some 29) (v := ?_) (a' := ?_) #[true, false, false, false, false, false, false, false, false] rfl rfl (any_of HT_.out (by kernel_rfl)) (fun _ _ _ h => h) (Or.inl ⟨by rfl, ?_⟩) ?_ ?_
      rotate_left
      ·intro w'
       go_simp
       with_reducible rfl
      rotate_left
      ·simp only [Act.put, List.setIfInBounds_toArray, List.set_cons_zero, List.set_cons_succ, i64_w, i32_w]
       rfl
      refine pure_ (i := 2) (N := some 31) (v := ?_) (a' := ?_) #[true, false, true, false, false, false, false, false, false] rfl rfl (any_of HT_.out (by kernel_rfl)) (fun _ _ _ h => h) (Or.inl ⟨by rfl, ?_⟩) ?_ ?_
      rotate_left
      ·intro w'
       go_simp
       with_reducible rfl
      rotate_left
      ·simp only [Act.put, List.setIfInBounds_toArray, List.set_cons_zero, List.set_cons_succ, i64_w, i32_w]
       rfl
      refine pure_ (i := 3) (N := some 32) (v := ?_) (a' := ?_) #[true, false, true, true, false, false, false, false, false] rfl rfl (any_of HT_.out (by kernel_rfl)) (fun _ _ _ h => h) (Or.inl ⟨by rfl, ?_⟩) ?_ ?_
      rotate_left
      ·intro w'
       go_simp
       with_reducible rfl
      rotate_left
      ·simp only [Act.put, List.setIfInBounds_toArray, List.set_cons_zero, List.set_cons_succ, i64_w, i32_w]
       rfl
      refine take_ (i := 1) (N := some 30) (v := ?_) (a' := ?_) #[true, true, true, true, false, false, false, false, false] rfl rfl (take_ofW HT_.out HW_.out (by kernel_rfl)) (fun _ _ _ h => h) (Or.inl ⟨by rfl, ?_⟩) hHeld ?_ ?_
      rotate_left
      ·intro w' s0
       go_simp
       with_reducible rfl
      rotate_left
      ·simp only [Act.put, List.setIfInBounds_toArray, List.set_cons_zero, List.set_cons_succ, i64_w, i32_w]
       rfl
      refine one_ (i := 4) (N := some 33) #[true, true, true, true, true, false, false, false, false] rfl rfl (one_of HT_.out (by kernel_rfl)) (by decide) (fun K hK => ?_)
      refine Kd.R_lit_step (Kd.int .i64) _ 3 ?hg (N := 33) ?hd (xs := ([(-1), 5, 0, 2, 4] : List Int)) (inner := [.int .i64 (-1), .int .i64 5, .int .i64 0, .int .i64 2, .int .i64 4]) (ok := fun _ => True) (okp := fun _ => True) ?hr ?hp (fun _ hk => hk) trivial (Below.refl _ _) (Nat.le_refl _) (by simp) ?_; (case hd => rfl); (case hg => rfl); (case hr => first | (go_simp; done) | (go_simp; rfl)); (case hp => exact (Reps.one (show Kd.M (Kd.int .i64) _ _ _ (-1) [.int .i64 (-1)] from rfl) (Reps.one (show Kd.M (Kd.int .i64) _ _ _ 5 [.int .i64 5] from rfl) (Reps.one (show Kd.M (Kd.int .i64) _ _ _ 0 [.int .i64 0] from rfl) (Reps.one (show Kd.M (Kd.int .i64) _ _ _ 2 [.int .i64 2] from rfl) (Reps.one (show Kd.M (Kd.int .i64) _ _ _ 4 [.int .i64 4] from rfl) (Reps.none _ _)))))))
      intro v1044 w42 ho43 hb hg_ hnew_
      clear hg_ hnew_
      (first | rw [← Ny1043.out] at ho43 | (simp only [Int.reduceToNat] at ho43; rw [← Ny1043.out] at ho43))
      replace HO1033 := Aside0.mk (Kd.R_below (zo HO1033) hb)
      have HO1045 := Aside0.mk (Kd.R_lower ho43 (keep_size (w := w) (g := g) (row := none) (zk HK)))
      replace BK1030 := Aside0.mk (blk_below (g := gb1030) (o := .cells #[.slice none 0 0] 71 (0, 0)) (zb BK1030) hb)
      replace BK1035 := Aside0.mk (blk_below (g := gb1035) (o := .cells #[.slice Ao35 t1031.length co35] 71 (0, 0)) (zb BK1035) hb)
      replace HK := Aside0.mk (KeepBut.trans (zk HK) (KeepBut.of_below hb g none) (.inl rfl))
      replace HB := Aside0.mk (below_step (zj129_95 HB) hb)
      replace HI0 := Aside0.mk (IsS129.below (zi129_95 HI0) hb)
      clear hb ho43
      obtain ⟨Ao44, co44, eo44⟩ := Kd.R_slice HO1045.out
      (first | subst eo44 | (injection eo44 with f1_ f2_ f3_; have f4_ := f1_.symm; have f5_ := f3_.symm; clear f1_ f2_ f3_; subst f4_; subst f5_))
      refine hK.out _ _ ((blk_cell BK1035.out 0).trans rfl) (fun hHeld => ?_)
      clear hK K
      refine norm_ (a' := ?_) ?_ ?_
      rotate_left
      ·show Act.put _ (some 33) _ = _
       simp only [Act.put, List.setIfInBounds_toArray, List.set_cons_zero, List.set_cons_succ, i64_w, i32_w]
       rfl
      refine one_ (i := 5) (N := some 34) #[true, true, true, true, true, true, false, false, false] rfl rfl (one_of HT_.out (by kernel_rfl)) (by decide) (fun K hK => ?_)
      refine goes_ Try.func111 (by kernel_rfl) rfl #[.pointer (some ⟨g, 0, none⟩), .slice Ao44 y1043.length co44] (by rfl) rfl rfl zl ?_
      with_reducible refine (spec_reader_one.calls k g s0_0 t1039 _ _ y1043 t1046 t1047 w0 _ ?side1 ?side2 ?side3 ?side4 ?side5 A28.out).mono ?_
      (case side1 => exact zi129_95 HI0)
      (case side2 => exact zj129_95 HB)
      (case side3 => repeat (first | exact (Kd.R_reads' HO1045.out).2.2 | (with_reducible refine Kd.C_alloc ?_ _) | (with_reducible refine Kd.C_drewN ?_ _) | (with_reducible refine Kd.C_drew ?_)))
      (case side4 => exact (Kd.R_reads' HO1045.out).2.1)
      (case side5 => exact far_slice (IsS129.own_ne HI0.out HO1045.out (by decide)))
      rintro e w45 ⟨rfl, hi, hb, hk⟩
      refine ⟨_, rfl, ?_⟩
      replace BK1030 := Aside0.mk (KeepBut.blk hk (g' := gb1030) (o := .cells #[.slice none 0 0] 71 (0, 0)) (zb BK1030) NB1030_0.out (by simp))
      replace HO1033 := Aside0.mk (Kd.R_mono (Kd.R_keep (IsS129.apart (show IsS129 w0 _ g s0_0 t1039 from zi129_95 HI0) (zo HO1033) (by decide)) hk (fun _ h => h.2)) (fun _ h => h.1))
      replace BK1035 := Aside0.mk (KeepBut.blk hk (g' := gb1035) (o := .cells #[.slice Ao35 t1031.length co35] 71 (0, 0)) (zb BK1035) NB1035_0.out (by simp))
      replace HO1045 := Aside0.mk (Kd.R_mono (Kd.R_keep (IsS129.apart (show IsS129 w0 _ g s0_0 t1039 from zi129_95 HI0) (zo HO1045) (by decide)) hk (fun _ h => h.2)) (fun _ h => h.1))
      replace HK := Aside0.mk (KeepBut.trans (zk HK) hk (.inl rfl))
      replace HB := Aside0.mk (hb)
      replace HI0 := Aside0.mk (hi)
      (try clear hb)
      (try clear hb2)
      (try clear hk)
      (try clear hi)
      have p31 : 0 ≤ (t1036 : Int) := of_decide_eq_true za
      have q31 : (t1036 : Int) < ((t1031.length : Int) : Int) := of_decide_eq_true za
      obtain ⟨go31, co31, eo31, gb31, gl31, cl31, HG31⟩ := Kd.R_form HO1033.out (by omega)
      (first | cases eo31 | (injection eo31 with ea_ en_ ec_; (first | subst ea_ | (injection ea_ with ea_; subst ea_)); subst ec_; clear en_))
      have GB31 := Aside0.mk gb31
      have GG31 := Aside0.mk HG31
      clear gb31 gl31 HG31
      obtain ⟨ce31, hcl31, hM31, hcc31, hfr31⟩ := Kd.R_elem HO1033.out z123 (t1036 : Int) p31 q31
      obtain rfl := k123_openM hM31
      have hx31_0 : World.cell? _ ⟨go31, (t1036 : Int).toNat * 4, none⟩ = some (.string ((rd_T123 t1031 t1036).f0)) := hcc31 0 _ rfl
      have hx31_1 : World.cell? _ ⟨go31, (t1036 : Int).toNat * 4 + 1, none⟩ = some (.int .i64 ((rd_T123 t1031 t1036).f1)) := hcc31 1 _ rfl
      have hx31_2 : World.cell? _ ⟨go31, (t1036 : Int).toNat * 4 + 2, none⟩ = some (.bool ((rd_T123 t1031 t1036).f2)) := hcc31 2 _ rfl
      have hx31_3 : World.cell? _ ⟨go31, (t1036 : Int).toNat * 4 + 3, none⟩ = some (.int .i64 ((rd_T123 t1031 t1036).f3)) := hcc31 3 _ rfl
      have hf31_0 : World.frozen? _ ⟨go31, (t1036 : Int).toNat * 4, none⟩ = false := hfr31 0
      have hf31_1 : World.frozen? _ ⟨go31, (t1036 : Int).toNat * 4 + 1, none⟩ = false := hfr31 1
      have hf31_2 : World.frozen? _ ⟨go31, (t1036 : Int).toNat * 4 + 2, none⟩ = false := hfr31 2
      have hf31_3 : World.frozen? _ ⟨go31, (t1036 : Int).toNat * 4 + 3, none⟩ = false := hfr31 3
      clear hcl31 hcc31 hfr31 hM31
      replace p31 := eq_true p31
      replace q31 := eq_true q31
      have HN0_go31 := Aside0.mk (show g ≠ go31 from by have h_ := IsS129.own_ne HI0.out HO1033.out (by decide); intro e_; exact h_ (by rw [e_]; rfl))
      obtain ⟨ce46, hcl46, hM46, hcc46, hfr46⟩ := Kd.R_elem HO1033.out z123 (t1036 : Int) (of_decide_eq_true za) (by have h_ : (t1036 : Int) < ((t1031.length : Int) : Int) := of_decide_eq_true za; first | exact h_ | (have e_ := (Kd.R_reads' HO1033.out).1; omega) | simpa using h_)
      obtain rfl := k123_openM hM46
      have HP46 := (Kd.R_seg HO1033.out (t1036 : Int) (of_decide_eq_true za) (by have h_ : (t1036 : Int) < ((t1031.length : Int) : Int) := of_decide_eq_true za; first | exact h_ | (have e_ := (Kd.R_reads' HO1033.out).1; omega) | simpa using h_) (seg := [.int .i64 t1046]) (j := 1) hcl46 hcc46 (show 2 ≤ 4 from by decide) (x' := (⟨(rd_T123 t1031 t1036).f0, t1046, (rd_T123 t1031 t1036).f2, (rd_T123 t1031 t1036).f3⟩ : S123)) (k123_mkM _ _ _ (⟨(rd_T123 t1031 t1036).f0, t1046, (rd_T123 t1031 t1036).f2, (rd_T123 t1031 t1036).f3⟩ : S123) ) (fun _ hk => hk)).1
      rw [← Ny1048.out] at HP46
      have HQ46 := Aside0.mk HP46
      clear hcl46 hcc46 hfr46 hM46 HP46
      refine hK.out _ _ ((blk_cell BK1035.out 0).trans rfl) (fun hHeld => ?_)
      clear hK K
      refine norm_ (a' := ?_) ?_ ?_
      rotate_left
      ·show Act.put _ (some 34) _ = _
       simp only [Act.put, List.setIfInBounds_toArray, List.set_cons_zero, List.set_cons_succ, i64_w, i32_w]
       rfl
      refine pure_ (i := 6) (N := some 35) (v := ?_) (a' := ?_) #[true, true, true, true, true, true, true, false, false] rfl rfl (any_of HT_.out (by kernel_rfl)) (fun _ _ _ h => h) (Or.inl ⟨by rfl, ?_⟩) ?_ ?_
      rotate_left
      ·intro w'
       go_simp
       with_reducible rfl
      rotate_left
      ·simp only [Act.put, List.setIfInBounds_toArray, List.set_cons_zero, List.set_cons_succ, i64_w, i32_w]
       rfl
      refine pure_ (i := 7) (N := some 36) (v := ?_) (a' := ?_) #[true, true, true, true, true, true, true, true, false] rfl rfl (any_of HT_.out (by kernel_rfl)) (fun _ _ _ h => h) (Or.inl ⟨by rfl, ?_⟩) ?_ ?_
      rotate_left
      ·intro w'
       go_simp
       with_reducible rfl
      rotate_left
      ·simp only [Act.put, List.setIfInBounds_toArray, List.set_cons_zero, List.set_cons_succ, i64_w, i32_w]
       rfl
      refine last_ (i := 8) (N := none) #[true, true, true, true, true, true, true, true, true] rfl rfl (one_of HT_.out (by kernel_rfl)) (by decide) (fun K hK => ?_)
      refine skip_ (w1 := ?_) (by rfl) rfl ?_ ?_
      rotate_left
      ·go_simp
       rfl
      refine hK.out _ _ ?_
      clear hK K
      refine done_ (done_of HT_.out (by kernel_rfl)) ?_
      have n0_ : Aside0 (Kd.R k123 123 (w45.setCell ⟨go31, (t1036 : Int).toNat * 4 + 1, none⟩ (.int .i64 t1046)) w.heap.size (fun _ => True) (.slice (some ⟨go31, 0, none⟩) t1031.length co35) y1048) := ⟨zo HQ46⟩
      have n1_ : Aside0 (Kd.R (Kd.int .i64) 3 (w45.setCell ⟨go31, (t1036 : Int).toNat * 4 + 1, none⟩ (.int .i64 t1046)) w.heap.size (fun _ => True) (.slice Ao44 y1043.length co44) y1043) := ⟨by (with_reducible repeat (first | apply Kd.R_alloc | apply Kd.R_drewN | apply Kd.R_drew)); exact Kd.R_mono (Kd.R_far (p := ⟨go31, (t1036 : Int).toNat * 4 + 1, none⟩) (Kd.R_types HO1045.out GG31.out (by decide)) (fun _ hk => hk.2) (.int .i64 t1046)) (fun _ hk => trivial)⟩
      have n2_ : Aside0 ((w45.setCell ⟨go31, (t1036 : Int).toNat * 4 + 1, none⟩ (.int .i64 t1046)).heap[gb1030]? = some (.cells #[.slice none 0 0] 71 (0, 0))) := ⟨by (with_reducible repeat (first | refine blk_drewN ?_ _ | refine blk_drew ?_ | refine blk_alloc ?_ _)); refine blk_far ?_ (by have h_ := Kd.R_ne HO1033.out BK1030.out (by decide); intro e_; exact h_ (by rw [e_]; rfl)) _; (with_reducible repeat (first | refine blk_drewN ?_ _ | refine blk_drew ?_ | refine blk_alloc ?_ _)); exact BK1030.out⟩
      have n3_ : Aside0 ((w45.setCell ⟨go31, (t1036 : Int).toNat * 4 + 1, none⟩ (.int .i64 t1046)).heap[gb1035]? = some (.cells #[.slice (some ⟨go31, 0, none⟩) t1031.length co35] 71 (0, 0))) := ⟨by (with_reducible repeat (first | refine blk_drewN ?_ _ | refine blk_drew ?_ | refine blk_alloc ?_ _)); refine blk_far ?_ (by have h_ := Kd.R_ne HO1033.out BK1035.out (by decide); intro e_; exact h_ (by rw [e_]; rfl)) _; (with_reducible repeat (first | refine blk_drewN ?_ _ | refine blk_drew ?_ | refine blk_alloc ?_ _)); exact BK1035.out⟩
      have n4_ : Aside0 (IsS129 w0 (w45.setCell ⟨go31, (t1036 : Int).toNat * 4 + 1, none⟩ (.int .i64 t1046)) g s0_0 t1047) := ⟨by repeat (first | (with_reducible first | exact HI0.out | apply IsS129.alloc | apply IsS129.drewN | apply IsS129.drew | apply IsS129.set_1 | refine IsS129.far ?_ HN0_go31.out _ | refine IsS129.far ?_ NB0_1030.out _ | refine IsS129.far ?_ NB0_1035.out _) | exact HI0.out)⟩
      have n5_ : Aside0 (KeepBut w (w45.setCell ⟨go31, (t1036 : Int).toNat * 4 + 1, none⟩ (.int .i64 t1046)) g none) := ⟨zk HK⟩
      have n6_ : Aside0 (Below w0.heap.size w0 (w45.setCell ⟨go31, (t1036 : Int).toNat * 4 + 1, none⟩ (.int .i64 t1046))) := ⟨by repeat (first | (with_reducible first | exact HB.out | apply below_alloc | apply pw_below_drewN | apply below_drew1 | refine below_set ?_ (Nat.le_trans HL.out GB31.out) | refine below_set ?_ (IsS129.ge HI0.out) | refine below_set ?_ GE1030.out | refine below_set ?_ GE1035.out) | exact HB.out)⟩
      (try clear HO1033)
      (try clear HO1045)
      (try clear BK1030)
      (try clear BK1035)
      (try clear HI0)
      (try clear HK)
      (try clear HB)
      generalize (w45.setCell ⟨go31, (t1036 : Int).toNat * 4 + 1, none⟩ (.int .i64 t1046)) = w47 at n0_ n1_ n2_ n3_ n4_ n5_ n6_ ⊢
      have HO1033 := n0_
      have HO1045 := n1_
      have BK1030 := n2_
      have BK1035 := n3_
      have HI0 := n4_
      have HK := n5_
      have HB := n6_
      clear n0_ n1_ n2_ n3_ n4_ n5_ n6_
      have hcz48_0 : w47.cell? ⟨gb1035, 0, none⟩ = some (.slice (some ⟨go31, 0, none⟩) t1031.length co35) := (blk_cell BK1035.out 0).trans rfl
      have hfz48_0 := blk_frozen BK1035.out 0
      have hnb49 := NB1030_0.out
      have hnc49 := NB0_1030.out
      have hcz50_0 : w47.cell? ⟨gb1030, 0, none⟩ = some (.slice none 0 0) := (blk_cell BK1030.out 0).trans rfl
      have hfz50_0 := blk_frozen BK1030.out 0
      try go_wp2
      refine bodyPost_ret (results_cell_row rfl _ _ gb1030 71 #[.slice (some ⟨go31, 0, none⟩) t1031.length co35] (0, 0) _ rfl (by (with_reducible repeat (first | refine blk_drewN ?_ _ | refine blk_drew ?_ | refine blk_alloc ?_ _)); refine blk_put (cs := #[.slice none 0 0]) ?_ 0 _ rfl; (with_reducible repeat (first | refine blk_drewN ?_ _ | refine blk_drew ?_ | refine blk_alloc ?_ _)); exact BK1030.out) Try.underlying71 rfl (by kernel_rfl)) rfl ?_
      exact ⟨_, by first | rfl | (simp [errW_none, errW_some] <;> rfl) | (simp [*, errW_none, errW_some] <;> rfl), by (with_reducible repeat (first | apply Kd.R_alloc | apply Kd.R_drewN | apply Kd.R_drew)); exact Kd.R_mono (Kd.R_far (p := ⟨gb1030, 0, none⟩) (Kd.R_types HO1033.out BK1030.out (by decide)) (fun _ hk => hk.2) (.slice (some ⟨go31, 0, none⟩) t1031.length co35)) (fun _ hk => trivial), by repeat (first | (with_reducible first | exact HI0.out | apply IsS129.alloc | apply IsS129.drewN | apply IsS129.drew | apply IsS129.set_1 | refine IsS129.far ?_ NB0_1030.out _ | refine IsS129.far ?_ NB0_1035.out _) | exact HI0.out), by repeat (first | (with_reducible first | exact HB.out | apply below_alloc | apply pw_below_drewN | apply below_drew1 | refine below_set ?_ (IsS129.ge HI0.out) | refine below_set ?_ GE1030.out | refine below_set ?_ GE1035.out) | exact HB.out), zk HK⟩
     ·rw [if_neg c30] at H
      exact absurd H (by simp)
    ·rw [if_neg c29] at H
     exact absurd H (by simp)
   ·rw [if_neg c27] at H
    have c27b0 : (t1038 == 1) = false := beq_eq_false_iff_ne.mpr c27
    have c27b1 : (t1038 != 1) = true := bne_iff_ne.mpr c27
    by_cases c51 : t1038 = 2
    ·rw [if_pos c51] at H
     have c51b0 : (t1038 == 2) = true := beq_iff_eq.mpr c51
     have c51b1 : (t1038 != 2) = false := bne_eq_false_iff_eq.mpr c51
     clear c51
     by_cases c52 : 0 ≤ t1036
     ·rw [if_pos c52] at H
      have c52b0 : decide (0 ≤ t1036) = true := decide_eq_true c52
      clear c52
      by_cases c53 : t1036 < (t1031.length : Int)
      ·rw [if_pos c53] at H
       have c53b0 : decide (t1036 < (t1031.length : Int)) = true := decide_eq_true c53
       clear c53
       obtain ⟨y1050, hy1050⟩ : ∃ y_ : List (S123), y_ = (t1031.set (t1036 : Int).toNat (⟨(rd_T123 t1031 t1036).f0, (rd_T123 t1031 t1036).f1, !((rd_T123 t1031 t1036).f2), (rd_T123 t1031 t1036).f3⟩ : S123)) := ⟨_, rfl⟩
       replace H : (some (y1050, t1039)) = some (r1, r2) := by first | (rw [hy1050]; with_reducible exact H) | (have H2_ := (Option.bind_some _ _).symm.trans H; rw [hy1050]; with_reducible exact H2_) | (have H2_ := (Option.bind_some _ _).symm.trans H; with_reducible exact H2_) | with_reducible exact H | (rw [hy1050]; exact H) | exact H
       have Ny1050 := Aside0.mk hy1050
       clear hy1050
       simp only [Option.some.injEq, Prod.mk.injEq] at H
       obtain ⟨rfl, rfl⟩ := H
       go_enter Try.func96, Try.ntmps96
       try go_wp2_with (first | ((with_reducible refine gate_dst (N := 2) rfl ?_); refine box_event ?hg (N := 2) ?hd (cs := #[.slice none 0 0]) (t := 71) ?hr ?_; (case hd => rfl); (case hg => rfl); (case hr => first | (go_simp; done) | (go_simp; rfl)); intro gb1030 hg w55 hbox hb; replace HB := Aside0.mk (below_step (zj129_95 HB) hb); have BK1030 := Aside0.mk (hbox); have GW1030 := Aside0.mk ((by rw [hg]; exact (keep_size (w := w) (g := g) (row := none) (zk HK)) : w.heap.size ≤ gb1030)); have GE1030 := Aside0.mk ((Nat.le_trans HW0.out (by rw [hg]; exact (keep_size (w := w) (g := g) (row := none) (zk HK)) : w.heap.size ≤ gb1030) : w0.heap.size ≤ gb1030)); replace HK := Aside0.mk (KeepBut.trans (zk HK) (KeepBut.of_below hb g none) (.inl rfl)); have NB0_1030 := Aside0.mk ((by rw [hg]; exact Nat.ne_of_lt (IsS129.lt (show IsS129 w0 _ g s0_0 s0_1 from zi129_95 HI0)) : g ≠ gb1030)); have NB1030_0 := Aside0.mk ((by rw [hg]; exact Nat.ne_of_gt (IsS129.lt (show IsS129 w0 _ g s0_0 s0_1 from zi129_95 HI0)) : gb1030 ≠ g)); replace HI0 := Aside0.mk (IsS129.below (zi129_95 HI0) hb); clear hb hbox hg) | ((with_reducible refine gate_callee (f := 134) rfl ?_); refine goesL_ (some 6) rfl rfl Try.func134 (by kernel_rfl) rfl #[.pointer (some ⟨g, 0, none⟩)] rfl zl ?_; (with_reducible refine (spec_goodSignature.calls k g s0_0 s0_1 t1031 t1034 w0 _ ?side1 ?side2 A2.out).mono ?_); (case side1 => exact zi129_95 HI0); (case side2 => exact zj129_95 HB); rintro e w56 ⟨v1032, rfl, ho0, hi, hb, hk⟩; refine ⟨_, rfl, ?_⟩; replace BK1030 := Aside0.mk (KeepBut.blk hk (g' := gb1030) (o := .cells #[.slice none 0 0] 71 (0, 0)) (zb BK1030) NB1030_0.out (by simp)); have HO1033 := Aside0.mk (Kd.R_lower ho0 (keep_size (w := w) (g := g) (row := none) (zk HK))); replace HK := Aside0.mk (KeepBut.trans (zk HK) hk (.inl rfl)); replace HB := Aside0.mk (hb); replace HI0 := Aside0.mk (hi); (try clear hb); (try clear hb2); (try clear hk); (try clear hi); (try clear ho0)) | ((with_reducible refine gate_dst (N := 3) rfl ?_); refine box_event ?hg (N := 3) ?hd (cs := #[.slice none 0 0]) (t := 71) ?hr ?_; (case hd => rfl); (case hg => rfl); (case hr => first | (go_simp; done) | (go_simp; rfl)); intro gb1035 hg w57 hbox hb; replace HO1033 := Aside0.mk (Kd.R_below (zo HO1033) hb); replace HB := Aside0.mk (below_step (zj129_95 HB) hb); have BK1035 := Aside0.mk (hbox); have GW1035 := Aside0.mk ((by rw [hg]; exact (keep_size (w := w) (g := g) (row := none) (zk HK)) : w.heap.size ≤ gb1035)); have GE1035 := Aside0.mk ((Nat.le_trans HW0.out (by rw [hg]; exact (keep_size (w := w) (g := g) (row := none) (zk HK)) : w.heap.size ≤ gb1035) : w0.heap.size ≤ gb1035)); replace HK := Aside0.mk (KeepBut.trans (zk HK) (KeepBut.of_below hb g none) (.inl rfl)); have NB1030_1035 := Aside0.mk ((by rw [hg]; exact Nat.ne_of_lt (blk_lt (g := gb1030) (o := .cells #[.slice none 0 0] 71 (0, 0)) (zb BK1030)) : gb1030 ≠ gb1035)); have NB1035_1030 := Aside0.mk ((by rw [hg]; exact Nat.ne_of_gt (blk_lt (g := gb1030) (o := .cells #[.slice none 0 0] 71 (0, 0)) (zb BK1030)) : gb1035 ≠ gb1030)); replace BK1030 := Aside0.mk (blk_below (g := gb1030) (o := .cells #[.slice none 0 0] 71 (0, 0)) (zb BK1030) hb); have NB0_1035 := Aside0.mk ((by rw [hg]; exact Nat.ne_of_lt (IsS129.lt (show IsS129 w0 _ g s0_0 t1034 from zi129_95 HI0)) : g ≠ gb1035)); have NB1035_0 := Aside0.mk ((by rw [hg]; exact Nat.ne_of_gt (IsS129.lt (show IsS129 w0 _ g s0_0 t1034 from zi129_95 HI0)) : gb1035 ≠ g)); replace HI0 := Aside0.mk (IsS129.below (zi129_95 HI0) hb); clear hb hbox hg; obtain ⟨Ao58, co58, eo58⟩ := Kd.R_slice HO1033.out; subst eo58; have hnb59 := NB1035_1030.out; have hnc59 := NB1030_1035.out; have hnb60 := NB1035_0.out; have hnc60 := NB0_1035.out; have hcz61_0 : w57.cell? ⟨gb1035, 0, none⟩ = some (.slice none 0 0) := (blk_cell BK1035.out 0).trans rfl; have hfz61_0 := blk_frozen BK1035.out 0) | ((with_reducible refine gate_callee (f := 90) rfl ?_); refine goesL_ (some 15) rfl rfl Try.func90 (by kernel_rfl) rfl #[.pointer (some ⟨g, 0, none⟩), .int .i64 (t1031.length : Int)] rfl zl ?_; (with_reducible refine (spec_reader_pick.calls k g s0_0 t1034 (t1031.length : Int) t1036 t1037 w0 _ ?side1 ?side2 A4.out).mono ?_); (case side1 => exact zi129_95 HI0); (case side2 => exact zj129_95 HB); rintro e w62 ⟨rfl, hi, hb, hk⟩; refine ⟨_, rfl, ?_⟩; replace BK1030 := Aside0.mk (KeepBut.blk hk (g' := gb1030) (o := .cells #[.slice none 0 0] 71 (0, 0)) (zf BK1030) NB1030_0.out (by simp)); replace HO1033 := Aside0.mk (Kd.R_mono (Kd.R_keep (IsS129.apart (show IsS129 w0 _ g s0_0 t1034 from zi129_95 HI0) (by (with_reducible repeat (first | apply Kd.R_alloc | apply Kd.R_drewN | apply Kd.R_drew)); exact (Kd.R_mono (Kd.R_far (p := ⟨gb1035, 0, none⟩) (Kd.R_types HO1033.out BK1035.out (by decide)) (fun _ hk => hk.2) (.slice Ao58 t1031.length co58)) (fun _ h_ => h_.1))) (by decide)) hk (fun _ h => h.2)) (fun _ h => h.1)); replace BK1035 := Aside0.mk (KeepBut.blk hk (g' := gb1035) (o := .cells #[.slice Ao58 t1031.length co58] 71 (0, 0)) (by (with_reducible repeat (first | refine blk_drewN ?_ _ | refine blk_drew ?_ | refine blk_alloc ?_ _)); refine blk_put (cs := #[.slice none 0 0]) ?_ 0 _ rfl; (with_reducible repeat (first | refine blk_drewN ?_ _ | refine blk_drew ?_ | refine blk_alloc ?_ _)); exact BK1035.out) NB1035_0.out (by simp)); replace HK := Aside0.mk (KeepBut.trans (zk HK) hk (.inl rfl)); replace HB := Aside0.mk (hb); replace HI0 := Aside0.mk (hi); (try clear hb); (try clear hb2); (try clear hk); (try clear hi)) | ((with_reducible refine gate_callee (f := 90) rfl ?_); refine goesL_ (some 17) rfl rfl Try.func90 (by kernel_rfl) rfl #[.pointer (some ⟨g, 0, none⟩), .int .i64 24] rfl zl ?_; (with_reducible refine (spec_reader_pick.calls k g s0_0 t1037 24 t1038 t1039 w0 _ ?side1 ?side2 A5.out).mono ?_); (case side1 => exact zi129_95 HI0); (case side2 => exact zj129_95 HB); rintro e w63 ⟨rfl, hi, hb, hk⟩; refine ⟨_, rfl, ?_⟩; replace BK1030 := Aside0.mk (KeepBut.blk hk (g' := gb1030) (o := .cells #[.slice none 0 0] 71 (0, 0)) (zb BK1030) NB1030_0.out (by simp)); replace HO1033 := Aside0.mk (Kd.R_mono (Kd.R_keep (IsS129.apart (show IsS129 w0 _ g s0_0 t1037 from zi129_95 HI0) (zo HO1033) (by decide)) hk (fun _ h => h.2)) (fun _ h => h.1)); replace BK1035 := Aside0.mk (KeepBut.blk hk (g' := gb1035) (o := .cells #[.slice Ao58 t1031.length co58] 71 (0, 0)) (zb BK1035) NB1035_0.out (by simp)); replace HK := Aside0.mk (KeepBut.trans (zk HK) hk (.inl rfl)); replace HB := Aside0.mk (hb); replace HI0 := Aside0.mk (hi); (try clear hb); (try clear hb2); (try clear hk); (try clear hi)))
       replace HO1033 := Aside0.mk (Kd.R_drew HO1033.out)
       replace BK1030 := Aside0.mk (blk_drew BK1030.out)
       replace BK1035 := Aside0.mk (blk_drew BK1035.out)
       replace HI0 := Aside0.mk (IsS129.drew HI0.out)
       replace HK := Aside0.mk (keep_drew HK.out)
       replace HB := Aside0.mk (below_drew1 HB.out)
       have p1049 : 0 ≤ (t1036 : Int) := of_decide_eq_true za
       have q1049 : t1036 < (t1031.length : Int) := of_decide_eq_true za
       obtain ⟨ad1049, e1049, hx1049_0, hx1049_1, hx1049_2, hx1049_3⟩ := at_T123 (Kd.R_reads' HO1033.out).2.2 t1036 p1049 q1049
       cases e1049
       replace p1049 := eq_true p1049
       replace q1049 := eq_true q1049
       have p54 : 0 ≤ (t1036 : Int) := of_decide_eq_true za
       have q54 : (t1036 : Int) < ((t1031.length : Int) : Int) := of_decide_eq_true za
       obtain ⟨go54, co54, eo54, gb54, gl54, cl54, HG54⟩ := Kd.R_form HO1033.out (by omega)
       (first | cases eo54 | (injection eo54 with ea_ en_ ec_; (first | subst ea_ | (injection ea_ with ea_; subst ea_)); subst ec_; clear en_))
       have GB54 := Aside0.mk gb54
       have GG54 := Aside0.mk HG54
       clear gb54 gl54 HG54
       (first | simp only [add_plain] at hx1049_0 | skip)
       (first | simp only [add_plain] at hx1049_1 | skip)
       (first | simp only [add_plain] at hx1049_2 | skip)
       (first | simp only [add_plain] at hx1049_3 | skip)
       obtain ⟨ce54, hcl54, hM54, hcc54, hfr54⟩ := Kd.R_elem HO1033.out z123 (t1036 : Int) p54 q54
       obtain rfl := k123_openM hM54
       have hx54_0 : World.cell? _ ⟨go54, (t1036 : Int).toNat * 4, none⟩ = some (.string ((rd_T123 t1031 t1036).f0)) := hcc54 0 _ rfl
       have hx54_1 : World.cell? _ ⟨go54, (t1036 : Int).toNat * 4 + 1, none⟩ = some (.int .i64 ((rd_T123 t1031 t1036).f1)) := hcc54 1 _ rfl
       have hx54_2 : World.cell? _ ⟨go54, (t1036 : Int).toNat * 4 + 2, none⟩ = some (.bool ((rd_T123 t1031 t1036).f2)) := hcc54 2 _ rfl
       have hx54_3 : World.cell? _ ⟨go54, (t1036 : Int).toNat * 4 + 3, none⟩ = some (.int .i64 ((rd_T123 t1031 t1036).f3)) := hcc54 3 _ rfl
       have hf54_0 : World.frozen? _ ⟨go54, (t1036 : Int).toNat * 4, none⟩ = false := hfr54 0
       have hf54_1 : World.frozen? _ ⟨go54, (t1036 : Int).toNat * 4 + 1, none⟩ = false := hfr54 1
       have hf54_2 : World.frozen? _ ⟨go54, (t1036 : Int).toNat * 4 + 2, none⟩ = false := hfr54 2
       have hf54_3 : World.frozen? _ ⟨go54, (t1036 : Int).toNat * 4 + 3, none⟩ = false := hfr54 3
       clear hcl54 hcc54 hfr54 hM54
       replace p54 := eq_true p54
       replace q54 := eq_true q54
       have HN0_go54 := Aside0.mk (show g ≠ go54 from by have h_ := IsS129.own_ne HI0.out HO1033.out (by decide); intro e_; exact h_ (by rw [e_]; rfl))
       obtain ⟨ce65, hcl65, hM65, hcc65, hfr65⟩ := Kd.R_elem HO1033.out z123 (t1036 : Int) (of_decide_eq_true za) (by have h_ : (t1036 : Int) < ((t1031.length : Int) : Int) := of_decide_eq_true za; first | exact h_ | (have e_ := (Kd.R_reads' HO1033.out).1; omega) | simpa using h_)
       obtain rfl := k123_openM hM65
       have HP65 := (Kd.R_seg HO1033.out (t1036 : Int) (of_decide_eq_true za) (by have h_ : (t1036 : Int) < ((t1031.length : Int) : Int) := of_decide_eq_true za; first | exact h_ | (have e_ := (Kd.R_reads' HO1033.out).1; omega) | simpa using h_) (seg := [.bool (!((rd_T123 t1031 t1036).f2))]) (j := 2) hcl65 hcc65 (show 3 ≤ 4 from by decide) (x' := (⟨(rd_T123 t1031 t1036).f0, (rd_T123 t1031 t1036).f1, !((rd_T123 t1031 t1036).f2), (rd_T123 t1031 t1036).f3⟩ : S123)) (k123_mkM _ _ _ (⟨(rd_T123 t1031 t1036).f0, (rd_T123 t1031 t1036).f1, !((rd_T123 t1031 t1036).f2), (rd_T123 t1031 t1036).f3⟩ : S123) ) (fun _ hk => hk)).1
       rw [← Ny1050.out] at HP65
       have HQ65 := Aside0.mk HP65
       clear hcl65 hcc65 hfr65 hM65 HP65
       refine start_ (n := 13) (S := fun w' => w'.cell? ⟨gb1035, 0, none⟩ = some (.slice (some ⟨go54, 0, none⟩) t1031.length co58) ∧ w'.cell? ⟨go54, ((t1036).toNat * 4), none⟩ = some (.string ((rd_T123 t1031 t1036).f0)) ∧ w'.cell? ⟨go54, ((t1036).toNat * 4) + 1, none⟩ = some (.int .i64 ((rd_T123 t1031 t1036).f1)) ∧ w'.cell? ⟨go54, ((t1036).toNat * 4) + 2, none⟩ = some (.bool ((rd_T123 t1031 t1036).f2)) ∧ w'.cell? ⟨go54, ((t1036).toNat * 4) + 3, none⟩ = some (.int .i64 ((rd_T123 t1031 t1036).f3))) (ds := [12]) #[false, false, false, false, false, false, false, false, false, false, false, false, false] (by kernel_rfl) rfl rfl ⟨(blk_cell BK1035.out 0).trans rfl, hx1049_0, hx1049_1, hx1049_2, hx1049_3⟩ (fun hHeld => ?_); refine with_tabW spec_someSignature.tab10 spec_someSignature.bits10 (fun HT_ HW_ => ?_)
       generalize w63.drew = w64 at HO1033 BK1030 BK1035 HI0 HK HB GG54 HQ65 hf54_0 hf54_1 hf54_2 hf54_3 hx1049_0 hx1049_1 hx1049_2 hx1049_3 hx54_0 hx54_1 hx54_2 hx54_3 hHeld ⊢
       refine pure_ (i := 0) (N := some 39) (v := ?_) (a' := ?_) #[true, false, false, false, false, false, false, false, false, false, false, false, false] rfl rfl (any_of HT_.out (by kernel_rfl)) (fun _ _ _ h => h) (Or.inl ⟨by rfl, ?_⟩) ?_ ?_
       rotate_left
       ·intro w'
        go_simp
        with_reducible rfl
       rotate_left
       ·simp only [Act.put, List.setIfInBounds_toArray, List.set_cons_zero, List.set_cons_succ, i64_w, i32_w]
        rfl
       refine pure_ (i := 2) (N := some 41) (v := ?_) (a' := ?_) #[true, false, true, false, false, false, false, false, false, false, false, false, false] rfl rfl (any_of HT_.out (by kernel_rfl)) (fun _ _ _ h => h) (Or.inl ⟨by rfl, ?_⟩) ?_ ?_
       rotate_left
       ·intro w'
        go_simp
        with_reducible rfl
       rotate_left
       ·simp only [Act.put, List.setIfInBounds_toArray, List.set_cons_zero, List.set_cons_succ, i64_w, i32_w]
        rfl
       refine pure_ (i := 3) (N := some 42) (v := ?_) (a' := ?_) #[true, false, true, true, false, false, false, false, false, false, false, false, false] rfl rfl (any_of HT_.out (by kernel_rfl)) (fun _ _ _ h => h) (Or.inl ⟨by rfl, ?_⟩) ?_ ?_
       rotate_left
       ·intro w'
        go_simp
        with_reducible rfl
       rotate_left
       ·simp only [Act.put, List.setIfInBounds_toArray, List.set_cons_zero, List.set_cons_succ, i64_w, i32_w]
        rfl
       refine pure_ (i := 5) (N := some 44) (v := ?_) (a' := ?_) #[true, false, true, true, false, true, false, false, false, false, false, false, false] rfl rfl (any_of HT_.out (by kernel_rfl)) (fun _ _ _ h => h) (Or.inl ⟨by rfl, ?_⟩) ?_ ?_
       rotate_left
       ·intro w'
        go_simp
        with_reducible rfl
       rotate_left
       ·simp only [Act.put, List.setIfInBounds_toArray, List.set_cons_zero, List.set_cons_succ, i64_w, i32_w]
        rfl
       refine take_ (i := 1) (N := some 40) (v := ?_) (a' := ?_) #[true, true, true, true, false, true, false, false, false, false, false, false, false] rfl rfl (take_ofW HT_.out HW_.out (by kernel_rfl)) (fun _ _ _ h => h) (Or.inl ⟨by rfl, ?_⟩) hHeld ?_ ?_
       rotate_left
       ·rintro w' ⟨s0, s1, s2, s3, s4⟩
        go_simp
        with_reducible rfl
       rotate_left
       ·simp only [Act.put, List.setIfInBounds_toArray, List.set_cons_zero, List.set_cons_succ, i64_w, i32_w]
        rfl
       refine take_ (i := 4) (N := some 43) (v := ?_) (a' := ?_) #[true, true, true, true, true, true, false, false, false, false, false, false, false] rfl rfl (take_ofW HT_.out HW_.out (by kernel_rfl)) (fun _ _ _ h => h) (Or.inl ⟨by rfl, ?_⟩) hHeld ?_ ?_
       rotate_left
       ·rintro w' ⟨s0, s1, s2, s3, s4⟩
        go_simp
        with_reducible rfl
       rotate_left
       ·simp only [Act.put, List.setIfInBounds_toArray, List.set_cons_zero, List.set_cons_succ, i64_w, i32_w]
        rfl
       refine pure_ (i := 6) (N := some 45) (v := ?_) (a' := ?_) #[true, true, true, true, true, true, true, false, false, false, false, false, false] rfl rfl (any_of HT_.out (by kernel_rfl)) (fun _ _ _ h => h) (Or.inl ⟨by rfl, ?_⟩) ?_ ?_
       rotate_left
       ·intro w'
        go_simp
        with_reducible rfl
       rotate_left
       ·simp only [Act.put, List.setIfInBounds_toArray, List.set_cons_zero, List.set_cons_succ, i64_w, i32_w]
        rfl
       refine pure_ (i := 7) (N := some 46) (v := ?_) (a' := ?_) #[true, true, true, true, true, true, true, true, false, false, false, false, false] rfl rfl (any_of HT_.out (by kernel_rfl)) (fun _ _ _ h => h) (Or.inl ⟨by rfl, ?_⟩) ?_ ?_
       rotate_left
       ·intro w'
        go_simp
        with_reducible rfl
       rotate_left
       ·simp only [Act.put, List.setIfInBounds_toArray, List.set_cons_zero, List.set_cons_succ, i64_w, i32_w]
        rfl
       refine take_ (i := 8) (N := some 47) (v := ?_) (a' := ?_) #[true, true, true, true, true, true, true, true, true, false, false, false, false] rfl rfl (take_ofW HT_.out HW_.out (by kernel_rfl)) (fun _ _ _ h => h) (Or.inl ⟨by rfl, ?_⟩) hHeld ?_ ?_
       rotate_left
       ·rintro w' ⟨s0, s1, s2, s3, s4⟩
        go_simp
        with_reducible rfl
       rotate_left
       ·simp only [Act.put, List.setIfInBounds_toArray, List.set_cons_zero, List.set_cons_succ, i64_w, i32_w]
        rfl
       refine pure_ (i := 9) (N := some 48) (v := ?_) (a' := ?_) #[true, true, true, true, true, true, true, true, true, true, false, false, false] rfl rfl (any_of HT_.out (by kernel_rfl)) (fun _ _ _ h => h) (Or.inl ⟨by rfl, ?_⟩) ?_ ?_
       rotate_left
       ·intro w'
        go_simp
        with_reducible rfl
       rotate_left
       ·simp only [Act.put, List.setIfInBounds_toArray, List.set_cons_zero, List.set_cons_succ, i64_w, i32_w]
        rfl
       refine pure_ (i := 10) (N := some 49) (v := ?_) (a' := ?_) #[true, true, true, true, true, true, true, true, true, true, true, false, false] rfl rfl (any_of HT_.out (by kernel_rfl)) (fun _ _ _ h => h) (Or.inl ⟨by rfl, ?_⟩) ?_ ?_
       rotate_left
       ·intro w'
        go_simp
        with_reducible rfl
       rotate_left
       ·simp only [Act.put, List.setIfInBounds_toArray, List.set_cons_zero, List.set_cons_succ, i64_w, i32_w]
        rfl
       refine pure_ (i := 11) (N := some 50) (v := ?_) (a' := ?_) #[true, true, true, true, true, true, true, true, true, true, true, true, false] rfl rfl (any_of HT_.out (by kernel_rfl)) (fun _ _ _ h => h) (Or.inl ⟨by rfl, ?_⟩) ?_ ?_
       rotate_left
       ·intro w'
        go_simp
        with_reducible rfl
       rotate_left
       ·simp only [Act.put, List.setIfInBounds_toArray, List.set_cons_zero, List.set_cons_succ, i64_w, i32_w]
        rfl
       refine last_ (i := 12) (N := none) #[true, true, true, true, true, true, true, true, true, true, true, true, true] rfl rfl (one_of HT_.out (by kernel_rfl)) (by decide) (fun K hK => ?_)
       refine skip_ (w1 := ?_) (by rfl) rfl ?_ ?_
       rotate_left
       ·go_simp
        rfl
       refine hK.out _ _ ?_
       clear hK K
       refine done_ (done_of HT_.out (by kernel_rfl)) ?_
       have n0_ : Aside0 (Kd.R k123 123 (w64.setCell ⟨go54, (t1036 : Int).toNat * 4 + 2, none⟩ (.bool (!((rd_T123 t1031 t1036).f2)))) w.heap.size (fun _ => True) (.slice (some ⟨go54, 0, none⟩) t1031.length co58) y1050) := ⟨zo HQ65⟩
       have n1_ : Aside0 ((w64.setCell ⟨go54, (t1036 : Int).toNat * 4 + 2, none⟩ (.bool (!((rd_T123 t1031 t1036).f2)))).heap[gb1030]? = some (.cells #[.slice none 0 0] 71 (0, 0))) := ⟨by (with_reducible repeat (first | refine blk_drewN ?_ _ | refine blk_drew ?_ | refine blk_alloc ?_ _)); refine blk_far ?_ (by have h_ := Kd.R_ne HO1033.out BK1030.out (by decide); intro e_; exact h_ (by rw [e_]; rfl)) _; (with_reducible repeat (first | refine blk_drewN ?_ _ | refine blk_drew ?_ | refine blk_alloc ?_ _)); exact BK1030.out⟩
       have n2_ : Aside0 ((w64.setCell ⟨go54, (t1036 : Int).toNat * 4 + 2, none⟩ (.bool (!((rd_T123 t1031 t1036).f2)))).heap[gb1035]? = some (.cells #[.slice (some ⟨go54, 0, none⟩) t1031.length co58] 71 (0, 0))) := ⟨by (with_reducible repeat (first | refine blk_drewN ?_ _ | refine blk_drew ?_ | refine blk_alloc ?_ _)); refine blk_far ?_ (by have h_ := Kd.R_ne HO1033.out BK1035.out (by decide); intro e_; exact h_ (by rw [e_]; rfl)) _; (with_reducible repeat (first | refine blk_drewN ?_ _ | refine blk_drew ?_ | refine blk_alloc ?_ _)); exact BK1035.out⟩
       have n3_ : Aside0 (IsS129 w0 (w64.setCell ⟨go54, (t1036 : Int).toNat * 4 + 2, none⟩ (.bool (!((rd_T123 t1031 t1036).f2)))) g s0_0 t1039) := ⟨by repeat (first | (with_reducible first | exact HI0.out | apply IsS129.alloc | apply IsS129.drewN | apply IsS129.drew | apply IsS129.set_1 | refine IsS129.far ?_ HN0_go54.out _ | refine IsS129.far ?_ NB0_1030.out _ | refine IsS129.far ?_ NB0_1035.out _) | exact HI0.out)⟩
       have n4_ : Aside0 (KeepBut w (w64.setCell ⟨go54, (t1036 : Int).toNat * 4 + 2, none⟩ (.bool (!((rd_T123 t1031 t1036).f2)))) g none) := ⟨zk HK⟩
       have n5_ : Aside0 (Below w0.heap.size w0 (w64.setCell ⟨go54, (t1036 : Int).toNat * 4 + 2, none⟩ (.bool (!((rd_T123 t1031 t1036).f2))))) := ⟨by repeat (first | (with_reducible first | exact HB.out | apply below_alloc | apply pw_below_drewN | apply below_drew1 | refine below_set ?_ (Nat.le_trans HL.out GB54.out) | refine below_set ?_ (IsS129.ge HI0.out) | refine below_set ?_ GE1030.out | refine below_set ?_ GE1035.out) | exact HB.out)⟩
       (try clear HO1033)
       (try clear BK1030)
       (try clear BK1035)
       (try clear HI0)
       (try clear HK)
       (try clear HB)
       generalize (w64.setCell ⟨go54, (t1036 : Int).toNat * 4 + 2, none⟩ (.bool (!((rd_T123 t1031 t1036).f2)))) = w66 at n0_ n1_ n2_ n3_ n4_ n5_ ⊢
       have HO1033 := n0_
       have BK1030 := n1_
       have BK1035 := n2_
       have HI0 := n3_
       have HK := n4_
       have HB := n5_
       clear n0_ n1_ n2_ n3_ n4_ n5_
       have hcz67_0 : w66.cell? ⟨gb1035, 0, none⟩ = some (.slice (some ⟨go54, 0, none⟩) t1031.length co58) := (blk_cell BK1035.out 0).trans rfl
       have hfz67_0 := blk_frozen BK1035.out 0
       have hnb68 := NB1030_0.out
       have hnc68 := NB0_1030.out
       have hcz69_0 : w66.cell? ⟨gb1030, 0, none⟩ = some (.slice none 0 0) := (blk_cell BK1030.out 0).trans rfl
       have hfz69_0 := blk_frozen BK1030.out 0
       try go_wp2
       refine bodyPost_ret (results_cell_row rfl _ _ gb1030 71 #[.slice (some ⟨go54, 0, none⟩) t1031.length co58] (0, 0) _ rfl (by (with_reducible repeat (first | refine blk_drewN ?_ _ | refine blk_drew ?_ | refine blk_alloc ?_ _)); refine blk_put (cs := #[.slice none 0 0]) ?_ 0 _ rfl; (with_reducible repeat (first | refine blk_drewN ?_ _ | refine blk_drew ?_ | refine blk_alloc ?_ _)); exact BK1030.out) Try.underlying71 rfl (by kernel_rfl)) rfl ?_
       exact ⟨_, by first | rfl | (simp [errW_none, errW_some] <;> rfl) | (simp [*, errW_none, errW_some] <;> rfl), by (with_reducible repeat (first | apply Kd.R_alloc | apply Kd.R_drewN | apply Kd.R_drew)); exact Kd.R_mono (Kd.R_far (p := ⟨gb1030, 0, none⟩) (Kd.R_types HO1033.out BK1030.out (by decide)) (fun _ hk => hk.2) (.slice (some ⟨go54, 0, none⟩) t1031.length co58)) (fun _ hk => trivial), by repeat (first | (with_reducible first | exact HI0.out | apply IsS129.alloc | apply IsS129.drewN | apply IsS129.drew | apply IsS129.set_1 | refine IsS129.far ?_ NB0_1030.out _ | refine IsS129.far ?_ NB0_1035.out _) | exact HI0.out), by repeat (first | (with_reducible first | exact HB.out | apply below_alloc | apply pw_below_drewN | apply below_drew1 | refine below_set ?_ (IsS129.ge HI0.out) | refine below_set ?_ GE1030.out | refine below_set ?_ GE1035.out) | exact HB.out), zk HK⟩
      ·rw [if_neg c53] at H
       exact absurd H (by simp)
     ·rw [if_neg c52] at H
      exact absurd H (by simp)
    ·rw [if_neg c51] at H
     have c51b0 : (t1038 == 2) = false := beq_eq_false_iff_ne.mpr c51
     have c51b1 : (t1038 != 2) = true := bne_iff_ne.mpr c51
     by_cases c70 : t1038 = 3
     ·rw [if_pos c70] at H
      have c70b0 : (t1038 == 3) = true := beq_iff_eq.mpr c70
      have c70b1 : (t1038 != 3) = false := bne_eq_false_iff_eq.mpr c70
      clear c70
      obtain ⟨y1051, hy1051⟩ : ∃ y_ : List Int, y_ = (([100, 5] : List Int)) := ⟨_, rfl⟩
      replace H : ((spec_reader_one.f k s0_0 t1039 y1051).bind fun bt1054 => (if 0 ≤ t1036 then (if t1036 < (t1031.length : Int) then (some ((t1031.set (t1036 : Int).toNat (⟨(rd_T123 t1031 t1036).f0, (rd_T123 t1031 t1036).f1, (rd_T123 t1031 t1036).f2, bt1054.1⟩ : S123)), bt1054.2)) else (none)) else (none))) = some (r1, r2) := by first | (rw [hy1051]; with_reducible exact H) | (have H2_ := (Option.bind_some _ _).symm.trans H; rw [hy1051]; with_reducible exact H2_) | (have H2_ := (Option.bind_some _ _).symm.trans H; with_reducible exact H2_) | with_reducible exact H | (rw [hy1051]; exact H) | exact H
      have Ny1051 := Aside0.mk hy1051
      clear hy1051
      replace H := Option.bind_eq_some_iff.mp H
      obtain ⟨⟨t1054, t1055⟩, A710, H⟩ := H
      (try dsimp only at H)
      have A71 := Aside0.mk A710
      clear A710
      by_cases c72 : 0 ≤ t1036
      ·rw [if_pos c72] at H
       have c72b0 : decide (0 ≤ t1036) = true := decide_eq_true c72
       clear c72
       by_cases c73 : t1036 < (t1031.length : Int)
       ·rw [if_pos c73] at H
        have c73b0 : decide (t1036 < (t1031.length : Int)) = true := decide_eq_true c73
        clear c73
        obtain ⟨y1056, hy1056⟩ : ∃ y_ : List (S123), y_ = (t1031.set (t1036 : Int).toNat (⟨(rd_T123 t1031 t1036).f0, (rd_T123 t1031 t1036).f1, (rd_T123 t1031 t1036).f2, t1054⟩ : S123)) := ⟨_, rfl⟩
        replace H : (some (y1056, t1055)) = some (r1, r2) := by first | (rw [hy1056]; with_reducible exact H) | (have H2_ := (Option.bind_some _ _).symm.trans H; rw [hy1056]; with_reducible exact H2_) | (have H2_ := (Option.bind_some _ _).symm.trans H; with_reducible exact H2_) | with_reducible exact H | (rw [hy1056]; exact H) | exact H
        have Ny1056 := Aside0.mk hy1056
        clear hy1056
        simp only [Option.some.injEq, Prod.mk.injEq] at H
        obtain ⟨rfl, rfl⟩ := H
        go_enter Try.func96, Try.ntmps96
        try go_wp2_with (first | ((with_reducible refine gate_dst (N := 2) rfl ?_); refine box_event ?hg (N := 2) ?hd (cs := #[.slice none 0 0]) (t := 71) ?hr ?_; (case hd => rfl); (case hg => rfl); (case hr => first | (go_simp; done) | (go_simp; rfl)); intro gb1030 hg w75 hbox hb; replace HB := Aside0.mk (below_step (zj129_95 HB) hb); have BK1030 := Aside0.mk (hbox); have GW1030 := Aside0.mk ((by rw [hg]; exact (keep_size (w := w) (g := g) (row := none) (zk HK)) : w.heap.size ≤ gb1030)); have GE1030 := Aside0.mk ((Nat.le_trans HW0.out (by rw [hg]; exact (keep_size (w := w) (g := g) (row := none) (zk HK)) : w.heap.size ≤ gb1030) : w0.heap.size ≤ gb1030)); replace HK := Aside0.mk (KeepBut.trans (zk HK) (KeepBut.of_below hb g none) (.inl rfl)); have NB0_1030 := Aside0.mk ((by rw [hg]; exact Nat.ne_of_lt (IsS129.lt (show IsS129 w0 _ g s0_0 s0_1 from zi129_95 HI0)) : g ≠ gb1030)); have NB1030_0 := Aside0.mk ((by rw [hg]; exact Nat.ne_of_gt (IsS129.lt (show IsS129 w0 _ g s0_0 s0_1 from zi129_95 HI0)) : gb1030 ≠ g)); replace HI0 := Aside0.mk (IsS129.below (zi129_95 HI0) hb); clear hb hbox hg) | ((with_reducible refine gate_callee (f := 134) rfl ?_); refine goesL_ (some 6) rfl rfl Try.func134 (by kernel_rfl) rfl #[.pointer (some ⟨g, 0, none⟩)] rfl zl ?_; (with_reducible refine (spec_goodSignature.calls k g s0_0 s0_1 t1031 t1034 w0 _ ?side1 ?side2 A2.out).mono ?_); (case side1 => exact zi129_95 HI0); (case side2 => exact zj129_95 HB); rintro e w76 ⟨v1032, rfl, ho0, hi, hb, hk⟩; refine ⟨_, rfl, ?_⟩; replace BK1030 := Aside0.mk (KeepBut.blk hk (g' := gb1030) (o := .cells #[.slice none 0 0] 71 (0, 0)) (zb BK1030) NB1030_0.out (by simp)); have HO1033 := Aside0.mk (Kd.R_lower ho0 (keep_size (w := w) (g := g) (row := none) (zk HK))); replace HK := Aside0.mk (KeepBut.trans (zk HK) hk (.inl rfl)); replace HB := Aside0.mk (hb); replace HI0 := Aside0.mk (hi); (try clear hb); (try clear hb2); (try clear hk); (try clear hi); (try clear ho0)) | ((with_reducible refine gate_dst (N := 3) rfl ?_); refine box_event ?hg (N := 3) ?hd (cs := #[.slice none 0 0]) (t := 71) ?hr ?_; (case hd => rfl); (case hg => rfl); (case hr => first | (go_simp; done) | (go_simp; rfl)); intro gb1035 hg w77 hbox hb; replace HO1033 := Aside0.mk (Kd.R_below (zo HO1033) hb); replace HB := Aside0.mk (below_step (zj129_95 HB) hb); have BK1035 := Aside0.mk (hbox); have GW1035 := Aside0.mk ((by rw [hg]; exact (keep_size (w := w) (g := g) (row := none) (zk HK)) : w.heap.size ≤ gb1035)); have GE1035 := Aside0.mk ((Nat.le_trans HW0.out (by rw [hg]; exact (keep_size (w := w) (g := g) (row := none) (zk HK)) : w.heap.size ≤ gb1035) : w0.heap.size ≤ gb1035)); replace HK := Aside0.mk (KeepBut.trans (zk HK) (KeepBut.of_below hb g none) (.inl rfl)); have NB1030_1035 := Aside0.mk ((by rw [hg]; exact Nat.ne_of_lt (blk_lt (g := gb1030) (o := .cells #[.slice none 0 0] 71 (0, 0)) (zb BK1030)) : gb1030 ≠ gb1035)); have NB1035_1030 := Aside0.mk ((by rw [hg]; exact Nat.ne_of_gt (blk_lt (g := gb1030) (o := .cells #[.slice none 0 0] 71 (0, 0)) (zb BK1030)) : gb1035 ≠ gb1030)); replace BK1030 := Aside0.mk (blk_below (g := gb1030) (o := .cells #[.slice none 0 0] 71 (0, 0)) (zb BK1030) hb); have NB0_1035 := Aside0.mk ((by rw [hg]; exact Nat.ne_of_lt (IsS129.lt (show IsS129 w0 _ g s0_0 t1034 from zi129_95 HI0)) : g ≠ gb1035)); have NB1035_0 := Aside0.mk ((by rw [hg]; exact Nat.ne_of_gt (IsS129.lt (show IsS129 w0 _ g s0_0 t1034 from zi129_95 HI0)) : gb1035 ≠ g)); replace HI0 := Aside0.mk (IsS129.below (zi129_95 HI0) hb); clear hb hbox hg; obtain ⟨Ao78, co78, eo78⟩ := Kd.R_slice HO1033.out; subst eo78; have hnb79 := NB1035_1030.out; have hnc79 := NB1030_1035.out; have hnb80 := NB1035_0.out; have hnc80 := NB0_1035.out; have hcz81_0 : w77.cell? ⟨gb1035, 0, none⟩ = some (.slice none 0 0) := (blk_cell BK1035.out 0).trans rfl; have hfz81_0 := blk_frozen BK1035.out 0) | ((with_reducible refine gate_callee (f := 90) rfl ?_); refine goesL_ (some 15) rfl rfl Try.func90 (by kernel_rfl) rfl #[.pointer (some ⟨g, 0, none⟩), .int .i64 (t1031.length : Int)] rfl zl ?_; (with_reducible refine (spec_reader_pick.calls k g s0_0 t1034 (t1031.length : Int) t1036 t1037 w0 _ ?side1 ?side2 A4.out).mono ?_); (case side1 => exact zi129_95 HI0); (case side2 => exact zj129_95 HB); rintro e w82 ⟨rfl, hi, hb, hk⟩; refine ⟨_, rfl, ?_⟩; replace BK1030 := Aside0.mk (KeepBut.blk hk (g' := gb1030) (o := .cells #[.slice none 0 0] 71 (0, 0)) (zf BK1030) NB1030_0.out (by simp)); replace HO1033 := Aside0.mk (Kd.R_mono (Kd.R_keep (IsS129.apart (show IsS129 w0 _ g s0_0 t1034 from zi129_95 HI0) (by (with_reducible repeat (first | apply Kd.R_alloc | apply Kd.R_drewN | apply Kd.R_drew)); exact (Kd.R_mono (Kd.R_far (p := ⟨gb1035, 0, none⟩) (Kd.R_types HO1033.out BK1035.out (by decide)) (fun _ hk => hk.2) (.slice Ao78 t1031.length co78)) (fun _ h_ => h_.1))) (by decide)) hk (fun _ h => h.2)) (fun _ h => h.1)); replace BK1035 := Aside0.mk (KeepBut.blk hk (g' := gb1035) (o := .cells #[.slice Ao78 t1031.length co78] 71 (0, 0)) (by (with_reducible repeat (first | refine blk_drewN ?_ _ | refine blk_drew ?_ | refine blk_alloc ?_ _)); refine blk_put (cs := #[.slice none 0 0]) ?_ 0 _ rfl; (with_reducible repeat (first | refine blk_drewN ?_ _ | refine blk_drew ?_ | refine blk_alloc ?_ _)); exact BK1035.out) NB1035_0.out (by simp)); replace HK := Aside0.mk (KeepBut.trans (zk HK) hk (.inl rfl)); replace HB := Aside0.mk (hb); replace HI0 := Aside0.mk (hi); (try clear hb); (try clear hb2); (try clear hk); (try clear hi)) | ((with_reducible refine gate_callee (f := 90) rfl ?_); refine goesL_ (some 17) rfl rfl Try.func90 (by kernel_rfl) rfl #[.pointer (some ⟨g, 0, none⟩), .int .i64 24] rfl zl ?_; (with_reducible refine (spec_reader_pick.calls k g s0_0 t1037 24 t1038 t1039 w0 _ ?side1 ?side2 A5.out).mono ?_); (case side1 => exact zi129_95 HI0); (case side2 => exact zj129_95 HB); rintro e w83 ⟨rfl, hi, hb, hk⟩; refine ⟨_, rfl, ?_⟩; replace BK1030 := Aside0.mk (KeepBut.blk hk (g' := gb1030) (o := .cells #[.slice none 0 0] 71 (0, 0)) (zb BK1030) NB1030_0.out (by simp)); replace HO1033 := Aside0.mk (Kd.R_mono (Kd.R_keep (IsS129.apart (show IsS129 w0 _ g s0_0 t1037 from zi129_95 HI0) (zo HO1033) (by decide)) hk (fun _ h => h.2)) (fun _ h => h.1)); replace BK1035 := Aside0.mk (KeepBut.blk hk (g' := gb1035) (o := .cells #[.slice Ao78 t1031.length co78] 71 (0, 0)) (zb BK1035) NB1035_0.out (by simp)); replace HK := Aside0.mk (KeepBut.trans (zk HK) hk (.inl rfl)); replace HB := Aside0.mk (hb); replace HI0 := Aside0.mk (hi); (try clear hb); (try clear hb2); (try clear hk); (try clear hi)))
        replace HO1033 := Aside0.mk (Kd.R_drew HO1033.out)
        replace BK1030 := Aside0.mk (blk_drew BK1030.out)
        replace BK1035 := Aside0.mk (blk_drew BK1035.out)
        replace HI0 := Aside0.mk (IsS129.drew HI0.out)
        replace HK := Aside0.mk (keep_drew HK.out)
        replace HB := Aside0.mk (below_drew1 HB.out)
        refine start_ (n := 9) (S := fun w' => w'.cell? ⟨gb1035, 0, none⟩ = some (.slice Ao78 t1031.length co78)) (ds := [8]) #[false, false, false, false, false, false, false, false, false] (by kernel_rfl) rfl rfl ((blk_cell BK1035.out 0).trans rfl) (fun hHeld => ?_); refine with_tabW spec_someSignature.tab12 spec_someSignature.bits12 (fun HT_ HW_ => ?_)
        generalize w83.drew = w84 at HO1033 BK1030 BK1035 HI0 HK HB hHeld ⊢
        refine pure_ (i := 0) (N := some 53) (v := ?_) (a' := ?_) #[true, false, false, false, false, false, false, false, false] rfl rfl (any_of HT_.out (by kernel_rfl)) (fun _ _ _ h => h) (Or.inl ⟨by rfl, ?_⟩) ?_ ?_
        rotate_left
        ·intro w'
         go_simp
         with_reducible rfl
        rotate_left
        ·simp only [Act.put, List.setIfInBounds_toArray, List.set_cons_zero, List.set_cons_succ, i64_w, i32_w]
         rfl
        refine pure_ (i := 2) (N := some 55) (v := ?_) (a' := ?_) #[true, false, true, false, false, false, false, false, false] rfl rfl (any_of HT_.out (by kernel_rfl)) (fun _ _ _ h => h) (Or.inl ⟨by rfl, ?_⟩) ?_ ?_
        rotate_left
        ·intro w'
         go_simp
         with_reducible rfl
        rotate_left
        ·simp only [Act.put, List.setIfInBounds_toArray, List.set_cons_zero, List.set_cons_succ, i64_w, i32_w]
         rfl
        refine pure_ (i := 3) (N := some 56) (v := ?_) (a' := ?_) #[true, false, true, true, false, false, false, false, false] rfl rfl (any_of HT_.out (by kernel_rfl)) (fun _ _ _ h => h) (Or.inl ⟨by rfl, ?_⟩) ?_ ?_
        rotate_left
        ·intro w'
         go_simp
         with_reducible rfl
        rotate_left
        ·simp only [Act.put, List.setIfInBounds_toArray, List.set_cons_zero, List.set_cons_succ, i64_w, i32_w]
         rfl
        refine take_ (i := 1) (N := some 54) (v := ?_) (a' := ?_) #[true, true, true, true, false, false, false, false, false] rfl rfl (take_ofW HT_.out HW_.out (by kernel_rfl)) (fun _ _ _ h => h) (Or.inl ⟨by rfl, ?_⟩) hHeld ?_ ?_
        rotate_left
        ·intro w' s0
         go_simp
         with_reducible rfl
        rotate_left
        ·simp only [Act.put, List.setIfInBounds_toArray, List.set_cons_zero, List.set_cons_succ, i64_w, i32_w]
         rfl
        refine one_ (i := 4) (N := some 57) #[true, true, true, true, true, false, false, false, false] rfl rfl (one_of HT_.out (by kernel_rfl)) (by decide) (fun K hK => ?_)
        refine Kd.R_lit_step (Kd.int .i64) _ 3 ?hg (N := 57) ?hd (xs := ([100, 5] : List Int)) (inner := [.int .i64 100, .int .i64 5]) (ok := fun _ => True) (okp := fun _ => True) ?hr ?hp (fun _ hk => hk) trivial (Below.refl _ _) (Nat.le_refl _) (by simp) ?_; (case hd => rfl); (case hg => rfl); (case hr => first | (go_simp; done) | (go_simp; rfl)); (case hp => exact (Reps.one (show Kd.M (Kd.int .i64) _ _ _ 100 [.int .i64 100] from rfl) (Reps.one (show Kd.M (Kd.int .i64) _ _ _ 5 [.int .i64 5] from rfl) (Reps.none _ _))))
        intro v1052 w85 ho86 hb hg_ hnew_
        clear hg_ hnew_
        (first | rw [← Ny1051.out] at ho86 | (simp only [Int.reduceToNat] at ho86; rw [← Ny1051.out] at ho86))
        replace HO1033 := Aside0.mk (Kd.R_below (zo HO1033) hb)
        have HO1053 := Aside0.mk (Kd.R_lower ho86 (keep_size (w := w) (g := g) (row := none) (zk HK)))
        replace BK1030 := Aside0.mk (blk_below (g := gb1030) (o := .cells #[.slice none 0 0] 71 (0, 0)) (zb BK1030) hb)
        replace BK1035 := Aside0.mk (blk_below (g := gb1035) (o := .cells #[.slice Ao78 t1031.length co78] 71 (0, 0)) (zb BK1035) hb)
        replace HK := Aside0.mk (KeepBut.trans (zk HK) (KeepBut.of_below hb g none) (.inl rfl))
        replace HB := Aside0.mk (below_step (zj129_95 HB) hb)
        replace HI0 := Aside0.mk (IsS129.below (zi129_95 HI0) hb)
        clear hb ho86
        obtain ⟨Ao87, co87, eo87⟩ := Kd.R_slice HO1053.out
        (first | subst eo87 | (injection eo87 with f1_ f2_ f3_; have f4_ := f1_.symm; have f5_ := f3_.symm; clear f1_ f2_ f3_; subst f4_; subst f5_))
        refine hK.out _ _ ((blk_cell BK1035.out 0).trans rfl) (fun hHeld => ?_)
        clear hK K
        refine norm_ (a' := ?_) ?_ ?_
        rotate_left
        ·show Act.put _ (some 57) _ = _
         simp only [Act.put, List.setIfInBounds_toArray, List.set_cons_zero, List.set_cons_succ, i64_w, i32_w]
         rfl
        refine one_ (i := 5) (N := some 58) #[true, true, true, true, true, true, false, false, false] rfl rfl (one_of HT_.out (by kernel_rfl)) (by decide) (fun K hK => ?_)
        refine goes_ Try.func111 (by kernel_rfl) rfl #[.pointer (some ⟨g, 0, none⟩), .slice Ao87 y1051.length co87] (by rfl) rfl rfl zl ?_
        with_reducible refine (spec_reader_one.calls k g s0_0 t1039 _ _ y1051 t1054 t1055 w0 _ ?side1 ?side2 ?side3 ?side4 ?side5 A71.out).mono ?_
        (case side1 => exact zi129_95 HI0)
        (case side2 => exact zj129_95 HB)
        (case side3 => repeat (first | exact (Kd.R_reads' HO1053.out).2.2 | (with_reducible refine Kd.C_alloc ?_ _) | (with_reducible refine Kd.C_drewN ?_ _) | (with_reducible refine Kd.C_drew ?_)))
        (case side4 => exact (Kd.R_reads' HO1053.out).2.1)
        (case side5 => exact far_slice (IsS129.own_ne HI0.out HO1053.out (by decide)))
        rintro e w88 ⟨rfl, hi, hb, hk⟩
        refine ⟨_, rfl, ?_⟩
        replace BK1030 := Aside0.mk (KeepBut.blk hk (g' := gb1030) (o := .cells #[.slice none 0 0] 71 (0, 0)) (zb BK1030) NB1030_0.out (by simp))
        replace HO1033 := Aside0.mk (Kd.R_mono (Kd.R_keep (IsS129.apart (show IsS129 w0 _ g s0_0 t1039 from zi129_95 HI0) (zo HO1033) (by decide)) hk (fun _ h => h.2)) (fun _ h => h.1))
        replace BK1035 := Aside0.mk (KeepBut.blk hk (g' := gb1035) (o := .cells #[.slice Ao78 t1031.length co78] 71 (0, 0)) (zb BK1035) NB1035_0.out (by simp))
        replace HO1053 := Aside0.mk (Kd.R_mono (Kd.R_keep (IsS129.apart (show IsS129 w0 _ g s0_0 t1039 from zi129_95 HI0) (zo HO1053) (by decide)) hk (fun _ h => h.2)) (fun _ h => h.1))
        replace HK := Aside0.mk (KeepBut.trans (zk HK) hk (.inl rfl))
        replace HB := Aside0.mk (hb)
        replace HI0 := Aside0.mk (hi)
        (try clear hb)
        (try clear hb2)
        (try clear hk)
        (try clear hi)
        have p74 : 0 ≤ (t1036 : Int) := of_decide_eq_true za
        have q74 : (t1036 : Int) < ((t1031.length : Int) : Int) := of_decide_eq_true za
        obtain ⟨go74, co74, eo74, gb74, gl74, cl74, HG74⟩ := Kd.R_form HO1033.out (by omega)
        (first | cases eo74 | (injection eo74 with ea_ en_ ec_; (first | subst ea_ | (injection ea_ with ea_; subst ea_)); subst ec_; clear en_))
        have GB74 := Aside0.mk gb74
        have GG74 := Aside0.mk HG74
        clear gb74 gl74 HG74
        obtain ⟨ce74, hcl74, hM74, hcc74, hfr74⟩ := Kd.R_elem HO1033.out z123 (t1036 : Int) p74 q74
        obtain rfl := k123_openM hM74
        have hx74_0 : World.cell? _ ⟨go74, (t1036 : Int).toNat * 4, none⟩ = some (.string ((rd_T123 t1031 t1036).f0)) := hcc74 0 _ rfl
        have hx74_1 : World.cell? _ ⟨go74, (t1036 : Int).toNat * 4 + 1, none⟩ = some (.int .i64 ((rd_T123 t1031 t1036).f1)) := hcc74 1 _ rfl
        have hx74_2 : World.cell? _ ⟨go74, (t1036 : Int).toNat * 4 + 2, none⟩ = some (.bool ((rd_T123 t1031 t1036).f2)) := hcc74 2 _ rfl
        have hx74_3 : World.cell? _ ⟨go74, (t1036 : Int).toNat * 4 + 3, none⟩ = some (.int .i64 ((rd_T123 t1031 t1036).f3)) := hcc74 3 _ rfl
        have hf74_0 : World.frozen? _ ⟨go74, (t1036 : Int).toNat * 4, none⟩ = false := hfr74 0
        have hf74_1 : World.frozen? _ ⟨go74, (t1036 : Int).toNat * 4 + 1, none⟩ = false := hfr74 1
        have hf74_2 : World.frozen? _ ⟨go74, (t1036 : Int).toNat * 4 + 2, none⟩ = false := hfr74 2
        have hf74_3 : World.frozen? _ ⟨go74, (t1036 : Int).toNat * 4 + 3, none⟩ = false := hfr74 3
        clear hcl74 hcc74 hfr74 hM74
        replace p74 := eq_true p74
        replace q74 := eq_true q74
        have HN0_go74 := Aside0.mk (show g ≠ go74 from by have h_ := IsS129.own_ne HI0.out HO1033.out (by decide); intro e_; exact h_ (by rw [e_]; rfl))
        obtain ⟨ce89, hcl89, hM89, hcc89, hfr89⟩ := Kd.R_elem HO1033.out z123 (t1036 : Int) (of_decide_eq_true za) (by have h_ : (t1036 : Int) < ((t1031.length : Int) : Int) := of_decide_eq_true za; first | exact h_ | (have e_ := (Kd.R_reads' HO1033.out).1; omega) | simpa using h_)
        obtain rfl := k123_openM hM89
        have HP89 := (Kd.R_seg HO1033.out (t1036 : Int) (of_decide_eq_true za) (by have h_ : (t1036 : Int) < ((t1031.length : Int) : Int) := of_decide_eq_true za; first | exact h_ | (have e_ := (Kd.R_reads' HO1033.out).1; omega) | simpa using h_) (seg := [.int .i64 t1054]) (j := 3) hcl89 hcc89 (show 4 ≤ 4 from by decide) (x' := (⟨(rd_T123 t1031 t1036).f0, (rd_T123 t1031 t1036).f1, (rd_T123 t1031 t1036).f2, t1054⟩ : S123)) (k123_mkM _ _ _ (⟨(rd_T123 t1031 t1036).f0, (rd_T123 t1031 t1036).f1, (rd_T123 t1031 t1036).f2, t1054⟩ : S123) ) (fun _ hk => hk)).1
        rw [← Ny1056.out] at HP89
        have HQ89 := Aside0.mk HP89
        clear hcl89 hcc89 hfr89 hM89 HP89
        refine hK.out _ _ ((blk_cell BK1035.out 0).trans rfl) (fun hHeld => ?_)
        clear hK K
        refine norm_ (a' := ?_) ?_ ?_
        rotate_left
        ·show Act.put _ (some 58) _ = _
         simp only [Act.put, List.setIfInBounds_toArray, List.set_cons_zero, List.set_cons_succ, i64_w, i32_w]
         rfl
        refine pure_ (i := 6) (N := some 59) (v := ?_) (a' := ?_) #[true, true, true, true, true, true, true, false, false] rfl rfl (any_of HT_.out (by kernel_rfl)) (fun _ _ _ h => h) (Or.inl ⟨by rfl, ?_⟩) ?_ ?_
        rotate_left
        ·intro w'
         go_simp
         with_reducible rfl
        rotate_left
        ·simp only [Act.put, List.setIfInBounds_toArray, List.set_cons_zero, List.set_cons_succ, i64_w, i32_w]
         rfl
        refine pure_ (i := 7) (N := some 60) (v := ?_) (a' := ?_) #[true, true, true, true, true, true, true, true, false] rfl rfl (any_of HT_.out (by kernel_rfl)) (fun _ _ _ h => h) (Or.inl ⟨by rfl, ?_⟩) ?_ ?_
        rotate_left
        ·intro w'
         go_simp
         with_reducible rfl
        rotate_left
        ·simp only [Act.put, List.setIfInBounds_toArray, List.set_cons_zero, List.set_cons_succ, i64_w, i32_w]
         rfl
        refine last_ (i := 8) (N := none) #[true, true, true, true, true, true, true, true, true] rfl rfl (one_of HT_.out (by kernel_rfl)) (by decide) (fun K hK => ?_)
        refine skip_ (w1 := ?_) (by rfl) rfl ?_ ?_
        rotate_left
        ·go_simp
         rfl
        refine hK.out _ _ ?_
        clear hK K
        refine done_ (done_of HT_.out (by kernel_rfl)) ?_
        have n0_ : Aside0 (Kd.R k123 123 (w88.setCell ⟨go74, (t1036 : Int).toNat * 4 + 3, none⟩ (.int .i64 t1054)) w.heap.size (fun _ => True) (.slice (some ⟨go74, 0, none⟩) t1031.length co78) y1056) := ⟨zo HQ89⟩
        have n1_ : Aside0 (Kd.R (Kd.int .i64) 3 (w88.setCell ⟨go74, (t1036 : Int).toNat * 4 + 3, none⟩ (.int .i64 t1054)) w.heap.size (fun _ => True) (.slice Ao87 y1051.length co87) y1051) := ⟨by (with_reducible repeat (first | apply Kd.R_alloc | apply Kd.R_drewN | apply Kd.R_drew)); exact Kd.R_mono (Kd.R_far (p := ⟨go74, (t1036 : Int).toNat * 4 + 3, none⟩) (Kd.R_types HO1053.out GG74.out (by decide)) (fun _ hk => hk.2) (.int .i64 t1054)) (fun _ hk => trivial)⟩
        have n2_ : Aside0 ((w88.setCell ⟨go74, (t1036 : Int).toNat * 4 + 3, none⟩ (.int .i64 t1054)).heap[gb1030]? = some (.cells #[.slice none 0 0] 71 (0, 0))) := ⟨by (with_reducible repeat (first | refine blk_drewN ?_ _ | refine blk_drew ?_ | refine blk_alloc ?_ _)); refine blk_far ?_ (by have h_ := Kd.R_ne HO1033.out BK1030.out (by decide); intro e_; exact h_ (by rw [e_]; rfl)) _; (with_reducible repeat (first | refine blk_drewN ?_ _ | refine blk_drew ?_ | refine blk_alloc ?_ _)); exact BK1030.out⟩
        have n3_ : Aside0 ((w88.setCell ⟨go74, (t1036 : Int).toNat * 4 + 3, none⟩ (.int .i64 t1054)).heap[gb1035]? = some (.cells #[.slice (some ⟨go74, 0, none⟩) t1031.length co78] 71 (0, 0))) := ⟨by (with_reducible repeat (first | refine blk_drewN ?_ _ | refine blk_drew ?_ | refine blk_alloc ?_ _)); refine blk_far ?_ (by have h_ := Kd.R_ne HO1033.out BK1035.out (by decide); intro e_; exact h_ (by rw [e_]; rfl)) _; (with_reducible repeat (first | refine blk_drewN ?_ _ | refine blk_drew ?_ | refine blk_alloc ?_ _)); exact BK1035.out⟩
        have n4_ : Aside0 (IsS129 w0 (w88.setCell ⟨go74, (t1036 : Int).toNat * 4 + 3, none⟩ (.int .i64 t1054)) g s0_0 t1055) := ⟨by repeat (first | (with_reducible first | exact HI0.out | apply IsS129.alloc | apply IsS129.drewN | apply IsS129.drew | apply IsS129.set_1 | refine IsS129.far ?_ HN0_go74.out _ | refine IsS129.far ?_ NB0_1030.out _ | refine IsS129.far ?_ NB0_1035.out _) | exact HI0.out)⟩
        have n5_ : Aside0 (KeepBut w (w88.setCell ⟨go74, (t1036 : Int).toNat * 4 + 3, none⟩ (.int .i64 t1054)) g none) := ⟨zk HK⟩
        have n6_ : Aside0 (Below w0.heap.size w0 (w88.setCell ⟨go74, (t1036 : Int).toNat * 4 + 3, none⟩ (.int .i64 t1054))) := ⟨by repeat (first | (with_reducible first | exact HB.out | apply below_alloc | apply pw_below_drewN | apply below_drew1 | refine below_set ?_ (Nat.le_trans HL.out GB74.out) | refine below_set ?_ (IsS129.ge HI0.out) | refine below_set ?_ GE1030.out | refine below_set ?_ GE1035.out) | exact HB.out)⟩
        (try clear HO1033)
        (try clear HO1053)
        (try clear BK1030)
        (try clear BK1035)
        (try clear HI0)
        (try clear HK)
        (try clear HB)
        generalize (w88.setCell ⟨go74, (t1036 : Int).toNat * 4 + 3, none⟩ (.int .i64 t1054)) = w90 at n0_ n1_ n2_ n3_ n4_ n5_ n6_ ⊢
        have HO1033 := n0_
        have HO1053 := n1_
        have BK1030 := n2_
        have BK1035 := n3_
        have HI0 := n4_
        have HK := n5_
        have HB := n6_
        clear n0_ n1_ n2_ n3_ n4_ n5_ n6_
        have hcz91_0 : w90.cell? ⟨gb1035, 0, none⟩ = some (.slice (some ⟨go74, 0, none⟩) t1031.length co78) := (blk_cell BK1035.out 0).trans rfl
        have hfz91_0 := blk_frozen BK1035.out 0
        have hnb92 := NB1030_0.out
        have hnc92 := NB0_1030.out
        have hcz93_0 : w90.cell? ⟨gb1030, 0, none⟩ = some (.slice none 0 0) := (blk_cell BK1030.out 0).trans rfl
        have hfz93_0 := blk_frozen BK1030.out 0
        try go_wp2
        refine bodyPost_ret (results_cell_row rfl _ _ gb1030 71 #[.slice (some ⟨go74, 0, none⟩) t1031.length co78] (0, 0) _ rfl (by (with_reducible repeat (first | refine blk_drewN ?_ _ | refine blk_drew ?_ | refine blk_alloc ?_ _)); refine blk_put (cs := #[.slice none 0 0]) ?_ 0 _ rfl; (with_reducible repeat (first | refine blk_drewN ?_ _ | refine blk_drew ?_ | refine blk_alloc ?_ _)); exact BK1030.out) Try.underlying71 rfl (by kernel_rfl)) rfl ?_
        exact ⟨_, by first | rfl | (simp [errW_none, errW_some] <;> rfl) | (simp [*, errW_none, errW_some] <;> rfl), by (with_reducible repeat (first | apply Kd.R_alloc | apply Kd.R_drewN | apply Kd.R_drew)); exact Kd.R_mono (Kd.R_far (p := ⟨gb1030, 0, none⟩) (Kd.R_types HO1033.out BK1030.out (by decide)) (fun _ hk => hk.2) (.slice (some ⟨go74, 0, none⟩) t1031.length co78)) (fun _ hk => trivial), by repeat (first | (with_reducible first | exact HI0.out | apply IsS129.alloc | apply IsS129.drewN | apply IsS129.drew | apply IsS129.set_1 | refine IsS129.far ?_ NB0_1030.out _ | refine IsS129.far ?_ NB0_1035.out _) | exact HI0.out), by repeat (first | (with_reducible first | exact HB.out | apply below_alloc | apply pw_below_drewN | apply below_drew1 | refine below_set ?_ (IsS129.ge HI0.out) | refine below_set ?_ GE1030.out | refine below_set ?_ GE1035.out) | exact HB.out), zk HK⟩
       ·rw [if_neg c73] at H
        exact absurd H (by simp)
      ·rw [if_neg c72] at H
       exact absurd H (by simp)
     ·rw [if_neg c70] at H
      have c70b0 : (t1038 == 3) = false := beq_eq_false_iff_ne.mpr c70
      have c70b1 : (t1038 != 3) = true := bne_iff_ne.mpr c70
      simp only [Option.some.injEq, Prod.mk.injEq] at H
      obtain ⟨rfl, rfl⟩ := H
      go_enter Try.func96, Try.ntmps96
      go_wp2_with (first | ((with_reducible refine gate_dst (N := 2) rfl ?_); refine box_event ?hg (N := 2) ?hd (cs := #[.slice none 0 0]) (t := 71) ?hr ?_; (case hd => rfl); (case hg => rfl); (case hr => first | (go_simp; done) | (go_simp; rfl)); intro gb1030 hg w94 hbox hb; replace HB := Aside0.mk (below_step (zj129_95 HB) hb); have BK1030 := Aside0.mk (hbox); have GW1030 := Aside0.mk ((by rw [hg]; exact (keep_size (w := w) (g := g) (row := none) (zk HK)) : w.heap.size ≤ gb1030)); have GE1030 := Aside0.mk ((Nat.le_trans HW0.out (by rw [hg]; exact (keep_size (w := w) (g := g) (row := none) (zk HK)) : w.heap.size ≤ gb1030) : w0.heap.size ≤ gb1030)); replace HK := Aside0.mk (KeepBut.trans (zk HK) (KeepBut.of_below hb g none) (.inl rfl)); have NB0_1030 := Aside0.mk ((by rw [hg]; exact Nat.ne_of_lt (IsS129.lt (show IsS129 w0 _ g s0_0 s0_1 from zi129_95 HI0)) : g ≠ gb1030)); have NB1030_0 := Aside0.mk ((by rw [hg]; exact Nat.ne_of_gt (IsS129.lt (show IsS129 w0 _ g s0_0 s0_1 from zi129_95 HI0)) : gb1030 ≠ g)); replace HI0 := Aside0.mk (IsS129.below (zi129_95 HI0) hb); clear hb hbox hg) | ((with_reducible refine gate_callee (f := 134) rfl ?_); refine goesL_ (some 6) rfl rfl Try.func134 (by kernel_rfl) rfl #[.pointer (some ⟨g, 0, none⟩)] rfl zl ?_; (with_reducible refine (spec_goodSignature.calls k g s0_0 s0_1 t1031 t1034 w0 _ ?side1 ?side2 A2.out).mono ?_); (case side1 => exact zi129_95 HI0); (case side2 => exact zj129_95 HB); rintro e w95 ⟨v1032, rfl, ho0, hi, hb, hk⟩; refine ⟨_, rfl, ?_⟩; replace BK1030 := Aside0.mk (KeepBut.blk hk (g' := gb1030) (o := .cells #[.slice none 0 0] 71 (0, 0)) (zb BK1030) NB1030_0.out (by simp)); have HO1033 := Aside0.mk (Kd.R_lower ho0 (keep_size (w := w) (g := g) (row := none) (zk HK))); replace HK := Aside0.mk (KeepBut.trans (zk HK) hk (.inl rfl)); replace HB := Aside0.mk (hb); replace HI0 := Aside0.mk (hi); (try clear hb); (try clear hb2); (try clear hk); (try clear hi); (try clear ho0)) | ((with_reducible refine gate_dst (N := 3) rfl ?_); refine box_event ?hg (N := 3) ?hd (cs := #[.slice none 0 0]) (t := 71) ?hr ?_; (case hd => rfl); (case hg => rfl); (case hr => first | (go_simp; done) | (go_simp; rfl)); intro gb1035 hg w96 hbox hb; replace HO1033 := Aside0.mk (Kd.R_below (zo HO1033) hb); replace HB := Aside0.mk (below_step (zj129_95 HB) hb); have BK1035 := Aside0.mk (hbox); have GW1035 := Aside0.mk ((by rw [hg]; exact (keep_size (w := w) (g := g) (row := none) (zk HK)) : w.heap.size ≤ gb1035)); have GE1035 := Aside0.mk ((Nat.le_trans HW0.out (by rw [hg]; exact (keep_size (w := w) (g := g) (row := none) (zk HK)) : w.heap.size ≤ gb1035) : w0.heap.size ≤ gb1035)); replace HK := Aside0.mk (KeepBut.trans (zk HK) (KeepBut.of_below hb g none) (.inl rfl)); have NB1030_1035 := Aside0.mk ((by rw [hg]; exact Nat.ne_of_lt (blk_lt (g := gb1030) (o := .cells #[.slice none 0 0] 71 (0, 0)) (zb BK1030)) : gb1030 ≠ gb1035)); have NB1035_1030 := Aside0.mk ((by rw [hg]; exact Nat.ne_of_gt (blk_lt (g := gb1030) (o := .cells #[.slice none 0 0] 71 (0, 0)) (zb BK1030)) : gb1035 ≠ gb1030)); replace BK1030 := Aside0.mk (blk_below (g := gb1030) (o := .cells #[.slice none 0 0] 71 (0, 0)) (zb BK1030) hb); have NB0_1035 := Aside0.mk ((by rw [hg]; exact Nat.ne_of_lt (IsS129.lt (show IsS129 w0 _ g s0_0 t1034 from zi129_95 HI0)) : g ≠ gb1035)); have NB1035_0 := Aside0.mk ((by rw [hg]; exact Nat.ne_of_gt (IsS129.lt (show IsS129 w0 _ g s0_0 t1034 from zi129_95 HI0)) : gb1035 ≠ g)); replace HI0 := Aside0.mk (IsS129.below (zi129_95 HI0) hb); clear hb hbox hg; obtain ⟨Ao97, co97, eo97⟩ := Kd.R_slice HO1033.out; subst eo97; have hnb98 := NB1035_1030.out; have hnc98 := NB1030_1035.out; have hnb99 := NB1035_0.out; have hnc99 := NB0_1035.out; have hcz100_0 : w96.cell? ⟨gb1035, 0, none⟩ = some (.slice none 0 0) := (blk_cell BK1035.out 0).trans rfl; have hfz100_0 := blk_frozen BK1035.out 0) | ((with_reducible refine gate_callee (f := 90) rfl ?_); refine goesL_ (some 15) rfl rfl Try.func90 (by kernel_rfl) rfl #[.pointer (some ⟨g, 0, none⟩), .int .i64 (t1031.length : Int)] rfl zl ?_; (with_reducible refine (spec_reader_pick.calls k g s0_0 t1034 (t1031.length : Int) t1036 t1037 w0 _ ?side1 ?side2 A4.out).mono ?_); (case side1 => exact zi129_95 HI0); (case side2 => exact zj129_95 HB); rintro e w101 ⟨rfl, hi, hb, hk⟩; refine ⟨_, rfl, ?_⟩; replace BK1030 := Aside0.mk (KeepBut.blk hk (g' := gb1030) (o := .cells #[.slice none 0 0] 71 (0, 0)) (zf BK1030) NB1030_0.out (by simp)); replace HO1033 := Aside0.mk (Kd.R_mono (Kd.R_keep (IsS129.apart (show IsS129 w0 _ g s0_0 t1034 from zi129_95 HI0) (by (with_reducible repeat (first | apply Kd.R_alloc | apply Kd.R_drewN | apply Kd.R_drew)); exact (Kd.R_mono (Kd.R_far (p := ⟨gb1035, 0, none⟩) (Kd.R_types HO1033.out BK1035.out (by decide)) (fun _ hk => hk.2) (.slice Ao97 t1031.length co97)) (fun _ h_ => h_.1))) (by decide)) hk (fun _ h => h.2)) (fun _ h => h.1)); replace BK1035 := Aside0.mk (KeepBut.blk hk (g' := gb1035) (o := .cells #[.slice Ao97 t1031.length co97] 71 (0, 0)) (by (with_reducible repeat (first | refine blk_drewN ?_ _ | refine blk_drew ?_ | refine blk_alloc ?_ _)); refine blk_put (cs := #[.slice none 0 0]) ?_ 0 _ rfl; (with_reducible repeat (first | refine blk_drewN ?_ _ | refine blk_drew ?_ | refine blk_alloc ?_ _)); exact BK1035.out) NB1035_0.out (by simp)); replace HK := Aside0.mk (KeepBut.trans (zk HK) hk (.inl rfl)); replace HB := Aside0.mk (hb); replace HI0 := Aside0.mk (hi); (try clear hb); (try clear hb2); (try clear hk); (try clear hi)) | ((with_reducible refine gate_callee (f := 90) rfl ?_); refine goesL_ (some 17) rfl rfl Try.func90 (by kernel_rfl) rfl #[.pointer (some ⟨g, 0, none⟩), .int .i64 24] rfl zl ?_; (with_reducible refine (spec_reader_pick.calls k g s0_0 t1037 24 t1038 t1039 w0 _ ?side1 ?side2 A5.out).mono ?_); (case side1 => exact zi129_95 HI0); (case side2 => exact zj129_95 HB); rintro e w102 ⟨rfl, hi, hb, hk⟩; refine ⟨_, rfl, ?_⟩; replace BK1030 := Aside0.mk (KeepBut.blk hk (g' := gb1030) (o := .cells #[.slice none 0 0] 71 (0, 0)) (zb BK1030) NB1030_0.out (by simp)); replace HO1033 := Aside0.mk (Kd.R_mono (Kd.R_keep (IsS129.apart (show IsS129 w0 _ g s0_0 t1037 from zi129_95 HI0) (zo HO1033) (by decide)) hk (fun _ h => h.2)) (fun _ h => h.1)); replace BK1035 := Aside0.mk (KeepBut.blk hk (g' := gb1035) (o := .cells #[.slice Ao97 t1031.length co97] 71 (0, 0)) (zb BK1035) NB1035_0.out (by simp)); replace HK := Aside0.mk (KeepBut.trans (zk HK) hk (.inl rfl)); replace HB := Aside0.mk (hb); replace HI0 := Aside0.mk (hi); (try clear hb); (try clear hb2); (try clear hk); (try clear hi); have hcz103_0 : w102.cell? ⟨gb1035, 0, none⟩ = some (.slice Ao97 t1031.length co97) := (blk_cell BK1035.out 0).trans rfl; have hfz103_0 := blk_frozen BK1035.out 0; have hnb104 := NB1030_0.out; have hnc104 := NB0_1030.out; have hcz105_0 : w102.cell? ⟨gb1030, 0, none⟩ = some (.slice none 0 0) := (blk_cell BK1030.out 0).trans rfl; have hfz105_0 := blk_frozen BK1030.out 0))
      refine bodyPost_ret (results_cell_row rfl _ _ gb1030 71 #[.slice Ao97 t1031.length co97] (0, 0) _ rfl (by (with_reducible repeat (first | refine blk_drewN ?_ _ | refine blk_drew ?_ | refine blk_alloc ?_ _)); refine blk_put (cs := #[.slice none 0 0]) ?_ 0 _ rfl; (with_reducible repeat (first | refine blk_drewN ?_ _ | refine blk_drew ?_ | refine blk_alloc ?_ _)); exact BK1030.out) Try.underlying71 rfl (by kernel_rfl)) rfl ?_
      exact ⟨_, by first | rfl | (simp [errW_none, errW_some] <;> rfl) | (simp [*, errW_none, errW_some] <;> rfl), by (with_reducible repeat (first | apply Kd.R_alloc | apply Kd.R_drewN | apply Kd.R_drew)); exact Kd.R_mono (Kd.R_far (p := ⟨gb1030, 0, none⟩) (Kd.R_types HO1033.out BK1030.out (by decide)) (fun _ hk => hk.2) (.slice Ao97 t1031.length co97)) (fun _ hk => trivial), by repeat (first | (with_reducible first | exact HI0.out | apply IsS129.alloc | apply IsS129.drewN | apply IsS129.drew | apply IsS129.set_1 | refine IsS129.far ?_ NB0_1030.out _ | refine IsS129.far ?_ NB0_1035.out _) | exact HI0.out), by repeat (first | (with_reducible first | exact HB.out | apply below_alloc | apply pw_below_drewN | apply below_drew1 | refine below_set ?_ (IsS129.ge HI0.out) | refine below_set ?_ GE1030.out | refine below_set ?_ GE1035.out) | exact HB.out), zk HK⟩
 ·rw [if_neg c3] at H
  have c3b0 : decide (0 < (t1031.length : Int)) = false := decide_eq_false c3
  have c3b1 : decide (0 < t1031.length) = false := decide_eq_false (by omega)
  clear c3
  simp only [Option.some.injEq, Prod.mk.injEq] at H
  obtain ⟨rfl, rfl⟩ := H
  go_enter Try.func96, Try.ntmps96
  go_wp2_with (first | ((with_reducible refine gate_dst (N := 2) rfl ?_); refine box_event ?hg (N := 2) ?hd (cs := #[.slice none 0 0]) (t := 71) ?hr ?_; (case hd => rfl); (case hg => rfl); (case hr => first | (go_simp; done) | (go_simp; rfl)); intro gb1030 hg w106 hbox hb; replace HB := Aside0.mk (below_step (zj129_95 HB) hb); have BK1030 := Aside0.mk (hbox); have GW1030 := Aside0.mk ((by rw [hg]; exact (keep_size (w := w) (g := g) (row := none) (zk HK)) : w.heap.size ≤ gb1030)); have GE1030 := Aside0.mk ((Nat.le_trans HW0.out (by rw [hg]; exact (keep_size (w := w) (g := g) (row := none) (zk HK)) : w.heap.size ≤ gb1030) : w0.heap.size ≤ gb1030)); replace HK := Aside0.mk (KeepBut.trans (zk HK) (KeepBut.of_below hb g none) (.inl rfl)); have NB0_1030 := Aside0.mk ((by rw [hg]; exact Nat.ne_of_lt (IsS129.lt (show IsS129 w0 _ g s0_0 s0_1 from zi129_95 HI0)) : g ≠ gb1030)); have NB1030_0 := Aside0.mk ((by rw [hg]; exact Nat.ne_of_gt (IsS129.lt (show IsS129 w0 _ g s0_0 s0_1 from zi129_95 HI0)) : gb1030 ≠ g)); replace HI0 := Aside0.mk (IsS129.below (zi129_95 HI0) hb); clear hb hbox hg) | ((with_reducible refine gate_callee (f := 134) rfl ?_); refine goesL_ (some 6) rfl rfl Try.func134 (by kernel_rfl) rfl #[.pointer (some ⟨g, 0, none⟩)] rfl zl ?_; (with_reducible refine (spec_goodSignature.calls k g s0_0 s0_1 t1031 t1034 w0 _ ?side1 ?side2 A2.out).mono ?_); (case side1 => exact zi129_95 HI0); (case side2 => exact zj129_95 HB); rintro e w107 ⟨v1032, rfl, ho0, hi, hb, hk⟩; refine ⟨_, rfl, ?_⟩; replace BK1030 := Aside0.mk (KeepBut.blk hk (g' := gb1030) (o := .cells #[.slice none 0 0] 71 (0, 0)) (zb BK1030) NB1030_0.out (by simp)); have HO1033 := Aside0.mk (Kd.R_lower ho0 (keep_size (w := w) (g := g) (row := none) (zk HK))); replace HK := Aside0.mk (KeepBut.trans (zk HK) hk (.inl rfl)); replace HB := Aside0.mk (hb); replace HI0 := Aside0.mk (hi); (try clear hb); (try clear hb2); (try clear hk); (try clear hi); (try clear ho0)) | ((with_reducible refine gate_dst (N := 3) rfl ?_); refine box_event ?hg (N := 3) ?hd (cs := #[.slice none 0 0]) (t := 71) ?hr ?_; (case hd => rfl); (case hg => rfl); (case hr => first | (go_simp; done) | (go_simp; rfl)); intro gb1035 hg w108 hbox hb; replace HO1033 := Aside0.mk (Kd.R_below (zo HO1033) hb); replace HB := Aside0.mk (below_step (zj129_95 HB) hb); have BK1035 := Aside0.mk (hbox); have GW1035 := Aside0.mk ((by rw [hg]; exact (keep_size (w := w) (g := g) (row := none) (zk HK)) : w.heap.size ≤ gb1035)); have GE1035 := Aside0.mk ((Nat.le_trans HW0.out (by rw [hg]; exact (keep_size (w := w) (g := g) (row := none) (zk HK)) : w.heap.size ≤ gb1035) : w0.heap.size ≤ gb1035)); replace HK := Aside0.mk (KeepBut.trans (zk HK) (KeepBut.of_below hb g none) (.inl rfl)); have NB1030_1035 := Aside0.mk ((by rw [hg]; exact Nat.ne_of_lt (blk_lt (g := gb1030) (o := .cells #[.slice none 0 0] 71 (0, 0)) (zb BK1030)) : gb1030 ≠ gb1035)); have NB1035_1030 := Aside0.mk ((by rw [hg]; exact Nat.ne_of_gt (blk_lt (g := gb1030) (o := .cells #[.slice none 0 0] 71 (0, 0)) (zb BK1030)) : gb1035 ≠ gb1030)); replace BK1030 := Aside0.mk (blk_below (g := gb1030) (o := .cells #[.slice none 0 0] 71 (0, 0)) (zb BK1030) hb); have NB0_1035 := Aside0.mk ((by rw [hg]; exact Nat.ne_of_lt (IsS129.lt (show IsS129 w0 _ g s0_0 t1034 from zi129_95 HI0)) : g ≠ gb1035)); have NB1035_0 := Aside0.mk ((by rw [hg]; exact Nat.ne_of_gt (IsS129.lt (show IsS129 w0 _ g s0_0 t1034 from zi129_95 HI0)) : gb1035 ≠ g)); replace HI0 := Aside0.mk (IsS129.below (zi129_95 HI0) hb); clear hb hbox hg; obtain ⟨Ao109, co109, eo109⟩ := Kd.R_slice HO1033.out; subst eo109; have hnb110 := NB1035_1030.out; have hnc110 := NB1030_1035.out; have hnb111 := NB1035_0.out; have hnc111 := NB0_1035.out; have hcz112_0 : w108.cell? ⟨gb1035, 0, none⟩ = some (.slice none 0 0) := (blk_cell BK1035.out 0).trans rfl; have hfz112_0 := blk_frozen BK1035.out 0; have hnb113 := NB1030_0.out; have hnc113 := NB0_1030.out; have hcz114_0 : w108.cell? ⟨gb1030, 0, none⟩ = some (.slice none 0 0) := (blk_cell BK1030.out 0).trans rfl; have hfz114_0 := blk_frozen BK1030.out 0))
  refine bodyPost_ret (results_cell_row rfl _ _ gb1030 71 #[.slice Ao109 t1031.length co109] (0, 0) _ rfl (by (with_reducible repeat (first | refine blk_drewN ?_ _ | refine blk_drew ?_ | refine blk_alloc ?_ _)); refine blk_put (cs := #[.slice none 0 0]) ?_ 0 _ rfl; (with_reducible repeat (first | refine blk_drewN ?_ _ | refine blk_drew ?_ | refine blk_alloc ?_ _)); refine blk_far ?_ NB1030_1035.out _; (with_reducible repeat (first | refine blk_drewN ?_ _ | refine blk_drew ?_ | refine blk_alloc ?_ _)); exact BK1030.out) Try.underlying71 rfl (by kernel_rfl)) rfl ?_
  exact ⟨_, by first | rfl | (simp [errW_none, errW_some] <;> rfl) | (simp [*, errW_none, errW_some] <;> rfl), by (with_reducible repeat (first | apply Kd.R_alloc | apply Kd.R_drewN | apply Kd.R_drew)); exact Kd.R_mono (Kd.R_far (p := ⟨gb1030, 0, none⟩) (Kd.R_far (p := ⟨gb1035, 0, none⟩) (Kd.R_types (Kd.R_types HO1033.out BK1035.out (by decide)) BK1030.out (by decide)) (fun _ hk => hk.1.2) (.slice Ao109 t1031.length co109)) (fun _ hk => hk.2) (.slice Ao109 t1031.length co109)) (fun _ hk => trivial), by repeat (first | (with_reducible first | exact HI0.out | apply IsS129.alloc | apply IsS129.drewN | apply IsS129.drew | apply IsS129.set_1 | refine IsS129.far ?_ NB0_1030.out _ | refine IsS129.far ?_ NB0_1035.out _) | exact HI0.out), by repeat (first | (with_reducible first | exact HB.out | apply below_alloc | apply pw_below_drewN | apply below_drew1 | refine below_set ?_ (IsS129.ge HI0.out) | refine below_set ?_ GE1030.out | refine below_set ?_ GE1035.out) | exact HB.out), zk HK⟩

end Go.Proofs.Ytfcpbgedgedalaa.Q

namespace Go.Proofs.Ytfcpbgedgedalaa.Q
open Go.RowKit Go.Proofs.YtfcpbgedgedalaaL.PrintWords Go.Proofs.YtfcpbgedgedalaaL.PrintLast Go.Proofs.YtfcpbgedgedalaaL.PrintMore
attribute [local go_sem] max2_int min2_int max_two min_two max_three min_three max_four min_four   -- for this text's walks alone
set_option linter.unusedVariables false
set_option linter.unusedSimpArgs false

theorem zi129_96 {w0 W W' : World} {g : Nat} {f0 f0' : List Int} {f1 f1' : Int} (h : Aside0 (IsS129 w0 W g f0 f1)) (i : IsS129 w0 W g f0 f1 → IsS129 w0 W' g f0' f1' := by intro hh_; repeat (first | (with_reducible first | exact hh_ | apply IsS129.alloc | apply IsS129.drewN | apply IsS129.drew | apply IsS129.set_1 | refine IsS129.far ?_ (Aside0.out (by assumption)) _) | exact hh_)) : IsS129 w0 W' g f0' f1' := i h.out
theorem zj129_96 {B : Nat} {w W W' : World} (h : Aside0 (Below B w W)) (i : Below B w W → Below B w W' := by intro hh_; repeat (first | (with_reducible first | exact hh_ | apply below_alloc | apply pw_below_drewN | apply below_drew1 | refine below_set ?_ (IsS129.ge (Aside0.out (by assumption))) | refine below_set ?_ (Aside0.out (by assumption))) | exact hh_)) : Below B w W' := i h.out
/-! ### spec_DrawTurnSignature: function 47 -/
def spec_DrawTurnSignature.f (k : Nat) (l0 : List Int) : Option ((List (S107)) × (List (S123))) := (spec_newReader.f l0).bind fun bt1058 => ((spec_someTurns.f k bt1058.1 bt1058.2).bind fun bt1061 => ((spec_someSignature.f k bt1058.1 bt1061.2).bind fun bt1065 => (some (bt1061.1, bt1065.1))))
theorem spec_DrawTurnSignature.mono : ∀ a0 k, LeO (spec_DrawTurnSignature.f k a0) (spec_DrawTurnSignature.f (k + 1) a0) := by
 intro a0 k
 unfold spec_DrawTurnSignature.f
 repeat' first
   | (with_reducible exact spec_someSignature.mono _ _ _)
   | (with_reducible exact spec_someTurns.mono _ _ _)
   | (with_reducible exact LeO.refl _)
   | (with_reducible exact LeO.none _)
   | (with_reducible refine LeO.ite ?_ ?_)
   | (with_reducible refine LeO.bind ?_ (fun _ => ?_))
   | exact spec_someSignature.mono _ _ _
   | exact spec_someTurns.mono _ _ _
   | exact LeO.none _
   | refine LeO.ite ?_ ?_
   | refine LeO.bind ?_ (fun _ => ?_)
set_option maxHeartbeats 8000000 in
set_option maxRecDepth 100000 in
theorem spec_DrawTurnSignature.calls (k : Nat) (A0 : Option Addr) (c0 : Nat) (l0 : List Int) (r1 : List (S107)) (r2 : List (S123)) (w : World) (hr0 : Kd.C (Kd.int .u8) w A0 l0.length l0) (hc0 : l0.length ≤ c0) (h : spec_DrawTurnSignature.f k l0 = some (r1, r2)) :
  Calls Try.prog 47 #[.slice A0 l0.length c0] w fun e w' => ∃ v0_ v1_ : Value, e = .returned (.tuple #[v0_, .agg #[v1_]]) ∧ Kd.R k107 107 w' w.heap.size (fun _ => True) v0_ r1 ∧ Kd.R k123 123 w' w.heap.size (fun _ => True) v1_ r2 ∧ Below w.heap.size w w' := by
 have hu71 := Try.underlying71
 have HR0 := Aside0.mk hr0
 have HC0 := Aside0.mk hc0
 clear hr0 hc0
 have HB := Aside0.mk (Below.refl w.heap.size w)
 have H : ((spec_newReader.f l0).bind fun bt1058 => ((spec_someTurns.f k bt1058.1 bt1058.2).bind fun bt1061 => ((spec_someSignature.f k bt1058.1 bt1061.2).bind fun bt1065 => (some (bt1061.1, bt1065.1))))) = some (r1, r2) := h
 clear h
 replace H := Option.bind_eq_some_iff.mp H
 obtain ⟨⟨t1058, t1059⟩, A20, H⟩ := H
 (try dsimp only at H)
 have A2 := Aside0.mk A20
 clear A20
 replace H := Option.bind_eq_some_iff.mp H
 obtain ⟨⟨t1061, t1064⟩, A30, H⟩ := H
 (try dsimp only at H)
 have A3 := Aside0.mk A30
 clear A30
 replace H := Option.bind_eq_some_iff.mp H
 obtain ⟨⟨t1065, t1068⟩, A40, H⟩ := H
 (try dsimp only at H)
 have A4 := Aside0.mk A40
 clear A40
 simp only [Option.some.injEq, Prod.mk.injEq] at H
 obtain ⟨rfl, rfl⟩ := H
 go_enter Try.func47, Try.ntmps47
 go_wp2_with (first | ((with_reducible refine gate_dst (N := 3) rfl ?_); refine box_event ?hg (N := 3) ?hd (cs := #[.slice none 0 0]) (t := 71) ?hr ?_; (case hd => rfl); (case hg => rfl); (case hr => first | (go_simp; done) | (go_simp; rfl)); intro gb1057 hg w5 hbox hb; have BK1057 := Aside0.mk (hbox); have GW1057 := Aside0.mk ((by rw [hg]; exact (below_size (zB HB)) : w.heap.size ≤ gb1057)); have GE1057 := Aside0.mk ((by rw [hg]; exact (below_size (zB HB)) : w.heap.size ≤ gb1057)); replace HB := Aside0.mk (below_step (zB HB) hb); clear hb hbox hg) | ((with_reducible refine gate_callee (f := 53) rfl ?_); refine goesL_ (some 6) rfl rfl Try.func53 (by kernel_rfl) rfl #[.slice A0 l0.length c0] rfl zl ?_; (with_reducible refine (spec_newReader.calls _ _ l0 t1058 t1059 w _ ?side1 ?side2 ?side3 A2.out).mono ?_); (case side1 => exact zB HB); (case side2 => exact HR0.out); (case side3 => exact HC0.out); rintro e w6 ⟨g1060, rfl, hi, hb, hb2⟩; refine ⟨_, rfl, ?_⟩; replace HB := Aside0.mk (hb); have HI1060 := Aside0.mk (hi); have NB1060_1057 := Aside0.mk (IsS129.ne_blk hi (blk_below (g := gb1057) (o := .cells #[.slice none 0 0] 71 (0, 0)) (zb BK1057) hb2) (by decide)); have NB1057_1060 := Aside0.mk (Ne.symm (IsS129.ne_blk hi (blk_below (g := gb1057) (o := .cells #[.slice none 0 0] 71 (0, 0)) (zb BK1057) hb2) (by decide))); replace BK1057 := Aside0.mk (blk_below (g := gb1057) (o := .cells #[.slice none 0 0] 71 (0, 0)) (zb BK1057) hb2); (try clear hb); (try clear hb2); (try clear hk); (try clear hi)) | ((with_reducible refine gate_callee (f := 89) rfl ?_); refine goesL_ (some 8) rfl rfl Try.func89 (by kernel_rfl) rfl #[.pointer (some ⟨g1060, 0, none⟩)] rfl zl ?_; (with_reducible refine (spec_someTurns.calls k g1060 t1058 t1059 t1061 t1064 w _ ?side1 ?side2 A3.out).mono ?_); (case side1 => exact zi129_96 HI1060); (case side2 => exact zj129_96 HB); rintro e w7 ⟨v1062, rfl, ho0, hi, hb, hk⟩; refine ⟨_, rfl, ?_⟩; replace BK1057 := Aside0.mk (KeepBut.blk hk (g' := gb1057) (o := .cells #[.slice none 0 0] 71 (0, 0)) (zb BK1057) NB1057_1060.out (by simp)); have HO1063 := Aside0.mk (Kd.R_lower ho0 (below_size (zj129_96 HB))); replace HB := Aside0.mk (hb); replace HI1060 := Aside0.mk (hi); (try clear hb); (try clear hb2); (try clear hk); (try clear hi); (try clear ho0)) | ((with_reducible refine gate_callee (f := 96) rfl ?_); refine goesL_ (some 10) rfl rfl Try.func96 (by kernel_rfl) rfl #[.pointer (some ⟨g1060, 0, none⟩)] rfl zl ?_; (with_reducible refine (spec_someSignature.calls k g1060 t1058 t1064 t1065 t1068 w _ ?side1 ?side2 A4.out).mono ?_); (case side1 => exact zi129_96 HI1060); (case side2 => exact zj129_96 HB); rintro e w8 ⟨v1066, rfl, ho0, hi, hb, hk⟩; refine ⟨_, rfl, ?_⟩; replace BK1057 := Aside0.mk (KeepBut.blk hk (g' := gb1057) (o := .cells #[.slice none 0 0] 71 (0, 0)) (zb BK1057) NB1057_1060.out (by simp)); replace HO1063 := Aside0.mk (Kd.R_mono (Kd.R_keep (IsS129.apart (show IsS129 w _ g1060 t1058 t1064 from zi129_96 HI1060) (zo HO1063) (by decide)) hk (fun _ h => h.2)) (fun _ h => h.1)); have HO1067 := Aside0.mk (Kd.R_lower ho0 (below_size (zj129_96 HB))); replace HB := Aside0.mk (hb); replace HI1060 := Aside0.mk (hi); (try clear hb); (try clear hb2); (try clear hk); (try clear hi); (try clear ho0); obtain ⟨Ao9, co9, eo9⟩ := Kd.R_slice HO1067.out; subst eo9; have hnb10 := NB1057_1060.out; have hnc10 := NB1060_1057.out; have hcz11_0 : w8.cell? ⟨gb1057, 0, none⟩ = some (.slice none 0 0) := (blk_cell BK1057.out 0).trans rfl; have hfz11_0 := blk_frozen BK1057.out 0))
 refine bodyPost_ret (results_tc rfl _ _ gb1057 71 #[.slice Ao9 t1065.length co9] (0, 0) _ rfl (by (with_reducible repeat (first | refine blk_drewN ?_ _ | refine blk_drew ?_ | refine blk_alloc ?_ _)); refine blk_put (cs := #[.slice none 0 0]) ?_ 0 _ rfl; (with_reducible repeat (first | refine blk_drewN ?_ _ | refine blk_drew ?_ | refine blk_alloc ?_ _)); exact BK1057.out) Try.underlying71 rfl (by kernel_rfl)) rfl ?_
 exact ⟨_, _, by first | rfl | (simp [errW_none, errW_some] <;> rfl) | (simp [*, errW_none, errW_some] <;> rfl), by (with_reducible repeat (first | apply Kd.R_alloc | apply Kd.R_drewN | apply Kd.R_drew)); exact Kd.R_mono (Kd.R_far (p := ⟨gb1057, 0, none⟩) (Kd.R_types HO1063.out BK1057.out (by decide)) (fun _ hk => hk.2) (.slice Ao9 t1065.length co9)) (fun _ hk => trivial), by (with_reducible repeat (first | apply Kd.R_alloc | apply Kd.R_drewN | apply Kd.R_drew)); exact Kd.R_mono (Kd.R_far (p := ⟨gb1057, 0, none⟩) (Kd.R_types HO1067.out BK1057.out (by decide)) (fun _ hk => hk.2) (.slice Ao9 t1065.length co9)) (fun _ hk => trivial), by repeat (first | (with_reducible first | exact HB.out | apply below_alloc | apply pw_below_drewN | apply below_drew1 | refine below_set ?_ (IsS129.ge HI1060.out) | refine below_set ?_ GE1057.out) | exact HB.out)⟩

end Go.Proofs.Ytfcpbgedgedalaa.Q
