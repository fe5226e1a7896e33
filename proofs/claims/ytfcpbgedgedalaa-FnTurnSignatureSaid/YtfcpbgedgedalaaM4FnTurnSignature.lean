-- written by px.py and merge.py (programs of this claim's), over the kit's print. Not trusted: Lean checks it.
import Derived.Test.YtfcpbgedgedalaaQ0
import Derived.Test.YtfcpbgedgedalaaM0FnTurnSignature
import Derived.Test.YtfcpbgedgedalaaM1FnTurnSignature
import Derived.Test.YtfcpbgedgedalaaM3FnTurnSignature
namespace Go.Proofs.Ytfcpbgedgedalaa.Q
open Go.RowKit Go.Proofs.YtfcpbgedgedalaaL.PrintWords Go.Proofs.YtfcpbgedgedalaaL.PrintLast Go.Proofs.YtfcpbgedgedalaaL.PrintMore
attribute [local go_sem] max2_int min2_int max_two min_two max_three min_three max_four min_four   -- for this text's walks alone
set_option linter.unusedVariables false
set_option linter.unusedSimpArgs false

theorem zi129_94 {w0 W W' : World} {g : Nat} {f0 f0' : List Int} {f1 f1' : Int} (h : Aside0 (IsS129 w0 W g f0 f1)) (i : IsS129 w0 W g f0 f1 → IsS129 w0 W' g f0' f1' := by intro hh_; repeat (first | (with_reducible first | exact hh_ | apply IsS129.alloc | apply IsS129.drewN | apply IsS129.drew | apply IsS129.set_1 | refine IsS129.far ?_ (Aside0.out (by assumption)) _) | exact hh_)) : IsS129 w0 W' g f0' f1' := i h.out
theorem zj129_94 {B : Nat} {w W W' : World} (h : Aside0 (Below B w W)) (i : Below B w W → Below B w W' := by intro hh_; repeat (first | (with_reducible first | exact hh_ | apply below_alloc | apply pw_below_drewN | apply below_drew1 | refine below_set ?_ (IsS129.ge (Aside0.out (by assumption))) | refine below_set ?_ (Aside0.out (by assumption))) | exact hh_)) : Below B w W' := i h.out
/-! ### spec_goodSignature: function 134 -/
mutual
def spec_goodSignature.j0 : Nat → List (S123) → Int → List Int → Int → Option ((List (S123)) × Int)
 | 0, _, _, _, _ => none
 | k + 1, x3, x4, x1000, x1001 => (spec_reader_one.f k x1000 x1001 (([3, 4, 2, 5, 1, 0, 6, 8] : List Int))).bind fun bt1002 => (spec_goodSignature.l0 k x3 x4 bt1002.1 x1000 bt1002.2)
def spec_goodSignature.l0 : Nat → List (S123) → Int → Int → List Int → Int → Option ((List (S123)) × Int)
 | 0, _, _, _, _, _ => none
 | k + 1, x3, x4, x5, x1000, x1001 => if x5 > 0 then ((spec_reader_pick.f k x1000 x1001 3).bind fun bt1004 => (if bt1004.1 = 0 then (spec_goodSignature.j2 k x3 x4 x5 (decide (x4 < 4)) x1000 bt1004.2) else (spec_goodSignature.j2 k x3 x4 x5 false x1000 bt1004.2))) else (some (x3, x1001))
def spec_goodSignature.j2 : Nat → List (S123) → Int → Int → Bool → List Int → Int → Option ((List (S123)) × Int)
 | 0, _, _, _, _, _, _ => none
 | k + 1, x3, x4, x5, x25, x1000, x1001 => if x25 = true then ((spec_reader_pick.f k x1000 x1001 (wrap64 (4 - x4))).bind fun bt1006 => (spec_goodSignature.j3 k x3 (wrap64 ((wrap64 (x4 + 1)) + bt1006.1)) x5 x1000 bt1006.2)) else (spec_goodSignature.j3 k x3 x4 x5 x1000 x1001)
def spec_goodSignature.j3 : Nat → List (S123) → Int → Int → List Int → Int → Option ((List (S123)) × Int)
 | 0, _, _, _, _, _ => none
 | k + 1, x3, x4, x5, x1000, x1001 => (spec_reader_of.f k x1000 x1001 (([(⟨#[97]⟩ : ByteArray), (⟨#[98]⟩ : ByteArray), (⟨#[99]⟩ : ByteArray), (⟨#[100]⟩ : ByteArray), (⟨#[120]⟩ : ByteArray), (⟨#[121]⟩ : ByteArray), (⟨#[112]⟩ : ByteArray), (⟨#[113]⟩ : ByteArray), (⟨#[97, 114, 103, 115]⟩ : ByteArray), (⟨#[107, 119]⟩ : ByteArray)] : List ByteArray))).bind fun bt1011 => ((spec_reader_pick.f k x1000 bt1011.2 3).bind fun bt1014 => (if bt1014.1 = 0 then ((spec_isSingle.f bt1011.1 x4 false 0).bind fun t1016 => (spec_goodSignature.j4 k x3 x4 x5 t1016 x1000 bt1014.2 bt1011.1 x4 false 0)) else (spec_goodSignature.j4 k x3 x4 x5 false x1000 bt1014.2 bt1011.1 x4 false 0)))
def spec_goodSignature.j4 : Nat → List (S123) → Int → Int → Bool → List Int → Int → ByteArray → Int → Bool → Int → Option ((List (S123)) × Int)
 | 0, _, _, _, _, _, _, _, _, _, _ => none
 | k + 1, x3, x4, x5, x44, x1000, x1001, x1014000, x1014001, x1014002, x1014003 => if x44 = true then ((spec_aNumber.f k x1000 x1001).bind fun bt1017 => (spec_goodSignature.j5 k x3 x4 x5 x1000 bt1017.2 x1014000 x1014001 true bt1017.1)) else (spec_goodSignature.j5 k x3 x4 x5 x1000 x1001 x1014000 x1014001 x1014002 x1014003)
def spec_goodSignature.j5 : Nat → List (S123) → Int → Int → List Int → Int → ByteArray → Int → Bool → Int → Option ((List (S123)) × Int)
 | 0, _, _, _, _, _, _, _, _, _ => none
 | k + 1, x3, x4, x5, x1000, x1001, x1014000, x1014001, x1014002, x1014003 => (spec_isSingle.f x1014000 x1014001 x1014002 x1014003).bind fun t1019 => (if t1019 = true then (spec_goodSignature.j6 k x3 x4 x5 x1000 x1001 x1014000 x1014001 x1014002 x1014003) else (spec_goodSignature.j6 k x3 (mn (wrap64 (x4 + 1)) 4) x5 x1000 x1001 x1014000 x1014001 x1014002 x1014003))
def spec_goodSignature.j6 : Nat → List (S123) → Int → Int → List Int → Int → ByteArray → Int → Bool → Int → Option ((List (S123)) × Int)
 | 0, _, _, _, _, _, _, _, _, _ => none
 | k + 1, x3, x4, x5, x1000, x1001, x1014000, x1014001, x1014002, x1014003 => (spec_copyParams.f x3).bind fun t1020 => ((some (([(⟨x1014000, x1014001, x1014002, x1014003⟩ : S123)] : List (S123)) : List (S123))).bind fun y1023 => (if t1020.length + y1023.length < 3518437208883 then ((some (t1020 ++ y1023 : List (S123))).bind fun y1026 => ((spec_validParams.f k y1026).bind fun t1029 => (if t1029 = true then (spec_goodSignature.l0 k y1026 x4 (wrap64 (x5 - 1)) x1000 x1001) else (spec_goodSignature.l0 k x3 x4 (wrap64 (x5 - 1)) x1000 x1001)))) else (none)))
end
def spec_goodSignature.f (k : Nat) (s0_0 : List Int) (s0_1 : Int) : Option ((List (S123)) × Int) := (some (([] : List (S123)) : List (S123))).bind fun y994 => ((spec_reader_pick.f k s0_0 s0_1 2).bind fun bt997 => (if bt997.1 = 0 then (spec_goodSignature.j0 k y994 1 s0_0 bt997.2) else (spec_goodSignature.j0 k y994 0 s0_0 bt997.2)))
theorem spec_goodSignature.mono_l : ∀ k, (∀ y0 y1 y2 y3, LeO (spec_goodSignature.j0 k y0 y1 y2 y3) (spec_goodSignature.j0 (k + 1) y0 y1 y2 y3)) ∧ (∀ y0 y1 y2 y3 y4, LeO (spec_goodSignature.l0 k y0 y1 y2 y3 y4) (spec_goodSignature.l0 (k + 1) y0 y1 y2 y3 y4)) ∧ (∀ y0 y1 y2 y3 y4 y5, LeO (spec_goodSignature.j2 k y0 y1 y2 y3 y4 y5) (spec_goodSignature.j2 (k + 1) y0 y1 y2 y3 y4 y5)) ∧ (∀ y0 y1 y2 y3 y4, LeO (spec_goodSignature.j3 k y0 y1 y2 y3 y4) (spec_goodSignature.j3 (k + 1) y0 y1 y2 y3 y4)) ∧ (∀ y0 y1 y2 y3 y4 y5 y6 y7 y8 y9, LeO (spec_goodSignature.j4 k y0 y1 y2 y3 y4 y5 y6 y7 y8 y9) (spec_goodSignature.j4 (k + 1) y0 y1 y2 y3 y4 y5 y6 y7 y8 y9)) ∧ (∀ y0 y1 y2 y3 y4 y5 y6 y7 y8, LeO (spec_goodSignature.j5 k y0 y1 y2 y3 y4 y5 y6 y7 y8) (spec_goodSignature.j5 (k + 1) y0 y1 y2 y3 y4 y5 y6 y7 y8)) ∧ (∀ y0 y1 y2 y3 y4 y5 y6 y7 y8, LeO (spec_goodSignature.j6 k y0 y1 y2 y3 y4 y5 y6 y7 y8) (spec_goodSignature.j6 (k + 1) y0 y1 y2 y3 y4 y5 y6 y7 y8))
 | 0 => ⟨fun _ _ _ _ r h => by simp [spec_goodSignature.j0] at h, fun _ _ _ _ _ r h => by simp [spec_goodSignature.l0] at h, fun _ _ _ _ _ _ r h => by simp [spec_goodSignature.j2] at h, fun _ _ _ _ _ r h => by simp [spec_goodSignature.j3] at h, fun _ _ _ _ _ _ _ _ _ _ r h => by simp [spec_goodSignature.j4] at h, fun _ _ _ _ _ _ _ _ _ r h => by simp [spec_goodSignature.j5] at h, fun _ _ _ _ _ _ _ _ _ r h => by simp [spec_goodSignature.j6] at h⟩
 | k + 1 => by
  obtain ⟨ih0, ih1, ih2, ih3, ih4, ih5, ih6⟩ := spec_goodSignature.mono_l k
  refine ⟨?_, ?_, ?_, ?_, ?_, ?_, ?_⟩
  all_goals intros
  all_goals (first | unfold spec_goodSignature.j0 | unfold spec_goodSignature.l0 | unfold spec_goodSignature.j2 | unfold spec_goodSignature.j3 | unfold spec_goodSignature.j4 | unfold spec_goodSignature.j5 | unfold spec_goodSignature.j6)
  all_goals repeat' first
   | (with_reducible exact ih0 _ _ _ _)
   | (with_reducible exact ih1 _ _ _ _ _)
   | (with_reducible exact ih2 _ _ _ _ _ _)
   | (with_reducible exact ih3 _ _ _ _ _)
   | (with_reducible exact ih4 _ _ _ _ _ _ _ _ _ _)
   | (with_reducible exact ih5 _ _ _ _ _ _ _ _ _)
   | (with_reducible exact ih6 _ _ _ _ _ _ _ _ _)
   | (with_reducible exact spec_aNumber.mono _ _ _)
   | (with_reducible exact spec_reader_of.mono _ _ _ _)
   | (with_reducible exact spec_reader_one.mono _ _ _ _)
   | (with_reducible exact spec_reader_pick.mono _ _ _ _)
   | (with_reducible exact spec_validParams.mono _ _)
   | (with_reducible exact LeO.refl _)
   | (with_reducible exact LeO.none _)
   | (with_reducible refine LeO.ite ?_ ?_)
   | (with_reducible refine LeO.bind ?_ (fun _ => ?_))
   | exact ih0 _ _ _ _
   | exact ih1 _ _ _ _ _
   | exact ih2 _ _ _ _ _ _
   | exact ih3 _ _ _ _ _
   | exact ih4 _ _ _ _ _ _ _ _ _ _
   | exact ih5 _ _ _ _ _ _ _ _ _
   | exact ih6 _ _ _ _ _ _ _ _ _
   | exact spec_aNumber.mono _ _ _
   | exact spec_reader_of.mono _ _ _ _
   | exact spec_reader_one.mono _ _ _ _
   | exact spec_reader_pick.mono _ _ _ _
   | exact spec_validParams.mono _ _
   | exact LeO.none _
   | refine LeO.ite ?_ ?_
   | refine LeO.bind ?_ (fun _ => ?_)
theorem spec_goodSignature.mono : ∀ a0 a1 k, LeO (spec_goodSignature.f k a0 a1) (spec_goodSignature.f (k + 1) a0 a1) := by
 intro a0 a1 k
 obtain ⟨ih0, ih1, ih2, ih3, ih4, ih5, ih6⟩ := spec_goodSignature.mono_l k
 unfold spec_goodSignature.f
 repeat' first
   | (with_reducible exact ih0 _ _ _ _)
   | (with_reducible exact ih1 _ _ _ _ _)
   | (with_reducible exact ih2 _ _ _ _ _ _)
   | (with_reducible exact ih3 _ _ _ _ _)
   | (with_reducible exact ih4 _ _ _ _ _ _ _ _ _ _)
   | (with_reducible exact ih5 _ _ _ _ _ _ _ _ _)
   | (with_reducible exact ih6 _ _ _ _ _ _ _ _ _)
   | (with_reducible exact spec_aNumber.mono _ _ _)
   | (with_reducible exact spec_reader_of.mono _ _ _ _)
   | (with_reducible exact spec_reader_one.mono _ _ _ _)
   | (with_reducible exact spec_reader_pick.mono _ _ _ _)
   | (with_reducible exact spec_validParams.mono _ _)
   | (with_reducible exact LeO.refl _)
   | (with_reducible exact LeO.none _)
   | (with_reducible refine LeO.ite ?_ ?_)
   | (with_reducible refine LeO.bind ?_ (fun _ => ?_))
   | exact ih0 _ _ _ _
   | exact ih1 _ _ _ _ _
   | exact ih2 _ _ _ _ _ _
   | exact ih3 _ _ _ _ _
   | exact ih4 _ _ _ _ _ _ _ _ _ _
   | exact ih5 _ _ _ _ _ _ _ _ _
   | exact ih6 _ _ _ _ _ _ _ _ _
   | exact spec_aNumber.mono _ _ _
   | exact spec_reader_of.mono _ _ _ _
   | exact spec_reader_one.mono _ _ _ _
   | exact spec_reader_pick.mono _ _ _ _
   | exact spec_validParams.mono _ _
   | exact LeO.none _
   | refine LeO.ite ?_ ?_
   | refine LeO.bind ?_ (fun _ => ?_)
set_option maxHeartbeats 8000000 in
set_option maxRecDepth 100000 in
theorem spec_goodSignature.calls (k : Nat) (g : Nat) (s0_0 : List Int) (s0_1 : Int) (r1 : List (S123)) (r2 : Int) (w0 w : World) (hI : IsS129 w0 w g s0_0 s0_1) (hB : Below w0.heap.size w0 w) (h : spec_goodSignature.f k s0_0 s0_1 = some (r1, r2)) :
  Calls Try.prog 134 #[.pointer (some ⟨g, 0, none⟩)] w fun e w' => ∃ v0_ : Value, e = .returned (.agg #[v0_]) ∧ Kd.R k123 123 w' w.heap.size (fun _ => True) v0_ r1 ∧ IsS129 w0 w' g s0_0 r2 ∧ Below w0.heap.size w0 w' ∧ KeepBut w w' g none := by
 have hu71 := Try.underlying71
 have hu123 := Try.underlying123
 have HI0 := Aside0.mk hI
 have HK := Aside0.mk (KeepBut.refl w g none)
 have HL := Aside0.mk hB.size
 clear hI
 have HW0 := Aside0.mk hB.size
 have HB := Aside0.mk hB
 clear hB
 have H : ((some (([] : List (S123)) : List (S123))).bind fun y994 => ((spec_reader_pick.f k s0_0 s0_1 2).bind fun bt997 => (if bt997.1 = 0 then (spec_goodSignature.j0 k y994 1 s0_0 bt997.2) else (spec_goodSignature.j0 k y994 0 s0_0 bt997.2)))) = some (r1, r2) := h
 clear h
 obtain ⟨y994, hy994⟩ : ∃ y_ : List (S123), y_ = (([] : List (S123))) := ⟨_, rfl⟩
 replace H : ((spec_reader_pick.f k s0_0 s0_1 2).bind fun bt997 => (if bt997.1 = 0 then (spec_goodSignature.j0 k y994 1 s0_0 bt997.2) else (spec_goodSignature.j0 k y994 0 s0_0 bt997.2))) = some (r1, r2) := by first | (rw [hy994]; with_reducible exact H) | (have H2_ := (Option.bind_some _ _).symm.trans H; rw [hy994]; with_reducible exact H2_) | (have H2_ := (Option.bind_some _ _).symm.trans H; with_reducible exact H2_) | with_reducible exact H | (rw [hy994]; exact H) | exact H
 have Ny994 := Aside0.mk hy994
 clear hy994
 replace H := Option.bind_eq_some_iff.mp H
 obtain ⟨⟨t997, t998⟩, A20, H⟩ := H
 (try dsimp only at H)
 have A2 := Aside0.mk A20
 clear A20
 have HC3 := Aside0.mk H
 clear H
 go_enter Try.func134, Try.ntmps134
 go_upto_if 11 with (first | ((with_reducible refine gate_dst (N := 2) rfl ?_); refine box_event ?hg (N := 2) ?hd (cs := #[.slice none 0 0]) (t := 71) ?hr ?_; (case hd => rfl); (case hg => rfl); (case hr => first | (go_simp; done) | (go_simp; rfl)); intro gb993 hg w4 hbox hb; replace HB := Aside0.mk (below_step (zj129_94 HB) hb); have BK993 := Aside0.mk (hbox); have GW993 := Aside0.mk ((by rw [hg]; exact (keep_size (w := w) (g := g) (row := none) (zk HK)) : w.heap.size ≤ gb993)); have GE993 := Aside0.mk ((Nat.le_trans HW0.out (by rw [hg]; exact (keep_size (w := w) (g := g) (row := none) (zk HK)) : w.heap.size ≤ gb993) : w0.heap.size ≤ gb993)); replace HK := Aside0.mk (KeepBut.trans (zk HK) (KeepBut.of_below hb g none) (.inl rfl)); have NB0_993 := Aside0.mk ((by rw [hg]; exact Nat.ne_of_lt (IsS129.lt (show IsS129 w0 _ g s0_0 s0_1 from zi129_94 HI0)) : g ≠ gb993)); have NB993_0 := Aside0.mk ((by rw [hg]; exact Nat.ne_of_gt (IsS129.lt (show IsS129 w0 _ g s0_0 s0_1 from zi129_94 HI0)) : gb993 ≠ g)); replace HI0 := Aside0.mk (IsS129.below (zi129_94 HI0) hb); clear hb hbox hg) | ((with_reducible refine gate_dst (N := 8) rfl ?_); refine Kd.R_lit k123 _ 123 ?hg (N := 8) ?hd (xs := ([] : List (S123))) (inner := []) (ok := fun _ => True) (okp := fun _ => True) ?hr ?hp (fun _ hk => hk) trivial (Below.refl _ _) (Nat.le_refl _) (by simp) ?_; (case hd => rfl); (case hg => rfl); (case hr => first | (go_simp; done) | (go_simp; rfl)); (case hp => exact (Reps.none _ _)); intro v995 w5 ho6 hb hg_ hnew_; clear hg_ hnew_; (first | rw [← Ny994.out] at ho6 | (simp only [Int.reduceToNat] at ho6; rw [← Ny994.out] at ho6)); have HO996 := Aside0.mk (Kd.R_lower ho6 (keep_size (w := w) (g := g) (row := none) (zk HK))); replace BK993 := Aside0.mk (blk_below (g := gb993) (o := .cells #[.slice none 0 0] 71 (0, 0)) (zb BK993) hb); replace HK := Aside0.mk (KeepBut.trans (zk HK) (KeepBut.of_below hb g none) (.inl rfl)); replace HB := Aside0.mk (below_step (zj129_94 HB) hb); replace HI0 := Aside0.mk (IsS129.below (zi129_94 HI0) hb); clear hb ho6) | ((with_reducible refine gate_callee (f := 90) rfl ?_); refine goesL_ (some 10) rfl rfl Try.func90 (by kernel_rfl) rfl #[.pointer (some ⟨g, 0, none⟩), .int .i64 2] rfl zl ?_; (with_reducible refine (spec_reader_pick.calls k g s0_0 s0_1 2 t997 t998 w0 _ ?side1 ?side2 A2.out).mono ?_); (case side1 => exact zi129_94 HI0); (case side2 => exact zj129_94 HB); rintro e w7 ⟨rfl, hi, hb, hk⟩; refine ⟨_, rfl, ?_⟩; replace BK993 := Aside0.mk (KeepBut.blk hk (g' := gb993) (o := .cells #[.slice none 0 0] 71 (0, 0)) (zb BK993) NB993_0.out (by simp)); replace HO996 := Aside0.mk (Kd.R_mono (Kd.R_keep (IsS129.apart (show IsS129 w0 _ g s0_0 s0_1 from zi129_94 HI0) (zo HO996) (by decide)) hk (fun _ h => h.2)) (fun _ h => h.1)); replace HK := Aside0.mk (KeepBut.trans (zk HK) hk (.inl rfl)); replace HB := Aside0.mk (hb); replace HI0 := Aside0.mk (hi); (try clear hb); (try clear hb2); (try clear hk); (try clear hi)))
 (try simp only [Act.put, List.setIfInBounds_toArray, List.set_cons_zero, List.set_cons_succ])
 go_cut [4] (fun v4 wc => ∃ (kq : Nat) (x4_2 : Int), v4 = .int .i64 x4_2 ∧ Aside0 (spec_goodSignature.j0 kq y994 x4_2 s0_0 t998 = some (r1, r2)) ∧ Aside0 (kq ≤ k) ∧ Aside0 (Kd.R k123 123 wc w.heap.size (fun _ => True) v995 y994) ∧ Aside0 (wc.heap[gb993]? = some (.cells #[(.slice none 0 0)] 71 (0, 0))) ∧ Aside0 (IsS129 w0 wc g s0_0 t998) ∧ Aside0 (KeepBut w wc g none) ∧ Aside0 (Below w0.heap.size w0 wc))
 case first =>
  have H := HC3.out
  clear HC3
  by_cases c8 : t997 = 0
  ·rw [if_pos c8] at H
   have c8b0 : (t997 == 0) = true := beq_iff_eq.mpr c8
   have c8b1 : (t997 != 0) = false := bne_eq_false_iff_eq.mpr c8
   clear c8
   (first | rw [c8b0] | (simp only [i64_w, i32_w]; rw [c8b0]) | skip)
   have H' := Aside0.mk H
   clear H
   go_wp2
   go_meet
   case rel => exact ⟨_, (1), zr, H', ⟨by first | omega | exact Nat.le_refl _⟩, ⟨zo HO996⟩, ⟨zb BK993⟩, ⟨by repeat (first | (with_reducible first | exact HI0.out | apply IsS129.alloc | apply IsS129.drewN | apply IsS129.drew | apply IsS129.set_1 | refine IsS129.far ?_ NB0_993.out _) | exact HI0.out)⟩, ⟨zk HK⟩, ⟨zj129_94 HB⟩⟩
  ·rw [if_neg c8] at H
   have c8b0 : (t997 == 0) = false := beq_eq_false_iff_ne.mpr c8
   have c8b1 : (t997 != 0) = true := bne_iff_ne.mpr c8
   (first | rw [c8b0] | (simp only [i64_w, i32_w]; rw [c8b0]) | skip)
   have H' := Aside0.mk H
   clear H
   go_wp2
   go_meet
   case rel => exact ⟨_, (0), zr, H', ⟨by first | omega | exact Nat.le_refl _⟩, ⟨zo HO996⟩, ⟨zb BK993⟩, ⟨by repeat (first | (with_reducible first | exact HI0.out | apply IsS129.alloc | apply IsS129.drewN | apply IsS129.drew | apply IsS129.set_1 | refine IsS129.far ?_ NB0_993.out _) | exact HI0.out)⟩, ⟨zk HK⟩, ⟨zj129_94 HB⟩⟩
 case rest =>
  clear HC3
  try clear c1
  try clear p2
  try clear c8
  try clear c8b0
  try clear c8b1
  obtain ⟨kq, x4_2, rfl, HA, HJ2, HO_3, BK993, HI0, HK, HB⟩ := hcut
  cases kq with
  | zero => exact absurd HA.out (by simp [spec_goodSignature.j0])
  | succ kj2 =>
   have H := HA.out
   clear HA
   simp only [spec_goodSignature.j0] at H
   obtain ⟨y999, hy999⟩ : ∃ y_ : List Int, y_ = (([3, 4, 2, 5, 1, 0, 6, 8] : List Int)) := ⟨_, rfl⟩
   replace H : ((spec_reader_one.f kj2 s0_0 t998 y999).bind fun bt1002 => (spec_goodSignature.l0 kj2 y994 x4_2 bt1002.1 s0_0 bt1002.2)) = some (r1, r2) := by first | (rw [hy999]; with_reducible exact H) | (have H2_ := (Option.bind_some _ _).symm.trans H; rw [hy999]; with_reducible exact H2_) | (have H2_ := (Option.bind_some _ _).symm.trans H; with_reducible exact H2_) | with_reducible exact H | (rw [hy999]; exact H) | exact H
   have Ny999 := Aside0.mk hy999
   clear hy999
   replace H := Option.bind_eq_some_iff.mp H
   obtain ⟨⟨t1002, t1003⟩, A90, H⟩ := H
   (try dsimp only at H)
   have A9 := Aside0.mk A90
   clear A90
   have H' := Aside0.mk H
   clear H
   go_wp2_with (first | ((with_reducible refine gate_dst (N := 13) rfl ?_); refine Kd.R_lit (Kd.int .i64) _ 3 ?hg (N := 13) ?hd (xs := ([3, 4, 2, 5, 1, 0, 6, 8] : List Int)) (inner := [.int .i64 3, .int .i64 4, .int .i64 2, .int .i64 5, .int .i64 1, .int .i64 0, .int .i64 6, .int .i64 8]) (ok := fun _ => True) (okp := fun _ => True) ?hr ?hp (fun _ hk => hk) trivial (Below.refl _ _) (Nat.le_refl _) (by simp) ?_; (case hd => rfl); (case hg => rfl); (case hr => first | (go_simp; done) | (go_simp; rfl)); (case hp => exact (Reps.one (show Kd.M (Kd.int .i64) _ _ _ 3 [.int .i64 3] from rfl) (Reps.one (show Kd.M (Kd.int .i64) _ _ _ 4 [.int .i64 4] from rfl) (Reps.one (show Kd.M (Kd.int .i64) _ _ _ 2 [.int .i64 2] from rfl) (Reps.one (show Kd.M (Kd.int .i64) _ _ _ 5 [.int .i64 5] from rfl) (Reps.one (show Kd.M (Kd.int .i64) _ _ _ 1 [.int .i64 1] from rfl) (Reps.one (show Kd.M (Kd.int .i64) _ _ _ 0 [.int .i64 0] from rfl) (Reps.one (show Kd.M (Kd.int .i64) _ _ _ 6 [.int .i64 6] from rfl) (Reps.one (show Kd.M (Kd.int .i64) _ _ _ 8 [.int .i64 8] from rfl) (Reps.none _ _)))))))))); intro v1000 w10 ho11 hb hg_ hnew_; clear hg_ hnew_; (first | rw [← Ny999.out] at ho11 | (simp only [Int.reduceToNat] at ho11; rw [← Ny999.out] at ho11)); replace HO_3 := Aside0.mk (Kd.R_below (zo HO_3) hb); have HO1001 := Aside0.mk (Kd.R_lower ho11 (keep_size (w := w) (g := g) (row := none) (zk HK))); replace BK993 := Aside0.mk (blk_below (g := gb993) (o := .cells #[.slice none 0 0] 71 (0, 0)) (zb BK993) hb); replace HK := Aside0.mk (KeepBut.trans (zk HK) (KeepBut.of_below hb g none) (.inl rfl)); replace HB := Aside0.mk (below_step (zj129_94 HB) hb); replace HI0 := Aside0.mk (IsS129.below (zi129_94 HI0) hb); clear hb ho11; obtain ⟨Ao12, co12, eo12⟩ := Kd.R_slice HO1001.out; subst eo12) | ((with_reducible refine gate_callee (f := 111) rfl ?_); refine goesL_ (some 14) rfl rfl Try.func111 (by kernel_rfl) rfl #[.pointer (some ⟨g, 0, none⟩), .slice Ao12 y999.length co12] rfl zl ?_; (with_reducible refine (spec_reader_one.calls kj2 g s0_0 t998 _ _ y999 t1002 t1003 w0 _ ?side1 ?side2 ?side3 ?side4 ?side5 A9.out).mono ?_); (case side1 => exact zi129_94 HI0); (case side2 => exact zj129_94 HB); (case side3 => repeat (first | exact (Kd.R_reads' HO1001.out).2.2 | (with_reducible refine Kd.C_alloc ?_ _) | (with_reducible refine Kd.C_drewN ?_ _) | (with_reducible refine Kd.C_drew ?_))); (case side4 => exact (Kd.R_reads' HO1001.out).2.1); (case side5 => exact far_slice (IsS129.own_ne HI0.out HO1001.out (by decide))); rintro e w13 ⟨rfl, hi, hb, hk⟩; refine ⟨_, rfl, ?_⟩; replace HO_3 := Aside0.mk (Kd.R_mono (Kd.R_keep (IsS129.apart (show IsS129 w0 _ g s0_0 t998 from zi129_94 HI0) (zo HO_3) (by decide)) hk (fun _ h => h.2)) (fun _ h => h.1)); replace BK993 := Aside0.mk (KeepBut.blk hk (g' := gb993) (o := .cells #[.slice none 0 0] 71 (0, 0)) (zb BK993) NB993_0.out (by simp)); replace HO1001 := Aside0.mk (Kd.R_mono (Kd.R_keep (IsS129.apart (show IsS129 w0 _ g s0_0 t998 from zi129_94 HI0) (zo HO1001) (by decide)) hk (fun _ h => h.2)) (fun _ h => h.1)); replace HK := Aside0.mk (KeepBut.trans (zk HK) hk (.inl rfl)); replace HB := Aside0.mk (hb); replace HI0 := Aside0.mk (hi); (try clear hb); (try clear hb2); (try clear hk); (try clear hi)))
   go_loopg [3, 4, 5] kj2 (fun kq v3 v4 v5 w' => ∃ (x3_2 : List (S123)) (x4_2 : Int) (x5_2 : Int) (x1001_2 : Int), v4 = .int .i64 x4_2 ∧ v5 = .int .i64 x5_2 ∧ Aside0 (spec_goodSignature.l0 kq x3_2 x4_2 x5_2 s0_0 x1001_2 = some (r1, r2)) ∧ Aside0 (kq ≤ kj2) ∧ Aside0 (Kd.R k123 123 w' w.heap.size (fun _ => True) v3 x3_2) ∧ Aside0 (w'.heap[gb993]? = some (.cells #[(.slice none 0 0)] 71 (0, 0))) ∧ Aside0 (IsS129 w0 w' g s0_0 x1001_2) ∧ Aside0 (KeepBut w w' g none) ∧ Aside0 (Below w0.heap.size w0 w'))
   case atStart => exact ⟨(y994), (x4_2), (t1002), (t1003), zr, zr, H', ⟨Nat.le_refl _⟩, ⟨zo HO_3⟩, ⟨zb BK993⟩, ⟨by repeat (first | (with_reducible first | exact HI0.out | apply IsS129.alloc | apply IsS129.drewN | apply IsS129.drew | apply IsS129.set_1 | refine IsS129.far ?_ NB0_993.out _) | exact HI0.out)⟩, ⟨zk HK⟩, ⟨zj129_94 HB⟩⟩
   case round =>
    clear H'
    try clear c1
    try clear p2
    try clear c8
    try clear c8b0
    try clear c8b1
    try clear c9
    try clear c11
    try clear c13
    try clear p2
    obtain ⟨x3_2, x4_2, x5_2, x1001_2, rfl, rfl, HA, HK2, HO_3, BK993, HI0, HK, HB⟩ := hrel
    cases gk with
    | zero => exact absurd HA.out (by simp [spec_goodSignature.l0])
    | succ k2 =>
     have H := HA.out
     clear HA
     simp only [spec_goodSignature.l0] at H
     by_cases c14 : x5_2 > 0
     ·rw [if_pos c14] at H
      have c14b0 : decide (0 < x5_2) = true := decide_eq_true c14
      clear c14
      have HC15 := Aside0.mk H
      clear H
      go_upto_region 8 with (fail)
      go_cut [25] (fun v25 wc => ∃ (kq : Nat) (x25_14 : Bool) (x1001_14 : Int), v25 = .bool x25_14 ∧ Aside0 (spec_goodSignature.j2 kq x3_2 x4_2 x5_2 x25_14 s0_0 x1001_14 = some (r1, r2)) ∧ Aside0 (kq ≤ k2) ∧ Aside0 (Kd.R k123 123 wc w.heap.size (fun _ => True) u3 x3_2) ∧ Aside0 (wc.heap[gb993]? = some (.cells #[(.slice none 0 0)] 71 (0, 0))) ∧ Aside0 (IsS129 w0 wc g s0_0 x1001_14) ∧ Aside0 (KeepBut w wc g none) ∧ Aside0 (Below w0.heap.size w0 wc))
      case first =>
       have H := HC15.out
       clear HC15
       replace H := Option.bind_eq_some_iff.mp H
       obtain ⟨⟨t1004, t1005⟩, A160, H⟩ := H
       (try dsimp only at H)
       have A16 := Aside0.mk A160
       clear A160
       by_cases c17 : t1004 = 0
       ·rw [if_pos c17] at H
        have c17b0 : (t1004 == 0) = true := beq_iff_eq.mpr c17
        have c17b1 : (t1004 != 0) = false := bne_eq_false_iff_eq.mpr c17
        clear c17
        (first | rw [c17b0] | (simp only [i64_w, i32_w]; rw [c17b0]) | skip)
        have H' := Aside0.mk H
        clear H
        go_wp2_with (first | ((with_reducible refine gate_callee (f := 90) rfl ?_); refine goesL_ (some 20) rfl rfl Try.func90 (by kernel_rfl) rfl #[.pointer (some ⟨g, 0, none⟩), .int .i64 3] rfl zl ?_; (with_reducible refine (spec_reader_pick.calls k2 g s0_0 x1001_2 3 t1004 t1005 w0 _ ?side1 ?side2 A16.out).mono ?_); (case side1 => exact zi129_94 HI0); (case side2 => exact zj129_94 HB); rintro e w18 ⟨rfl, hi, hb, hk⟩; refine ⟨_, rfl, ?_⟩; replace HO_3 := Aside0.mk (Kd.R_mono (Kd.R_keep (IsS129.apart (show IsS129 w0 _ g s0_0 x1001_2 from zi129_94 HI0) (zo HO_3) (by decide)) hk (fun _ h => h.2)) (fun _ h => h.1)); replace BK993 := Aside0.mk (KeepBut.blk hk (g' := gb993) (o := .cells #[.slice none 0 0] 71 (0, 0)) (zb BK993) NB993_0.out (by simp)); replace HK := Aside0.mk (KeepBut.trans (zk HK) hk (.inl rfl)); replace HB := Aside0.mk (hb); replace HI0 := Aside0.mk (hi); (try clear hb); (try clear hb2); (try clear hk); (try clear hi)))
        go_meet
        case rel => exact ⟨_, (decide (x4_2 < 4)), (t1005), zr, H', ⟨by have := HJ2.out; have := HK2.out; first | omega | exact Nat.le_refl _⟩, ⟨zo HO_3⟩, ⟨zb BK993⟩, ⟨by repeat (first | (with_reducible first | exact HI0.out | apply IsS129.alloc | apply IsS129.drewN | apply IsS129.drew | apply IsS129.set_1 | refine IsS129.far ?_ NB0_993.out _) | exact HI0.out)⟩, ⟨zk HK⟩, ⟨zj129_94 HB⟩⟩
       ·rw [if_neg c17] at H
        have c17b0 : (t1004 == 0) = false := beq_eq_false_iff_ne.mpr c17
        have c17b1 : (t1004 != 0) = true := bne_iff_ne.mpr c17
        (first | rw [c17b0] | (simp only [i64_w, i32_w]; rw [c17b0]) | skip)
        have H' := Aside0.mk H
        clear H
        go_wp2_with (first | ((with_reducible refine gate_callee (f := 90) rfl ?_); refine goesL_ (some 20) rfl rfl Try.func90 (by kernel_rfl) rfl #[.pointer (some ⟨g, 0, none⟩), .int .i64 3] rfl zl ?_; (with_reducible refine (spec_reader_pick.calls k2 g s0_0 x1001_2 3 t1004 t1005 w0 _ ?side1 ?side2 A16.out).mono ?_); (case side1 => exact zi129_94 HI0); (case side2 => exact zj129_94 HB); rintro e w19 ⟨rfl, hi, hb, hk⟩; refine ⟨_, rfl, ?_⟩; replace HO_3 := Aside0.mk (Kd.R_mono (Kd.R_keep (IsS129.apart (show IsS129 w0 _ g s0_0 x1001_2 from zi129_94 HI0) (zo HO_3) (by decide)) hk (fun _ h => h.2)) (fun _ h => h.1)); replace BK993 := Aside0.mk (KeepBut.blk hk (g' := gb993) (o := .cells #[.slice none 0 0] 71 (0, 0)) (zb BK993) NB993_0.out (by simp)); replace HK := Aside0.mk (KeepBut.trans (zk HK) hk (.inl rfl)); replace HB := Aside0.mk (hb); replace HI0 := Aside0.mk (hi); (try clear hb); (try clear hb2); (try clear hk); (try clear hi)))
        go_meet
        case rel => exact ⟨_, (false), (t1005), zr, H', ⟨by have := HJ2.out; have := HK2.out; first | omega | exact Nat.le_refl _⟩, ⟨zo HO_3⟩, ⟨zb BK993⟩, ⟨by repeat (first | (with_reducible first | exact HI0.out | apply IsS129.alloc | apply IsS129.drewN | apply IsS129.drew | apply IsS129.set_1 | refine IsS129.far ?_ NB0_993.out _) | exact HI0.out)⟩, ⟨zk HK⟩, ⟨zj129_94 HB⟩⟩
      case rest =>
       clear HC15
       try clear c1
       try clear p2
       try clear c8
       try clear c8b0
       try clear c8b1
       try clear c9
       try clear c11
       try clear c13
       try clear c14
       try clear c14b0
       try clear c17
       try clear c17b0
       try clear c17b1
       try clear p2
       obtain ⟨kq, x25_14, x1001_14, rfl, HA, HJ14, HO_3, BK993, HI0, HK, HB⟩ := hcut
       cases kq with
       | zero => exact absurd HA.out (by simp [spec_goodSignature.j2])
       | succ kj14 =>
        have H := HA.out
        clear HA
        simp only [spec_goodSignature.j2] at H
        have HC20 := Aside0.mk H
        clear H
        go_upto_if 25 with (fail)
        go_cut [4] (fun v4 wc => ∃ (kq : Nat) (x4_19 : Int) (x1001_19 : Int), v4 = .int .i64 x4_19 ∧ Aside0 (spec_goodSignature.j3 kq x3_2 x4_19 x5_2 s0_0 x1001_19 = some (r1, r2)) ∧ Aside0 (kq ≤ kj14) ∧ Aside0 (Kd.R k123 123 wc w.heap.size (fun _ => True) u3 x3_2) ∧ Aside0 (wc.heap[gb993]? = some (.cells #[(.slice none 0 0)] 71 (0, 0))) ∧ Aside0 (IsS129 w0 wc g s0_0 x1001_19) ∧ Aside0 (KeepBut w wc g none) ∧ Aside0 (Below w0.heap.size w0 wc))
        case first =>
         have H := HC20.out
         clear HC20
         by_cases c21 : x25_14 = true
         ·subst c21
          rw [if_pos rfl] at H
          replace H := Option.bind_eq_some_iff.mp H
          obtain ⟨⟨t1006, t1007⟩, A220, H⟩ := H
          (try dsimp only at H)
          have A22 := Aside0.mk A220
          clear A220
          have H' := Aside0.mk H
          clear H
          go_wp2_with (first | ((with_reducible refine gate_callee (f := 90) rfl ?_); refine goesL_ (some 31) rfl rfl Try.func90 (by kernel_rfl) rfl #[.pointer (some ⟨g, 0, none⟩), .int .i64 (wrap64 (4 - x4_2))] rfl zl ?_; (with_reducible refine (spec_reader_pick.calls kj14 g s0_0 x1001_14 (wrap64 (4 - x4_2)) t1006 t1007 w0 _ ?side1 ?side2 A22.out).mono ?_); (case side1 => exact zi129_94 HI0); (case side2 => exact zj129_94 HB); rintro e w23 ⟨rfl, hi, hb, hk⟩; refine ⟨_, rfl, ?_⟩; replace HO_3 := Aside0.mk (Kd.R_mono (Kd.R_keep (IsS129.apart (show IsS129 w0 _ g s0_0 x1001_14 from zi129_94 HI0) (zo HO_3) (by decide)) hk (fun _ h => h.2)) (fun _ h => h.1)); replace BK993 := Aside0.mk (KeepBut.blk hk (g' := gb993) (o := .cells #[.slice none 0 0] 71 (0, 0)) (zb BK993) NB993_0.out (by simp)); replace HK := Aside0.mk (KeepBut.trans (zk HK) hk (.inl rfl)); replace HB := Aside0.mk (hb); replace HI0 := Aside0.mk (hi); (try clear hb); (try clear hb2); (try clear hk); (try clear hi)))
          go_meet
          case rel => exact ⟨_, (wrap64 ((wrap64 (x4_2 + 1)) + t1006)), (t1007), zr, H', ⟨by have := HJ2.out; have := HK2.out; have := HJ14.out; first | omega | exact Nat.le_refl _⟩, ⟨zo HO_3⟩, ⟨zb BK993⟩, ⟨by repeat (first | (with_reducible first | exact HI0.out | apply IsS129.alloc | apply IsS129.drewN | apply IsS129.drew | apply IsS129.set_1 | refine IsS129.far ?_ NB0_993.out _) | exact HI0.out)⟩, ⟨zk HK⟩, ⟨zj129_94 HB⟩⟩
         ·replace c21 := Bool.eq_false_iff.mpr c21
          subst c21
          rw [if_neg (show ¬ (false = true) by decide)] at H
          have H' := Aside0.mk H
          clear H
          go_wp2
          go_meet
          case rel => exact ⟨_, (x4_2), (x1001_14), zr, H', ⟨by have := HJ2.out; have := HK2.out; have := HJ14.out; first | omega | exact Nat.le_refl _⟩, ⟨zo HO_3⟩, ⟨zb BK993⟩, ⟨by repeat (first | (with_reducible first | exact HI0.out | apply IsS129.alloc | apply IsS129.drewN | apply IsS129.drew | apply IsS129.set_1 | refine IsS129.far ?_ NB0_993.out _) | exact HI0.out)⟩, ⟨zk HK⟩, ⟨zj129_94 HB⟩⟩
        case rest =>
         clear HC20
         try clear c1
         try clear c2
         try clear p2
         try clear p6
         try clear c8
         try clear c8b0
         try clear c8b1
         try clear c9
         try clear c11
         try clear c13
         try clear c14
         try clear c14b0
         try clear c17
         try clear c17b0
         try clear c17b1
         try clear c21
         try clear p2
         obtain ⟨kq, x4_19, x1001_19, rfl, HA, HJ19, HO_3, BK993, HI0, HK, HB⟩ := hcut
         cases kq with
         | zero => exact absurd HA.out (by simp [spec_goodSignature.j3])
         | succ kj19 =>
          have H := HA.out
          clear HA
          simp only [spec_goodSignature.j3] at H
          obtain ⟨y1008, hy1008⟩ : ∃ y_ : List ByteArray, y_ = (([(⟨#[97]⟩ : ByteArray), (⟨#[98]⟩ : ByteArray), (⟨#[99]⟩ : ByteArray), (⟨#[100]⟩ : ByteArray), (⟨#[120]⟩ : ByteArray), (⟨#[121]⟩ : ByteArray), (⟨#[112]⟩ : ByteArray), (⟨#[113]⟩ : ByteArray), (⟨#[97, 114, 103, 115]⟩ : ByteArray), (⟨#[107, 119]⟩ : ByteArray)] : List ByteArray)) := ⟨_, rfl⟩
          replace H : ((spec_reader_of.f kj19 s0_0 x1001_19 y1008).bind fun bt1011 => ((spec_reader_pick.f kj19 s0_0 bt1011.2 3).bind fun bt1014 => (if bt1014.1 = 0 then ((spec_isSingle.f bt1011.1 x4_19 false 0).bind fun t1016 => (spec_goodSignature.j4 kj19 x3_2 x4_19 x5_2 t1016 s0_0 bt1014.2 bt1011.1 x4_19 false 0)) else (spec_goodSignature.j4 kj19 x3_2 x4_19 x5_2 false s0_0 bt1014.2 bt1011.1 x4_19 false 0)))) = some (r1, r2) := by first | (rw [hy1008]; with_reducible exact H) | (have H2_ := (Option.bind_some _ _).symm.trans H; rw [hy1008]; with_reducible exact H2_) | (have H2_ := (Option.bind_some _ _).symm.trans H; with_reducible exact H2_) | with_reducible exact H | (rw [hy1008]; exact H) | exact H
          have Ny1008 := Aside0.mk hy1008
          clear hy1008
          replace H := Option.bind_eq_some_iff.mp H
          obtain ⟨⟨t1011, t1012⟩, A240, H⟩ := H
          (try dsimp only at H)
          have A24 := Aside0.mk A240
          clear A240
          have HC25 := Aside0.mk H
          clear H
          go_upto_region 11 with (first | ((with_reducible refine gate_dst (N := 34) rfl ?_); refine Kd.R_lit Kd.string _ 9 ?hg (N := 34) ?hd (xs := ([(⟨#[97]⟩ : ByteArray), (⟨#[98]⟩ : ByteArray), (⟨#[99]⟩ : ByteArray), (⟨#[100]⟩ : ByteArray), (⟨#[120]⟩ : ByteArray), (⟨#[121]⟩ : ByteArray), (⟨#[112]⟩ : ByteArray), (⟨#[113]⟩ : ByteArray), (⟨#[97, 114, 103, 115]⟩ : ByteArray), (⟨#[107, 119]⟩ : ByteArray)] : List ByteArray)) (inner := [.string (⟨#[97]⟩ : ByteArray), .string (⟨#[98]⟩ : ByteArray), .string (⟨#[99]⟩ : ByteArray), .string (⟨#[100]⟩ : ByteArray), .string (⟨#[120]⟩ : ByteArray), .string (⟨#[121]⟩ : ByteArray), .string (⟨#[112]⟩ : ByteArray), .string (⟨#[113]⟩ : ByteArray), .string (⟨#[97, 114, 103, 115]⟩ : ByteArray), .string (⟨#[107, 119]⟩ : ByteArray)]) (ok := fun _ => True) (okp := fun _ => True) ?hr ?hp (fun _ hk => hk) trivial (Below.refl _ _) (Nat.le_refl _) (by simp) ?_; (case hd => rfl); (case hg => rfl); (case hr => first | (go_simp; done) | (go_simp; rfl)); (case hp => exact (Reps.one (show Kd.M Kd.string _ _ _ (⟨#[97]⟩ : ByteArray) [.string (⟨#[97]⟩ : ByteArray)] from rfl) (Reps.one (show Kd.M Kd.string _ _ _ (⟨#[98]⟩ : ByteArray) [.string (⟨#[98]⟩ : ByteArray)] from rfl) (Reps.one (show Kd.M Kd.string _ _ _ (⟨#[99]⟩ : ByteArray) [.string (⟨#[99]⟩ : ByteArray)] from rfl) (Reps.one (show Kd.M Kd.string _ _ _ (⟨#[100]⟩ : ByteArray) [.string (⟨#[100]⟩ : ByteArray)] from rfl) (Reps.one (show Kd.M Kd.string _ _ _ (⟨#[120]⟩ : ByteArray) [.string (⟨#[120]⟩ : ByteArray)] from rfl) (Reps.one (show Kd.M Kd.string _ _ _ (⟨#[121]⟩ : ByteArray) [.string (⟨#[121]⟩ : ByteArray)] from rfl) (Reps.one (show Kd.M Kd.string _ _ _ (⟨#[112]⟩ : ByteArray) [.string (⟨#[112]⟩ : ByteArray)] from rfl) (Reps.one (show Kd.M Kd.string _ _ _ (⟨#[113]⟩ : ByteArray) [.string (⟨#[113]⟩ : ByteArray)] from rfl) (Reps.one (show Kd.M Kd.string _ _ _ (⟨#[97, 114, 103, 115]⟩ : ByteArray) [.string (⟨#[97, 114, 103, 115]⟩ : ByteArray)] from rfl) (Reps.one (show Kd.M Kd.string _ _ _ (⟨#[107, 119]⟩ : ByteArray) [.string (⟨#[107, 119]⟩ : ByteArray)] from rfl) (Reps.none _ _)))))))))))); intro v1009 w26 ho27 hb hg_ hnew_; clear hg_ hnew_; (first | rw [← Ny1008.out] at ho27 | (simp only [Int.reduceToNat] at ho27; rw [← Ny1008.out] at ho27)); replace HO_3 := Aside0.mk (Kd.R_below (zo HO_3) hb); have HO1010 := Aside0.mk (Kd.R_lower ho27 (keep_size (w := w) (g := g) (row := none) (zk HK))); replace BK993 := Aside0.mk (blk_below (g := gb993) (o := .cells #[.slice none 0 0] 71 (0, 0)) (zb BK993) hb); replace HK := Aside0.mk (KeepBut.trans (zk HK) (KeepBut.of_below hb g none) (.inl rfl)); replace HB := Aside0.mk (below_step (zj129_94 HB) hb); replace HI0 := Aside0.mk (IsS129.below (zi129_94 HI0) hb); clear hb ho27; obtain ⟨Ao28, co28, eo28⟩ := Kd.R_slice HO1010.out; subst eo28) | ((with_reducible refine gate_callee (f := 141) rfl ?_); refine goesL_ (some 35) rfl rfl Try.func141 (by kernel_rfl) rfl #[.pointer (some ⟨g, 0, none⟩), .slice Ao28 y1008.length co28] rfl zl ?_; (with_reducible refine (spec_reader_of.calls kj19 g s0_0 x1001_19 _ _ y1008 t1011 t1012 w0 _ ?side1 ?side2 ?side3 ?side4 ?side5 A24.out).mono ?_); (case side1 => exact zi129_94 HI0); (case side2 => exact zj129_94 HB); (case side3 => repeat (first | exact (Kd.R_reads' HO1010.out).2.2 | (with_reducible refine Kd.C_alloc ?_ _) | (with_reducible refine Kd.C_drewN ?_ _) | (with_reducible refine Kd.C_drew ?_))); (case side4 => exact (Kd.R_reads' HO1010.out).2.1); (case side5 => exact far_slice (IsS129.own_ne HI0.out HO1010.out (by decide))); rintro e w29 ⟨rfl, hi, hb, hk⟩; refine ⟨_, rfl, ?_⟩; replace HO_3 := Aside0.mk (Kd.R_mono (Kd.R_keep (IsS129.apart (show IsS129 w0 _ g s0_0 x1001_19 from zi129_94 HI0) (zo HO_3) (by decide)) hk (fun _ h => h.2)) (fun _ h => h.1)); replace BK993 := Aside0.mk (KeepBut.blk hk (g' := gb993) (o := .cells #[.slice none 0 0] 71 (0, 0)) (zb BK993) NB993_0.out (by simp)); replace HO1010 := Aside0.mk (Kd.R_mono (Kd.R_keep (IsS129.apart (show IsS129 w0 _ g s0_0 x1001_19 from zi129_94 HI0) (zo HO1010) (by decide)) hk (fun _ h => h.2)) (fun _ h => h.1)); replace HK := Aside0.mk (KeepBut.trans (zk HK) hk (.inl rfl)); replace HB := Aside0.mk (hb); replace HI0 := Aside0.mk (hi); (try clear hb); (try clear hb2); (try clear hk); (try clear hi)) | ((with_reducible refine gate_dst (N := 6) rfl ?_); refine box_event ?hg (N := 6) ?hd (cs := #[.string (⟨#[]⟩ : ByteArray), .int .i64 0, .bool false, .int .i64 0]) (t := 123) ?hr ?_; (case hd => rfl); (case hg => rfl); (case hr => first | (go_simp; done) | (go_simp; rfl)); intro gb1013 hg w30 hbox hb; replace HO_3 := Aside0.mk (Kd.R_below (Kd.R_elderB (zo HO_3) gb1013 (Nat.le_of_eq hg.symm)) hb); replace HO1010 := Aside0.mk (Kd.R_below (zo HO1010) hb); replace HB := Aside0.mk (below_step (zj129_94 HB) hb); have BK1013 := Aside0.mk (hbox); have GW1013 := Aside0.mk ((by rw [hg]; exact (keep_size (w := w) (g := g) (row := none) (zk HK)) : w.heap.size ≤ gb1013)); have GE1013 := Aside0.mk ((Nat.le_trans HW0.out (by rw [hg]; exact (keep_size (w := w) (g := g) (row := none) (zk HK)) : w.heap.size ≤ gb1013) : w0.heap.size ≤ gb1013)); replace HK := Aside0.mk (KeepBut.trans (zk HK) (KeepBut.of_below hb g none) (.inl rfl)); have NB993_1013 := Aside0.mk ((by rw [hg]; exact Nat.ne_of_lt (blk_lt (g := gb993) (o := .cells #[.slice none 0 0] 71 (0, 0)) (zb BK993)) : gb993 ≠ gb1013)); have NB1013_993 := Aside0.mk ((by rw [hg]; exact Nat.ne_of_gt (blk_lt (g := gb993) (o := .cells #[.slice none 0 0] 71 (0, 0)) (zb BK993)) : gb1013 ≠ gb993)); replace BK993 := Aside0.mk (blk_below (g := gb993) (o := .cells #[.slice none 0 0] 71 (0, 0)) (zb BK993) hb); have NB0_1013 := Aside0.mk ((by rw [hg]; exact Nat.ne_of_lt (IsS129.lt (show IsS129 w0 _ g s0_0 t1012 from zi129_94 HI0)) : g ≠ gb1013)); have NB1013_0 := Aside0.mk ((by rw [hg]; exact Nat.ne_of_gt (IsS129.lt (show IsS129 w0 _ g s0_0 t1012 from zi129_94 HI0)) : gb1013 ≠ g)); replace HI0 := Aside0.mk (IsS129.below (zi129_94 HI0) hb); clear hb hbox hg; have hnb31 := NB1013_993.out; have hnc31 := NB993_1013.out; have hnb32 := NB1013_0.out; have hnc32 := NB0_1013.out; have hcz33_0 : w30.cell? ⟨gb1013, 0, none⟩ = some (.string (⟨#[]⟩ : ByteArray)) := (blk_cell BK1013.out 0).trans rfl; have hcz33_1 : w30.cell? ⟨gb1013, 1, none⟩ = some (.int .i64 0) := (blk_cell BK1013.out 1).trans rfl; have hcz33_2 : w30.cell? ⟨gb1013, 2, none⟩ = some (.bool false) := (blk_cell BK1013.out 2).trans rfl; have hcz33_3 : w30.cell? ⟨gb1013, 3, none⟩ = some (.int .i64 0) := (blk_cell BK1013.out 3).trans rfl; have hfz33_0 := blk_frozen BK1013.out 0; have hfz33_1 := blk_frozen BK1013.out 1; have hfz33_2 := blk_frozen BK1013.out 2; have hfz33_3 := blk_frozen BK1013.out 3))
          (try simp only [Act.put, List.setIfInBounds_toArray, List.set_cons_zero, List.set_cons_succ])
          go_cut [44] (fun v44 wc => ∃ (kq : Nat) (x44_24 : Bool) (x1001_24 : Int), v44 = .bool x44_24 ∧ Aside0 (spec_goodSignature.j4 kq x3_2 x4_19 x5_2 x44_24 s0_0 x1001_24 t1011 x4_19 false 0 = some (r1, r2)) ∧ Aside0 (kq ≤ kj19) ∧ Aside0 (Kd.R k123 123 wc w.heap.size (fun k_ => k_ ≠ gb1013) u3 x3_2) ∧ Aside0 (wc.heap[gb993]? = some (.cells #[(.slice none 0 0)] 71 (0, 0))) ∧ Aside0 (wc.heap[gb1013]? = some (.cells #[.string t1011, .int .i64 x4_19, .bool false, .int .i64 0] 123 (0, 0))) ∧ Aside0 (IsS129 w0 wc g s0_0 x1001_24) ∧ Aside0 (KeepBut w wc g none) ∧ Aside0 (Below w0.heap.size w0 wc))
          case first =>
           have H := HC25.out
           clear HC25
           replace H := Option.bind_eq_some_iff.mp H
           obtain ⟨⟨t1014, t1015⟩, A340, H⟩ := H
           (try dsimp only at H)
           have A34 := Aside0.mk A340
           clear A340
           by_cases c35 : t1014 = 0
           ·rw [if_pos c35] at H
            have c35b0 : (t1014 == 0) = true := beq_iff_eq.mpr c35
            have c35b1 : (t1014 != 0) = false := bne_eq_false_iff_eq.mpr c35
            clear c35
            (first | rw [c35b0] | (simp only [i64_w, i32_w]; rw [c35b0]) | skip)
            replace H := Option.bind_eq_some_iff.mp H
            obtain ⟨t1016, A360, H⟩ := H
            (try dsimp only at H)
            have A36 := Aside0.mk A360
            clear A360
            have H' := Aside0.mk H
            clear H
            go_wp2_with (first | ((with_reducible refine gate_callee (f := 90) rfl ?_); refine goesL_ (some 39) rfl rfl Try.func90 (by kernel_rfl) rfl #[.pointer (some ⟨g, 0, none⟩), .int .i64 3] rfl zl ?_; (with_reducible refine (spec_reader_pick.calls kj19 g s0_0 t1012 3 t1014 t1015 w0 _ ?side1 ?side2 A34.out).mono ?_); (case side1 => exact zi129_94 HI0); (case side2 => exact zj129_94 HB); rintro e w37 ⟨rfl, hi, hb, hk⟩; refine ⟨_, rfl, ?_⟩; replace HO_3 := Aside0.mk (Kd.R_mono (Kd.R_keep (IsS129.apart (show IsS129 w0 _ g s0_0 t1012 from zi129_94 HI0) (by (with_reducible repeat (first | apply Kd.R_alloc | apply Kd.R_drewN | apply Kd.R_drew)); exact (Kd.R_mono (Kd.R_far (p := ⟨gb1013, 3, none⟩) (Kd.R_far (p := ⟨gb1013, 2, none⟩) (Kd.R_far (p := ⟨gb1013, 1, none⟩) (Kd.R_far (p := ⟨gb1013, 0, none⟩) (Kd.R_mono HO_3.out (fun k_ hk => (⟨hk, hk.2⟩ : _ ∧ k_ ≠ gb1013))) (fun _ hk => hk.2) (.string t1011)) (fun _ hk => hk.2) (.int .i64 x4_19)) (fun _ hk => hk.2) (.bool false)) (fun _ hk => hk.2) (.int .i64 0)) (fun _ h_ => h_.1))) (by decide)) hk (fun _ h => h.2)) (fun _ h => h.1)); replace BK993 := Aside0.mk (KeepBut.blk hk (g' := gb993) (o := .cells #[.slice none 0 0] 71 (0, 0)) (zf BK993) NB993_0.out (by simp)); replace HO1010 := Aside0.mk (Kd.R_mono (Kd.R_keep (IsS129.apart (show IsS129 w0 _ g s0_0 t1012 from zi129_94 HI0) (by (with_reducible repeat (first | apply Kd.R_alloc | apply Kd.R_drewN | apply Kd.R_drew)); exact (Kd.R_mono (Kd.R_far (p := ⟨gb1013, 3, none⟩) (Kd.R_far (p := ⟨gb1013, 2, none⟩) (Kd.R_far (p := ⟨gb1013, 1, none⟩) (Kd.R_far (p := ⟨gb1013, 0, none⟩) (Kd.R_types HO1010.out BK1013.out (by decide)) (fun _ hk => hk.2) (.string t1011)) (fun _ hk => hk.2) (.int .i64 x4_19)) (fun _ hk => hk.2) (.bool false)) (fun _ hk => hk.2) (.int .i64 0)) (fun _ h_ => h_.1))) (by decide)) hk (fun _ h => h.2)) (fun _ h => h.1)); replace BK1013 := Aside0.mk (KeepBut.blk hk (g' := gb1013) (o := .cells #[.string t1011, .int .i64 x4_19, .bool false, .int .i64 0] 123 (0, 0)) (by (with_reducible repeat (first | refine blk_drewN ?_ _ | refine blk_drew ?_ | refine blk_alloc ?_ _)); refine blk_put (cs := #[.string t1011, .int .i64 x4_19, .bool false, .int .i64 0]) ?_ 3 _ rfl; (with_reducible repeat (first | refine blk_drewN ?_ _ | refine blk_drew ?_ | refine blk_alloc ?_ _)); refine blk_put (cs := #[.string t1011, .int .i64 x4_19, .bool false, .int .i64 0]) ?_ 2 _ rfl; (with_reducible repeat (first | refine blk_drewN ?_ _ | refine blk_drew ?_ | refine blk_alloc ?_ _)); refine blk_put (cs := #[.string t1011, .int .i64 0, .bool false, .int .i64 0]) ?_ 1 _ rfl; (with_reducible repeat (first | refine blk_drewN ?_ _ | refine blk_drew ?_ | refine blk_alloc ?_ _)); refine blk_put (cs := #[.string (⟨#[]⟩ : ByteArray), .int .i64 0, .bool false, .int .i64 0]) ?_ 0 _ rfl; (with_reducible repeat (first | refine blk_drewN ?_ _ | refine blk_drew ?_ | refine blk_alloc ?_ _)); exact BK1013.out) NB1013_0.out (by simp)); replace HK := Aside0.mk (KeepBut.trans (zk HK) hk (.inl rfl)); replace HB := Aside0.mk (hb); replace HI0 := Aside0.mk (hi); (try clear hb); (try clear hb2); (try clear hk); (try clear hi); have hnb38 := NB1013_993.out; have hnc38 := NB993_1013.out; have hnb39 := NB1013_0.out; have hnc39 := NB0_1013.out; have hcz40_0 : w37.cell? ⟨gb1013, 0, none⟩ = some (.string t1011) := (blk_cell BK1013.out 0).trans rfl; have hcz40_1 : w37.cell? ⟨gb1013, 1, none⟩ = some (.int .i64 x4_19) := (blk_cell BK1013.out 1).trans rfl; have hcz40_2 : w37.cell? ⟨gb1013, 2, none⟩ = some (.bool false) := (blk_cell BK1013.out 2).trans rfl; have hcz40_3 : w37.cell? ⟨gb1013, 3, none⟩ = some (.int .i64 0) := (blk_cell BK1013.out 3).trans rfl; have hfz40_0 := blk_frozen BK1013.out 0; have hfz40_1 := blk_frozen BK1013.out 1; have hfz40_2 := blk_frozen BK1013.out 2; have hfz40_3 := blk_frozen BK1013.out 3) | (go_at_call 147; (with_reducible refine (spec_isSingle.calls t1011 x4_19 false 0 t1016 _ A36.out).mono ?_); rintro e w41 ⟨rfl, hb⟩; replace HO_3 := Aside0.mk (Kd.R_below (zo HO_3) hb); replace HO1010 := Aside0.mk (Kd.R_below (zo HO1010) hb); replace BK993 := Aside0.mk (blk_below (g := gb993) (o := .cells #[.slice none 0 0] 71 (0, 0)) (zb BK993) hb); replace BK1013 := Aside0.mk (blk_below (g := gb1013) (o := .cells #[.string t1011, .int .i64 x4_19, .bool false, .int .i64 0] 123 (0, 0)) (zb BK1013) hb); replace HK := Aside0.mk (KeepBut.trans (zk HK) (KeepBut.of_below hb g none) (.inl rfl)); replace HB := Aside0.mk (below_step (zj129_94 HB) hb); replace HI0 := Aside0.mk (IsS129.below (zi129_94 HI0) hb); (try clear hb); (try clear hb2); (try clear hk); (try clear hi)))
            go_meet
            case rel => exact ⟨_, (t1016), (t1015), zr, H', ⟨by have := HJ2.out; have := HK2.out; have := HJ14.out; have := HJ19.out; first | omega | exact Nat.le_refl _⟩, ⟨by (with_reducible repeat (first | apply Kd.R_alloc | apply Kd.R_drewN | apply Kd.R_drew)); exact Kd.R_mono HO_3.out (fun _ hk => hk.2)⟩, ⟨zb BK993⟩, ⟨zb BK1013⟩, ⟨by repeat (first | (with_reducible first | exact HI0.out | apply IsS129.alloc | apply IsS129.drewN | apply IsS129.drew | apply IsS129.set_1 | refine IsS129.far ?_ NB0_993.out _ | refine IsS129.far ?_ NB0_1013.out _) | exact HI0.out)⟩, ⟨zk HK⟩, ⟨zj129_94 HB⟩⟩
           ·rw [if_neg c35] at H
            have c35b0 : (t1014 == 0) = false := beq_eq_false_iff_ne.mpr c35
            have c35b1 : (t1014 != 0) = true := bne_iff_ne.mpr c35
            (first | rw [c35b0] | (simp only [i64_w, i32_w]; rw [c35b0]) | skip)
            have H' := Aside0.mk H
            clear H
            go_wp2_with (first | ((with_reducible refine gate_callee (f := 90) rfl ?_); refine goesL_ (some 39) rfl rfl Try.func90 (by kernel_rfl) rfl #[.pointer (some ⟨g, 0, none⟩), .int .i64 3] rfl zl ?_; (with_reducible refine (spec_reader_pick.calls kj19 g s0_0 t1012 3 t1014 t1015 w0 _ ?side1 ?side2 A34.out).mono ?_); (case side1 => exact zi129_94 HI0); (case side2 => exact zj129_94 HB); rintro e w42 ⟨rfl, hi, hb, hk⟩; refine ⟨_, rfl, ?_⟩; replace HO_3 := Aside0.mk (Kd.R_mono (Kd.R_keep (IsS129.apart (show IsS129 w0 _ g s0_0 t1012 from zi129_94 HI0) (by (with_reducible repeat (first | apply Kd.R_alloc | apply Kd.R_drewN | apply Kd.R_drew)); exact (Kd.R_mono (Kd.R_far (p := ⟨gb1013, 3, none⟩) (Kd.R_far (p := ⟨gb1013, 2, none⟩) (Kd.R_far (p := ⟨gb1013, 1, none⟩) (Kd.R_far (p := ⟨gb1013, 0, none⟩) (Kd.R_mono HO_3.out (fun k_ hk => (⟨hk, hk.2⟩ : _ ∧ k_ ≠ gb1013))) (fun _ hk => hk.2) (.string t1011)) (fun _ hk => hk.2) (.int .i64 x4_19)) (fun _ hk => hk.2) (.bool false)) (fun _ hk => hk.2) (.int .i64 0)) (fun _ h_ => h_.1))) (by decide)) hk (fun _ h => h.2)) (fun _ h => h.1)); replace BK993 := Aside0.mk (KeepBut.blk hk (g' := gb993) (o := .cells #[.slice none 0 0] 71 (0, 0)) (zf BK993) NB993_0.out (by simp)); replace HO1010 := Aside0.mk (Kd.R_mono (Kd.R_keep (IsS129.apart (show IsS129 w0 _ g s0_0 t1012 from zi129_94 HI0) (by (with_reducible repeat (first | apply Kd.R_alloc | apply Kd.R_drewN | apply Kd.R_drew)); exact (Kd.R_mono (Kd.R_far (p := ⟨gb1013, 3, none⟩) (Kd.R_far (p := ⟨gb1013, 2, none⟩) (Kd.R_far (p := ⟨gb1013, 1, none⟩) (Kd.R_far (p := ⟨gb1013, 0, none⟩) (Kd.R_types HO1010.out BK1013.out (by decide)) (fun _ hk => hk.2) (.string t1011)) (fun _ hk => hk.2) (.int .i64 x4_19)) (fun _ hk => hk.2) (.bool false)) (fun _ hk => hk.2) (.int .i64 0)) (fun _ h_ => h_.1))) (by decide)) hk (fun _ h => h.2)) (fun _ h => h.1)); replace BK1013 := Aside0.mk (KeepBut.blk hk (g' := gb1013) (o := .cells #[.string t1011, .int .i64 x4_19, .bool false, .int .i64 0] 123 (0, 0)) (by (with_reducible repeat (first | refine blk_drewN ?_ _ | refine blk_drew ?_ | refine blk_alloc ?_ _)); refine blk_put (cs := #[.string t1011, .int .i64 x4_19, .bool false, .int .i64 0]) ?_ 3 _ rfl; (with_reducible repeat (first | refine blk_drewN ?_ _ | refine blk_drew ?_ | refine blk_alloc ?_ _)); refine blk_put (cs := #[.string t1011, .int .i64 x4_19, .bool false, .int .i64 0]) ?_ 2 _ rfl; (with_reducible repeat (first | refine blk_drewN ?_ _ | refine blk_drew ?_ | refine blk_alloc ?_ _)); refine blk_put (cs := #[.string t1011, .int .i64 0, .bool false, .int .i64 0]) ?_ 1 _ rfl; (with_reducible repeat (first | refine blk_drewN ?_ _ | refine blk_drew ?_ | refine blk_alloc ?_ _)); refine blk_put (cs := #[.string (⟨#[]⟩ : ByteArray), .int .i64 0, .bool false, .int .i64 0]) ?_ 0 _ rfl; (with_reducible repeat (first | refine blk_drewN ?_ _ | refine blk_drew ?_ | refine blk_alloc ?_ _)); exact BK1013.out) NB1013_0.out (by simp)); replace HK := Aside0.mk (KeepBut.trans (zk HK) hk (.inl rfl)); replace HB := Aside0.mk (hb); replace HI0 := Aside0.mk (hi); (try clear hb); (try clear hb2); (try clear hk); (try clear hi)))
            go_meet
            case rel => exact ⟨_, (false), (t1015), zr, H', ⟨by have := HJ2.out; have := HK2.out; have := HJ14.out; have := HJ19.out; first | omega | exact Nat.le_refl _⟩, ⟨by (with_reducible repeat (first | apply Kd.R_alloc | apply Kd.R_drewN | apply Kd.R_drew)); exact Kd.R_mono HO_3.out (fun _ hk => hk.2)⟩, ⟨zb BK993⟩, ⟨zb BK1013⟩, ⟨by repeat (first | (with_reducible first | exact HI0.out | apply IsS129.alloc | apply IsS129.drewN | apply IsS129.drew | apply IsS129.set_1 | refine IsS129.far ?_ NB0_993.out _ | refine IsS129.far ?_ NB0_1013.out _) | exact HI0.out)⟩, ⟨zk HK⟩, ⟨zj129_94 HB⟩⟩
          case rest =>
           clear HC25
           try clear c1
           try clear c2
           try clear p2
           try clear c3
           try clear p6
           try clear c8
           try clear c8b0
           try clear c8b1
           try clear c9
           try clear c11
           try clear c13
           try clear c14
           try clear c14b0
           try clear c17
           try clear c17b0
           try clear c17b1
           try clear c21
           try clear c31
           try clear c32
           try clear c35
           try clear c35b0
           try clear c35b1
           try clear c38
           try clear c39
           try clear hcz33_0
           try clear hcz33_1
           try clear hcz33_2
           try clear hcz33_3
           try clear hcz40_0
           try clear hcz40_1
           try clear hcz40_2
           try clear hcz40_3
           try clear hfz33_0
           try clear hfz33_1
           try clear hfz33_2
           try clear hfz33_3
           try clear hfz40_0
           try clear hfz40_1
           try clear hfz40_2
           try clear hfz40_3
           try clear p2
           try clear p6
           obtain ⟨kq, x44_24, x1001_24, rfl, HA, HJ24, HO_3, BK993, BK1013, HI0, HK, HB⟩ := hcut
           cases kq with
           | zero => exact absurd HA.out (by simp [spec_goodSignature.j4])
           | succ kj24 =>
            have H := HA.out
            clear HA
            simp only [spec_goodSignature.j4] at H
            have HC43 := Aside0.mk H
            clear H
            go_upto_if 44 with (fail)
            go_cut [] (fun wc => ∃ (kq : Nat) (x1001_42 : Int) (x1014002_42 : Bool) (x1014003_42 : Int), Aside0 (spec_goodSignature.j5 kq x3_2 x4_19 x5_2 s0_0 x1001_42 t1011 x4_19 x1014002_42 x1014003_42 = some (r1, r2)) ∧ Aside0 (kq ≤ kj24) ∧ Aside0 (Kd.R k123 123 wc w.heap.size (fun k_ => k_ ≠ gb1013) u3 x3_2) ∧ Aside0 (wc.heap[gb993]? = some (.cells #[(.slice none 0 0)] 71 (0, 0))) ∧ Aside0 (wc.heap[gb1013]? = some (.cells #[.string t1011, .int .i64 x4_19, .bool x1014002_42, .int .i64 x1014003_42] 123 (0, 0))) ∧ Aside0 (IsS129 w0 wc g s0_0 x1001_42) ∧ Aside0 (KeepBut w wc g none) ∧ Aside0 (Below w0.heap.size w0 wc))
            case first =>
             have H := HC43.out
             clear HC43
             by_cases c44 : x44_24 = true
             ·subst c44
              rw [if_pos rfl] at H
              replace H := Option.bind_eq_some_iff.mp H
              obtain ⟨⟨t1017, t1018⟩, A450, H⟩ := H
              (try dsimp only at H)
              have A45 := Aside0.mk A450
              clear A450
              have H' := Aside0.mk H
              clear H
              have hnb46 := NB1013_993.out
              have hnc46 := NB993_1013.out
              have hnb47 := NB1013_0.out
              have hnc47 := NB0_1013.out
              have hcz48_0 : wc.cell? ⟨gb1013, 0, none⟩ = some (.string t1011) := (blk_cell BK1013.out 0).trans rfl
              have hcz48_1 : wc.cell? ⟨gb1013, 1, none⟩ = some (.int .i64 x4_19) := (blk_cell BK1013.out 1).trans rfl
              have hcz48_2 : wc.cell? ⟨gb1013, 2, none⟩ = some (.bool false) := (blk_cell BK1013.out 2).trans rfl
              have hcz48_3 : wc.cell? ⟨gb1013, 3, none⟩ = some (.int .i64 0) := (blk_cell BK1013.out 3).trans rfl
              have hfz48_0 := blk_frozen BK1013.out 0
              have hfz48_1 := blk_frozen BK1013.out 1
              have hfz48_2 := blk_frozen BK1013.out 2
              have hfz48_3 := blk_frozen BK1013.out 3
              go_wp2_with (first | ((with_reducible refine gate_callee (f := 139) rfl ?_); refine goesL_ (some 47) rfl rfl Try.func139 (by kernel_rfl) rfl #[.pointer (some ⟨g, 0, none⟩)] rfl zl ?_; (with_reducible refine (spec_aNumber.calls kj24 g s0_0 x1001_24 t1017 t1018 w0 _ ?side1 ?side2 A45.out).mono ?_); (case side1 => exact zi129_94 HI0); (case side2 => exact zj129_94 HB); rintro e w49 ⟨rfl, hi, hb, hk⟩; refine ⟨_, rfl, ?_⟩; replace HO_3 := Aside0.mk (Kd.R_mono (Kd.R_keep (IsS129.apart (show IsS129 w0 _ g s0_0 x1001_24 from zi129_94 HI0) (by (with_reducible repeat (first | apply Kd.R_alloc | apply Kd.R_drewN | apply Kd.R_drew)); exact (Kd.R_mono (Kd.R_far (p := ⟨gb1013, 2, none⟩) (Kd.R_mono HO_3.out (fun k_ hk => (⟨hk, hk⟩ : _ ∧ k_ ≠ gb1013))) (fun _ hk => hk.2) (.bool true)) (fun _ h_ => h_.1))) (by decide)) hk (fun _ h => h.2)) (fun _ h => h.1)); replace BK993 := Aside0.mk (KeepBut.blk hk (g' := gb993) (o := .cells #[.slice none 0 0] 71 (0, 0)) (zf BK993) NB993_0.out (by simp)); replace BK1013 := Aside0.mk (KeepBut.blk hk (g' := gb1013) (o := .cells #[.string t1011, .int .i64 x4_19, .bool true, .int .i64 0] 123 (0, 0)) (by (with_reducible repeat (first | refine blk_drewN ?_ _ | refine blk_drew ?_ | refine blk_alloc ?_ _)); refine blk_put (cs := #[.string t1011, .int .i64 x4_19, .bool false, .int .i64 0]) ?_ 2 _ rfl; (with_reducible repeat (first | refine blk_drewN ?_ _ | refine blk_drew ?_ | refine blk_alloc ?_ _)); exact BK1013.out) NB1013_0.out (by simp)); replace HK := Aside0.mk (KeepBut.trans (zk HK) hk (.inl rfl)); replace HB := Aside0.mk (hb); replace HI0 := Aside0.mk (hi); (try clear hb); (try clear hb2); (try clear hk); (try clear hi); have hcz50_0 : w49.cell? ⟨gb1013, 0, none⟩ = some (.string t1011) := (blk_cell BK1013.out 0).trans rfl; have hcz50_1 : w49.cell? ⟨gb1013, 1, none⟩ = some (.int .i64 x4_19) := (blk_cell BK1013.out 1).trans rfl; have hcz50_2 : w49.cell? ⟨gb1013, 2, none⟩ = some (.bool true) := (blk_cell BK1013.out 2).trans rfl; have hcz50_3 : w49.cell? ⟨gb1013, 3, none⟩ = some (.int .i64 0) := (blk_cell BK1013.out 3).trans rfl; have hfz50_0 := blk_frozen BK1013.out 0; have hfz50_1 := blk_frozen BK1013.out 1; have hfz50_2 := blk_frozen BK1013.out 2; have hfz50_3 := blk_frozen BK1013.out 3))
              go_meet
              case rel => exact ⟨_, (t1018), (true), (t1017), H', ⟨by have := HJ2.out; have := HK2.out; have := HJ14.out; have := HJ19.out; have := HJ24.out; first | omega | exact Nat.le_refl _⟩, ⟨by (with_reducible repeat (first | apply Kd.R_alloc | apply Kd.R_drewN | apply Kd.R_drew)); exact Kd.R_mono (Kd.R_far (p := ⟨gb1013, 3, none⟩) (Kd.R_mono HO_3.out (fun k_ hk => (⟨hk, hk⟩ : _ ∧ k_ ≠ gb1013))) (fun _ hk => hk.2) (.int .i64 t1017)) (fun _ hk => hk.1)⟩, ⟨zf BK993⟩, ⟨by (with_reducible repeat (first | refine blk_drewN ?_ _ | refine blk_drew ?_ | refine blk_alloc ?_ _)); refine blk_put (cs := #[.string t1011, .int .i64 x4_19, .bool true, .int .i64 0]) ?_ 3 _ rfl; (with_reducible repeat (first | refine blk_drewN ?_ _ | refine blk_drew ?_ | refine blk_alloc ?_ _)); exact BK1013.out⟩, ⟨by repeat (first | (with_reducible first | exact HI0.out | apply IsS129.alloc | apply IsS129.drewN | apply IsS129.drew | apply IsS129.set_1 | refine IsS129.far ?_ NB0_993.out _ | refine IsS129.far ?_ NB0_1013.out _) | exact HI0.out)⟩, ⟨zk HK⟩, ⟨zj129_94 HB⟩⟩
             ·replace c44 := Bool.eq_false_iff.mpr c44
              subst c44
              rw [if_neg (show ¬ (false = true) by decide)] at H
              have H' := Aside0.mk H
              clear H
              go_wp2
              go_meet
              case rel => exact ⟨_, (x1001_24), (false), (0), H', ⟨by have := HJ2.out; have := HK2.out; have := HJ14.out; have := HJ19.out; have := HJ24.out; first | omega | exact Nat.le_refl _⟩, ⟨zo HO_3⟩, ⟨zb BK993⟩, ⟨zb BK1013⟩, ⟨by repeat (first | (with_reducible first | exact HI0.out | apply IsS129.alloc | apply IsS129.drewN | apply IsS129.drew | apply IsS129.set_1 | refine IsS129.far ?_ NB0_993.out _ | refine IsS129.far ?_ NB0_1013.out _) | exact HI0.out)⟩, ⟨zk HK⟩, ⟨zj129_94 HB⟩⟩
            case rest =>
             clear HC43
             try clear c1
             try clear c2
             try clear p2
             try clear c3
             try clear c4
             try clear p6
             try clear c8
             try clear c8b0
             try clear c8b1
             try clear c9
             try clear c11
             try clear c13
             try clear c14
             try clear c14b0
             try clear c17
             try clear c17b0
             try clear c17b1
             try clear c21
             try clear c31
             try clear c32
             try clear c35
             try clear c35b0
             try clear c35b1
             try clear c38
             try clear c39
             try clear c44
             try clear c46
             try clear c47
             try clear hcz33_0
             try clear hcz33_1
             try clear hcz33_2
             try clear hcz33_3
             try clear hcz40_0
             try clear hcz40_1
             try clear hcz40_2
             try clear hcz40_3
             try clear hcz48_0
             try clear hcz48_1
             try clear hcz48_2
             try clear hcz48_3
             try clear hcz50_0
             try clear hcz50_1
             try clear hcz50_2
             try clear hcz50_3
             try clear hfz33_0
             try clear hfz33_1
             try clear hfz33_2
             try clear hfz33_3
             try clear hfz40_0
             try clear hfz40_1
             try clear hfz40_2
             try clear hfz40_3
             try clear hfz48_0
             try clear hfz48_1
             try clear hfz48_2
             try clear hfz48_3
             try clear hfz50_0
             try clear hfz50_1
             try clear hfz50_2
             try clear hfz50_3
             try clear p2
             try clear p6
             obtain ⟨kq, x1001_42, x1014002_42, x1014003_42, HA, HJ42, HO_3, BK993, BK1013, HI0, HK, HB⟩ := hcut
             cases kq with
             | zero => exact absurd HA.out (by simp [spec_goodSignature.j5])
             | succ kj42 =>
              have H := HA.out
              clear HA
              simp only [spec_goodSignature.j5] at H
              replace H := Option.bind_eq_some_iff.mp H
              obtain ⟨t1019, A510, H⟩ := H
              (try dsimp only at H)
              have A51 := Aside0.mk A510
              clear A510
              have HC52 := Aside0.mk H
              clear H
              have hnb53 := NB1013_993.out
              have hnc53 := NB993_1013.out
              have hnb54 := NB1013_0.out
              have hnc54 := NB0_1013.out
              have hcz55_0 : wc.cell? ⟨gb1013, 0, none⟩ = some (.string t1011) := (blk_cell BK1013.out 0).trans rfl
              have hcz55_1 : wc.cell? ⟨gb1013, 1, none⟩ = some (.int .i64 x4_19) := (blk_cell BK1013.out 1).trans rfl
              have hcz55_2 : wc.cell? ⟨gb1013, 2, none⟩ = some (.bool x1014002_42) := (blk_cell BK1013.out 2).trans rfl
              have hcz55_3 : wc.cell? ⟨gb1013, 3, none⟩ = some (.int .i64 x1014003_42) := (blk_cell BK1013.out 3).trans rfl
              have hfz55_0 := blk_frozen BK1013.out 0
              have hfz55_1 := blk_frozen BK1013.out 1
              have hfz55_2 := blk_frozen BK1013.out 2
              have hfz55_3 := blk_frozen BK1013.out 3
              go_upto_if 51 with (first | ((with_reducible refine gate_callee (f := 147) rfl ?_); refine goesL_ (some 50) rfl rfl Try.func147 (by kernel_rfl) rfl #[.agg #[.string t1011, .int .i64 x4_19, .bool x1014002_42, .int .i64 x1014003_42]] rfl zl ?_; (with_reducible refine (spec_isSingle.calls t1011 x4_19 x1014002_42 x1014003_42 t1019 _ A51.out).mono ?_); rintro e w56 ⟨rfl, hb⟩; refine ⟨_, rfl, ?_⟩; replace HO_3 := Aside0.mk (Kd.R_below (zo HO_3) hb); replace BK993 := Aside0.mk (blk_below (g := gb993) (o := .cells #[.slice none 0 0] 71 (0, 0)) (zb BK993) hb); replace BK1013 := Aside0.mk (blk_below (g := gb1013) (o := .cells #[.string t1011, .int .i64 x4_19, .bool x1014002_42, .int .i64 x1014003_42] 123 (0, 0)) (zb BK1013) hb); replace HK := Aside0.mk (KeepBut.trans (zk HK) (KeepBut.of_below hb g none) (.inl rfl)); replace HB := Aside0.mk (below_step (zj129_94 HB) hb); replace HI0 := Aside0.mk (IsS129.below (zi129_94 HI0) hb); (try clear hb); (try clear hb2); (try clear hk); (try clear hi)))
              (try simp only [Act.put, List.setIfInBounds_toArray, List.set_cons_zero, List.set_cons_succ])
              go_cut [4] (fun v4 wc => ∃ (kq : Nat) (x4_51 : Int), v4 = .int .i64 x4_51 ∧ Aside0 (spec_goodSignature.j6 kq x3_2 x4_51 x5_2 s0_0 x1001_42 t1011 x4_19 x1014002_42 x1014003_42 = some (r1, r2)) ∧ Aside0 (kq ≤ kj42) ∧ Aside0 (Kd.R k123 123 wc w.heap.size (fun k_ => k_ ≠ gb1013) u3 x3_2) ∧ Aside0 (wc.heap[gb993]? = some (.cells #[(.slice none 0 0)] 71 (0, 0))) ∧ Aside0 (wc.heap[gb1013]? = some (.cells #[.string t1011, .int .i64 x4_19, .bool x1014002_42, .int .i64 x1014003_42] 123 (0, 0))) ∧ Aside0 (IsS129 w0 wc g s0_0 x1001_42) ∧ Aside0 (KeepBut w wc g none) ∧ Aside0 (Below w0.heap.size w0 wc))
              case first =>
               have H := HC52.out
               clear HC52
               by_cases c57 : t1019 = true
               ·subst c57
                rw [if_pos rfl] at H
                have H' := Aside0.mk H
                clear H
                go_wp2
                go_meet
                case rel => exact ⟨_, (x4_19), zr, H', ⟨by have := HJ2.out; have := HK2.out; have := HJ14.out; have := HJ19.out; have := HJ24.out; have := HJ42.out; first | omega | exact Nat.le_refl _⟩, ⟨zo HO_3⟩, ⟨zb BK993⟩, ⟨zb BK1013⟩, ⟨by repeat (first | (with_reducible first | exact HI0.out | apply IsS129.alloc | apply IsS129.drewN | apply IsS129.drew | apply IsS129.set_1 | refine IsS129.far ?_ NB0_993.out _ | refine IsS129.far ?_ NB0_1013.out _) | exact HI0.out)⟩, ⟨zk HK⟩, ⟨zj129_94 HB⟩⟩
               ·replace c57 := Bool.eq_false_iff.mpr c57
                subst c57
                rw [if_neg (show ¬ (false = true) by decide)] at H
                obtain ⟨ji58, hji58⟩ : ∃ j_ : Int, (mn (wrap64 (x4_19 + 1)) 4) = j_ := ⟨_, rfl⟩
                replace H : (spec_goodSignature.j6 kj42 x3_2 ji58 x5_2 s0_0 x1001_42 t1011 x4_19 x1014002_42 x1014003_42) = some (r1, r2) := by first | (rw [hji58] at H; exact H) | (simp only [hji58] at H ⊢; exact H)
                have hji58_ : (if 4 < (wrap64 (x4_19 + 1)) then 4 else (wrap64 (x4_19 + 1))) = ji58 := hji58
                have H' := Aside0.mk H
                clear H
                go_wp2
                go_meet
                case rel => exact ⟨_, (ji58), (by first | rfl | (simp; done) | (simp only [← hji58] <;> (first | rfl | simp)) | (simp [*]; done)), H', ⟨by have := HJ2.out; have := HK2.out; have := HJ14.out; have := HJ19.out; have := HJ24.out; have := HJ42.out; first | omega | exact Nat.le_refl _⟩, ⟨zo HO_3⟩, ⟨zb BK993⟩, ⟨zb BK1013⟩, ⟨by repeat (first | (with_reducible first | exact HI0.out | apply IsS129.alloc | apply IsS129.drewN | apply IsS129.drew | apply IsS129.set_1 | refine IsS129.far ?_ NB0_993.out _ | refine IsS129.far ?_ NB0_1013.out _) | exact HI0.out)⟩, ⟨zk HK⟩, ⟨zj129_94 HB⟩⟩
              case rest =>
               clear HC52
               try clear c1
               try clear c2
               try clear p2
               try clear c3
               try clear c4
               try clear c5
               try clear p6
               try clear c8
               try clear c8b0
               try clear c8b1
               try clear c9
               try clear c11
               try clear c13
               try clear c14
               try clear c14b0
               try clear c17
               try clear c17b0
               try clear c17b1
               try clear c21
               try clear c31
               try clear c32
               try clear c35
               try clear c35b0
               try clear c35b1
               try clear c38
               try clear c39
               try clear c44
               try clear c46
               try clear c47
               try clear c53
               try clear c54
               try clear c57
               try clear hcz33_0
               try clear hcz33_1
               try clear hcz33_2
               try clear hcz33_3
               try clear hcz40_0
               try clear hcz40_1
               try clear hcz40_2
               try clear hcz40_3
               try clear hcz48_0
               try clear hcz48_1
               try clear hcz48_2
               try clear hcz48_3
               try clear hcz50_0
               try clear hcz50_1
               try clear hcz50_2
               try clear hcz50_3
               try clear hcz55_0
               try clear hcz55_1
               try clear hcz55_2
               try clear hcz55_3
               try clear hfz33_0
               try clear hfz33_1
               try clear hfz33_2
               try clear hfz33_3
               try clear hfz40_0
               try clear hfz40_1
               try clear hfz40_2
               try clear hfz40_3
               try clear hfz48_0
               try clear hfz48_1
               try clear hfz48_2
               try clear hfz48_3
               try clear hfz50_0
               try clear hfz50_1
               try clear hfz50_2
               try clear hfz50_3
               try clear hfz55_0
               try clear hfz55_1
               try clear hfz55_2
               try clear hfz55_3
               try clear p2
               try clear p6
               obtain ⟨kq, x4_51, rfl, HA, HJ51, HO_3, BK993, BK1013, HI0, HK, HB⟩ := hcut
               cases kq with
               | zero => exact absurd HA.out (by simp [spec_goodSignature.j6])
               | succ kj51 =>
                have H := HA.out
                clear HA
                simp only [spec_goodSignature.j6] at H
                replace H := Option.bind_eq_some_iff.mp H
                obtain ⟨t1020, A590, H⟩ := H
                (try dsimp only at H)
                have A59 := Aside0.mk A590
                clear A590
                obtain ⟨y1023, hy1023⟩ : ∃ y_ : List (S123), y_ = (([(⟨t1011, x4_19, x1014002_42, x1014003_42⟩ : S123)] : List (S123))) := ⟨_, rfl⟩
                replace H : (if t1020.length + y1023.length < 3518437208883 then ((some (t1020 ++ y1023 : List (S123))).bind fun y1026 => ((spec_validParams.f kj51 y1026).bind fun t1029 => (if t1029 = true then (spec_goodSignature.l0 kj51 y1026 x4_51 (wrap64 (x5_2 - 1)) s0_0 x1001_42) else (spec_goodSignature.l0 kj51 x3_2 x4_51 (wrap64 (x5_2 - 1)) s0_0 x1001_42)))) else (none)) = some (r1, r2) := by first | (rw [hy1023]; with_reducible exact H) | (have H2_ := (Option.bind_some _ _).symm.trans H; rw [hy1023]; with_reducible exact H2_) | (have H2_ := (Option.bind_some _ _).symm.trans H; with_reducible exact H2_) | with_reducible exact H | (rw [hy1023]; exact H) | exact H
                have Ny1023 := Aside0.mk hy1023
                clear hy1023
                by_cases c60 : t1020.length + y1023.length < 3518437208883
                ·rw [if_pos c60] at H
                 have LMc60 := Aside0.mk c60
                 clear c60
                 obtain ⟨y1026, hy1026⟩ : ∃ y_ : List (S123), y_ = (t1020 ++ y1023) := ⟨_, rfl⟩
                 replace H : ((spec_validParams.f kj51 y1026).bind fun t1029 => (if t1029 = true then (spec_goodSignature.l0 kj51 y1026 x4_51 (wrap64 (x5_2 - 1)) s0_0 x1001_42) else (spec_goodSignature.l0 kj51 x3_2 x4_51 (wrap64 (x5_2 - 1)) s0_0 x1001_42))) = some (r1, r2) := by first | (rw [hy1026]; with_reducible exact H) | (have H2_ := (Option.bind_some _ _).symm.trans H; rw [hy1026]; with_reducible exact H2_) | (have H2_ := (Option.bind_some _ _).symm.trans H; with_reducible exact H2_) | with_reducible exact H | (rw [hy1026]; exact H) | exact H
                 have Ny1026 := Aside0.mk hy1026
                 clear hy1026
                 replace H := Option.bind_eq_some_iff.mp H
                 obtain ⟨t1029, A610, H⟩ := H
                 (try dsimp only at H)
                 have A61 := Aside0.mk A610
                 clear A610
                 by_cases c62 : t1029 = true
                 ·subst c62
                  rw [if_pos rfl] at H
                  have H' := Aside0.mk H
                  clear H
                  obtain ⟨Ao63, co63, eo63⟩ := Kd.R_slice HO_3.out
                  subst eo63
                  try go_wp2
                  replace HO_3 := Aside0.mk (Kd.R_drew HO_3.out)
                  replace BK993 := Aside0.mk (blk_drew BK993.out)
                  replace BK1013 := Aside0.mk (blk_drew BK1013.out)
                  replace HI0 := Aside0.mk (IsS129.drew HI0.out)
                  replace HK := Aside0.mk (keep_drew HK.out)
                  replace HB := Aside0.mk (below_drew1 HB.out)
                  refine start_ (n := 6) (S := fun w' => w'.cell? ⟨gb1013, 0, none⟩ = some (.string t1011) ∧ w'.cell? ⟨gb1013, 1, none⟩ = some (.int .i64 x4_19) ∧ w'.cell? ⟨gb1013, 2, none⟩ = some (.bool x1014002_42) ∧ w'.cell? ⟨gb1013, 3, none⟩ = some (.int .i64 x1014003_42)) (ds := []) #[false, false, false, false, false, false] (by kernel_rfl) rfl rfl ⟨(blk_cell BK1013.out 0).trans rfl, (blk_cell BK1013.out 1).trans rfl, (blk_cell BK1013.out 2).trans rfl, (blk_cell BK1013.out 3).trans rfl⟩ (fun hHeld => ?_)
                  generalize wc.drew = w64 at HO_3 BK993 BK1013 HI0 HK HB hHeld ⊢
                  refine pure_ (i := 0) (N := some 55) (v := ?_) (a' := ?_) #[true, false, false, false, false, false] rfl rfl (by kernel_rfl) (fun _ _ _ h => h) (Or.inl ⟨by rfl, ?_⟩) ?_ ?_
                  rotate_left
                  ·intro w'
                   go_simp
                   with_reducible rfl
                  rotate_left
                  ·simp only [Act.put, List.setIfInBounds_toArray, List.set_cons_zero, List.set_cons_succ, i64_w, i32_w]
                   rfl
                  refine take_ (i := 2) (N := some 57) (v := ?_) (a' := ?_) #[true, false, true, false, false, false] rfl rfl (by kernel_rfl) (fun _ _ _ h => h) (Or.inl ⟨by rfl, ?_⟩) hHeld ?_ ?_
                  rotate_left
                  ·rintro w' ⟨s0, s1, s2, s3⟩
                   go_simp
                   with_reducible rfl
                  rotate_left
                  ·simp only [Act.put, List.setIfInBounds_toArray, List.set_cons_zero, List.set_cons_succ, i64_w, i32_w]
                   rfl
                  refine join_ (σ := Value × Value) 2 #[true, true, true, true, false, false] (fun s_ => [(56, s_.1), (58, s_.2)]) (fun s_ w' => (w'.cell? ⟨gb1013, 0, none⟩ = some (.string t1011) ∧ w'.cell? ⟨gb1013, 1, none⟩ = some (.int .i64 x4_19) ∧ w'.cell? ⟨gb1013, 2, none⟩ = some (.bool x1014002_42) ∧ w'.cell? ⟨gb1013, 3, none⟩ = some (.int .i64 x1014003_42)) ∧ (Kd.R k123 123 w' w.heap.size (fun k_ => some k_ ≠ (s_.2 : Value).ownBlock ∧ some k_ ≠ (.slice Ao63 x3_2.length co63 : Value).ownBlock ∧ k_ ≠ gb1013) s_.1 t1020) ∧ (Kd.R k123 123 w' w.heap.size (fun k_ => some k_ ≠ (s_.1 : Value).ownBlock ∧ some k_ ≠ (.slice Ao63 x3_2.length co63 : Value).ownBlock ∧ k_ ≠ gb1013) s_.2 y1023) ∧ (Kd.R k123 123 w' w.heap.size (fun k_ => some k_ ≠ (s_.1 : Value).ownBlock ∧ some k_ ≠ (s_.2 : Value).ownBlock ∧ k_ ≠ gb1013) (.slice Ao63 x3_2.length co63) x3_2) ∧ (w'.heap[gb1013]? = some (.cells #[.string t1011, .int .i64 x4_19, .bool x1014002_42, .int .i64 x1014003_42] 123 (0, 0))) ∧ (w'.heap[gb993]? = some (.cells #[.slice none 0 0] 71 (0, 0))) ∧ (IsS129 w0 w' g s0_0 x1001_42) ∧ (KeepBut w w' g none) ∧ (Below w0.heap.size w0 w')) ?_ ?_
                  rotate_left
                  ·intro hCont
                   refine two_ (i := 1) (j := 3) (Ni := some 56) (Nj := some 58) #[true, true, true, false, false, false] #[true, false, true, true, false, false] rfl rfl rfl rfl (by kernel_rfl) (by decide) (by decide) (fun K hK => ?_) (fun K hK => ?_)
                   ·skip
                    refine goes_ Try.func99 (by kernel_rfl) rfl #[.slice Ao63 x3_2.length co63] (by rfl) rfl rfl zl ?_
                    with_reducible refine (spec_copyParams.calls _ _ x3_2 t1020 _ ?side1 ?side2 A59.out).mono ?_
                    (case side1 => repeat (first | exact (Kd.R_reads' HO_3.out).2.2 | (with_reducible refine Kd.C_alloc ?_ _) | (with_reducible refine Kd.C_drewN ?_ _) | (with_reducible refine Kd.C_drew ?_)))
                    (case side2 => exact (Kd.R_reads' HO_3.out).2.1)
                    rintro e w65 ⟨v1021, rfl, ho0, hb⟩
                    refine ⟨_, rfl, ?_⟩
                    have HO1022 := Aside0.mk (Kd.R_lower (Kd.R_newB (Kd.R_new' ho0 (Kd.R_lt (zo HO_3))) (g := gb1013) (o := .cells #[.string t1011, .int .i64 x4_19, .bool x1014002_42, .int .i64 x1014003_42] 123 (0, 0)) (zb BK1013)) (keep_size (w := w) (g := g) (row := none) (zk HK)))
                    replace HO_3 := Aside0.mk (Kd.R_elder' (zo HO_3) (Kd.R_base ho0) hb)
                    replace BK993 := Aside0.mk (blk_below (g := gb993) (o := .cells #[.slice none 0 0] 71 (0, 0)) (zb BK993) hb)
                    replace BK1013 := Aside0.mk (blk_below (g := gb1013) (o := .cells #[.string t1011, .int .i64 x4_19, .bool x1014002_42, .int .i64 x1014003_42] 123 (0, 0)) (zb BK1013) hb)
                    replace HK := Aside0.mk (KeepBut.trans (zk HK) (KeepBut.of_below hb g none) (.inl rfl))
                    replace HB := Aside0.mk (below_step (zj129_94 HB) hb)
                    replace HI0 := Aside0.mk (IsS129.below (zi129_94 HI0) hb)
                    (try clear hb)
                    (try clear hb2)
                    (try clear hk)
                    (try clear hi)
                    (try clear ho0)
                    refine hK.out _ _ ⟨(blk_cell BK1013.out 0).trans rfl, (blk_cell BK1013.out 1).trans rfl, (blk_cell BK1013.out 2).trans rfl, (blk_cell BK1013.out 3).trans rfl⟩ (fun hHeld => ?_)
                    clear hK K
                    refine norm_ (a' := ?_) ?_ ?_
                    rotate_left
                    ·show Act.put _ (some 56) _ = _
                     simp only [Act.put, List.setIfInBounds_toArray, List.set_cons_zero, List.set_cons_succ, i64_w, i32_w]
                     rfl
                    refine one_ (i := 3) (N := some 58) #[true, true, true, true, false, false] rfl rfl (by kernel_rfl) (by decide) (fun K hK => ?_)
                    refine Kd.R_lit_step k123 _ 123 ?hg (N := 58) ?hd (xs := ([(⟨t1011, x4_19, x1014002_42, x1014003_42⟩ : S123)] : List (S123))) (inner := [.string t1011, .int .i64 x4_19, .bool x1014002_42, .int .i64 x1014003_42]) (ok := fun _ => True) (okp := fun _ => True) ?hr ?hp (fun _ hk => hk) trivial (Below.refl _ _) (Nat.le_refl _) (by simp) ?_; (case hd => rfl); (case hg => rfl); (case hr => first | (go_simp; done) | (go_simp; rfl)); (case hp => exact (Reps.c4 (show Kd.M k123 _ _ _ (⟨t1011, x4_19, x1014002_42, x1014003_42⟩ : S123) [.string t1011, .int .i64 x4_19, .bool x1014002_42, .int .i64 x1014003_42] from (k123_mkM _ _ _ (⟨t1011, x4_19, x1014002_42, x1014003_42⟩ : S123) )) (Reps.none _ _)))
                    intro v1024 w66 ho67 hb hg_ hnew_
                    clear hg_ hnew_
                    (first | rw [← Ny1023.out] at ho67 | (simp only [Int.reduceToNat] at ho67; rw [← Ny1023.out] at ho67))
                    have HO1025 := Aside0.mk (Kd.R_lower (Kd.R_newB (Kd.R_new' (Kd.R_new' ho67 (Kd.R_lt (zo HO_3))) (Kd.R_lt (zo HO1022))) (g := gb1013) (o := .cells #[.string t1011, .int .i64 x4_19, .bool x1014002_42, .int .i64 x1014003_42] 123 (0, 0)) (zb BK1013)) (keep_size (w := w) (g := g) (row := none) (zk HK)))
                    replace HO_3 := Aside0.mk (Kd.R_elder' (zo HO_3) (Kd.R_base ho67) hb)
                    replace HO1022 := Aside0.mk (Kd.R_elder' (zo HO1022) (Kd.R_base ho67) hb)
                    replace BK993 := Aside0.mk (blk_below (g := gb993) (o := .cells #[.slice none 0 0] 71 (0, 0)) (zb BK993) hb)
                    replace BK1013 := Aside0.mk (blk_below (g := gb1013) (o := .cells #[.string t1011, .int .i64 x4_19, .bool x1014002_42, .int .i64 x1014003_42] 123 (0, 0)) (zb BK1013) hb)
                    replace HK := Aside0.mk (KeepBut.trans (zk HK) (KeepBut.of_below hb g none) (.inl rfl))
                    replace HB := Aside0.mk (below_step (zj129_94 HB) hb)
                    replace HI0 := Aside0.mk (IsS129.below (zi129_94 HI0) hb)
                    clear hb ho67
                    refine hK.out _ _ ⟨(blk_cell BK1013.out 0).trans rfl, (blk_cell BK1013.out 1).trans rfl, (blk_cell BK1013.out 2).trans rfl, (blk_cell BK1013.out 3).trans rfl⟩ (fun hHeld => ?_)
                    clear hK K
                    refine norm_ (a' := ?_) ?_ ?_
                    rotate_left
                    ·show Act.put _ (some 58) _ = _
                     simp only [Act.put, List.setIfInBounds_toArray, List.set_cons_zero, List.set_cons_succ, i64_w, i32_w]
                     rfl
                    exact norm_ (by simp only [putAll, Act.put, List.setIfInBounds_toArray, List.set_cons_zero, List.set_cons_succ]) (hCont (v1021, v1024) _ ⟨hHeld, (by (with_reducible repeat (first | apply Kd.R_alloc | apply Kd.R_drewN | apply Kd.R_drew)); exact Kd.R_mono HO1022.out (fun _ hk => ⟨hk.2, ⟨hk.1.1.2, hk.1.2⟩⟩)), (by (with_reducible repeat (first | apply Kd.R_alloc | apply Kd.R_drewN | apply Kd.R_drew)); exact Kd.R_mono HO1025.out (fun _ hk => ⟨hk.1.2, ⟨hk.1.1.2, hk.2⟩⟩)), (by (with_reducible repeat (first | apply Kd.R_alloc | apply Kd.R_drewN | apply Kd.R_drew)); exact Kd.R_mono HO_3.out (fun _ hk => ⟨hk.1.2, ⟨hk.2, hk.1.1⟩⟩)), (zb BK1013), (zb BK993), (zi129_94 HI0), (zk HK), (zj129_94 HB)⟩)
                   ·skip
                    refine Kd.R_lit_step k123 _ 123 ?hg (N := 58) ?hd (xs := ([(⟨t1011, x4_19, x1014002_42, x1014003_42⟩ : S123)] : List (S123))) (inner := [.string t1011, .int .i64 x4_19, .bool x1014002_42, .int .i64 x1014003_42]) (ok := fun _ => True) (okp := fun _ => True) ?hr ?hp (fun _ hk => hk) trivial (Below.refl _ _) (Nat.le_refl _) (by simp) ?_; (case hd => rfl); (case hg => rfl); (case hr => first | (go_simp; done) | (go_simp; rfl)); (case hp => exact (Reps.c4 (show Kd.M k123 _ _ _ (⟨t1011, x4_19, x1014002_42, x1014003_42⟩ : S123) [.string t1011, .int .i64 x4_19, .bool x1014002_42, .int .i64 x1014003_42] from (k123_mkM _ _ _ (⟨t1011, x4_19, x1014002_42, x1014003_42⟩ : S123) )) (Reps.none _ _)))
                    intro v1024 w65 ho66 hb hg_ hnew_
                    clear hg_ hnew_
                    (first | rw [← Ny1023.out] at ho66 | (simp only [Int.reduceToNat] at ho66; rw [← Ny1023.out] at ho66))
                    have HO1025 := Aside0.mk (Kd.R_lower (Kd.R_newB (Kd.R_new' ho66 (Kd.R_lt (zo HO_3))) (g := gb1013) (o := .cells #[.string t1011, .int .i64 x4_19, .bool x1014002_42, .int .i64 x1014003_42] 123 (0, 0)) (zb BK1013)) (keep_size (w := w) (g := g) (row := none) (zk HK)))
                    replace HO_3 := Aside0.mk (Kd.R_elder' (zo HO_3) (Kd.R_base ho66) hb)
                    replace BK993 := Aside0.mk (blk_below (g := gb993) (o := .cells #[.slice none 0 0] 71 (0, 0)) (zb BK993) hb)
                    replace BK1013 := Aside0.mk (blk_below (g := gb1013) (o := .cells #[.string t1011, .int .i64 x4_19, .bool x1014002_42, .int .i64 x1014003_42] 123 (0, 0)) (zb BK1013) hb)
                    replace HK := Aside0.mk (KeepBut.trans (zk HK) (KeepBut.of_below hb g none) (.inl rfl))
                    replace HB := Aside0.mk (below_step (zj129_94 HB) hb)
                    replace HI0 := Aside0.mk (IsS129.below (zi129_94 HI0) hb)
                    clear hb ho66
                    refine hK.out _ _ ⟨(blk_cell BK1013.out 0).trans rfl, (blk_cell BK1013.out 1).trans rfl, (blk_cell BK1013.out 2).trans rfl, (blk_cell BK1013.out 3).trans rfl⟩ (fun hHeld => ?_)
                    clear hK K
                    refine norm_ (a' := ?_) ?_ ?_
                    rotate_left
                    ·show Act.put _ (some 58) _ = _
                     simp only [Act.put, List.setIfInBounds_toArray, List.set_cons_zero, List.set_cons_succ, i64_w, i32_w]
                     rfl
                    refine one_ (i := 1) (N := some 56) #[true, true, true, true, false, false] rfl rfl (by kernel_rfl) (by decide) (fun K hK => ?_)
                    refine goes_ Try.func99 (by kernel_rfl) rfl #[.slice Ao63 x3_2.length co63] (by rfl) rfl rfl zl ?_
                    with_reducible refine (spec_copyParams.calls _ _ x3_2 t1020 _ ?side1 ?side2 A59.out).mono ?_
                    (case side1 => repeat (first | exact (Kd.R_reads' HO_3.out).2.2 | (with_reducible refine Kd.C_alloc ?_ _) | (with_reducible refine Kd.C_drewN ?_ _) | (with_reducible refine Kd.C_drew ?_)))
                    (case side2 => exact (Kd.R_reads' HO_3.out).2.1)
                    rintro e w67 ⟨v1021, rfl, ho0, hb⟩
                    refine ⟨_, rfl, ?_⟩
                    have HO1022 := Aside0.mk (Kd.R_lower (Kd.R_newB (Kd.R_new' (Kd.R_new' ho0 (Kd.R_lt (zo HO_3))) (Kd.R_lt (zo HO1025))) (g := gb1013) (o := .cells #[.string t1011, .int .i64 x4_19, .bool x1014002_42, .int .i64 x1014003_42] 123 (0, 0)) (zb BK1013)) (keep_size (w := w) (g := g) (row := none) (zk HK)))
                    replace HO_3 := Aside0.mk (Kd.R_elder' (zo HO_3) (Kd.R_base ho0) hb)
                    replace HO1025 := Aside0.mk (Kd.R_elder' (zo HO1025) (Kd.R_base ho0) hb)
                    replace BK993 := Aside0.mk (blk_below (g := gb993) (o := .cells #[.slice none 0 0] 71 (0, 0)) (zb BK993) hb)
                    replace BK1013 := Aside0.mk (blk_below (g := gb1013) (o := .cells #[.string t1011, .int .i64 x4_19, .bool x1014002_42, .int .i64 x1014003_42] 123 (0, 0)) (zb BK1013) hb)
                    replace HK := Aside0.mk (KeepBut.trans (zk HK) (KeepBut.of_below hb g none) (.inl rfl))
                    replace HB := Aside0.mk (below_step (zj129_94 HB) hb)
                    replace HI0 := Aside0.mk (IsS129.below (zi129_94 HI0) hb)
                    (try clear hb)
                    (try clear hb2)
                    (try clear hk)
                    (try clear hi)
                    (try clear ho0)
                    refine hK.out _ _ ⟨(blk_cell BK1013.out 0).trans rfl, (blk_cell BK1013.out 1).trans rfl, (blk_cell BK1013.out 2).trans rfl, (blk_cell BK1013.out 3).trans rfl⟩ (fun hHeld => ?_)
                    clear hK K
                    refine norm_ (a' := ?_) ?_ ?_
                    rotate_left
                    ·show Act.put _ (some 56) _ = _
                     simp only [Act.put, List.setIfInBounds_toArray, List.set_cons_zero, List.set_cons_succ, i64_w, i32_w]
                     rfl
                    exact norm_ (by simp only [putAll, Act.put, List.setIfInBounds_toArray, List.set_cons_zero, List.set_cons_succ]) (hCont (v1021, v1024) _ ⟨hHeld, (by (with_reducible repeat (first | apply Kd.R_alloc | apply Kd.R_drewN | apply Kd.R_drew)); exact Kd.R_mono HO1022.out (fun _ hk => ⟨hk.1.2, ⟨hk.1.1.2, hk.2⟩⟩)), (by (with_reducible repeat (first | apply Kd.R_alloc | apply Kd.R_drewN | apply Kd.R_drew)); exact Kd.R_mono HO1025.out (fun _ hk => ⟨hk.2, ⟨hk.1.1.2, hk.1.2⟩⟩)), (by (with_reducible repeat (first | apply Kd.R_alloc | apply Kd.R_drewN | apply Kd.R_drew)); exact Kd.R_mono HO_3.out (fun _ hk => ⟨hk.2, ⟨hk.1.2, hk.1.1⟩⟩)), (zb BK1013), (zb BK993), (zi129_94 HI0), (zk HK), (zj129_94 HB)⟩)
                  rintro ⟨v1021, v1024⟩ w68 ⟨hS_, h0_, h1_, h2_, h3_, h4_, h5_, h6_, h7_⟩
                  have n0_ : Aside0 (Kd.R k123 123 w68 w.heap.size (fun k_ => some k_ ≠ (v1024 : Value).ownBlock ∧ some k_ ≠ (.slice Ao63 x3_2.length co63 : Value).ownBlock ∧ k_ ≠ gb1013) v1021 t1020) := ⟨h0_⟩
                  have n1_ : Aside0 (Kd.R k123 123 w68 w.heap.size (fun k_ => some k_ ≠ (v1021 : Value).ownBlock ∧ some k_ ≠ (.slice Ao63 x3_2.length co63 : Value).ownBlock ∧ k_ ≠ gb1013) v1024 y1023) := ⟨h1_⟩
                  have n2_ : Aside0 (Kd.R k123 123 w68 w.heap.size (fun k_ => some k_ ≠ (v1021 : Value).ownBlock ∧ some k_ ≠ (v1024 : Value).ownBlock ∧ k_ ≠ gb1013) (.slice Ao63 x3_2.length co63) x3_2) := ⟨h2_⟩
                  have n3_ : Aside0 (w68.heap[gb1013]? = some (.cells #[.string t1011, .int .i64 x4_19, .bool x1014002_42, .int .i64 x1014003_42] 123 (0, 0))) := ⟨h3_⟩
                  have n4_ : Aside0 (w68.heap[gb993]? = some (.cells #[.slice none 0 0] 71 (0, 0))) := ⟨h4_⟩
                  have n5_ : Aside0 (IsS129 w0 w68 g s0_0 x1001_42) := ⟨h5_⟩
                  have n6_ : Aside0 (KeepBut w w68 g none) := ⟨h6_⟩
                  have n7_ : Aside0 (Below w0.heap.size w0 w68) := ⟨h7_⟩
                  clear HO_3
                  clear BK993
                  clear BK1013
                  clear HI0
                  clear HK
                  clear HB
                  clear h0_ h1_ h2_ h3_ h4_ h5_ h6_ h7_
                  have HO1022 := n0_
                  have HO1025 := n1_
                  have HO_3 := n2_
                  have BK1013 := n3_
                  have BK993 := n4_
                  have HI0 := n5_
                  have HK := n6_
                  have HB := n7_
                  clear n0_ n1_ n2_ n3_ n4_ n5_ n6_ n7_
                  have hHeld : w68.cell? ⟨gb1013, 0, none⟩ = some (.string t1011) ∧ w68.cell? ⟨gb1013, 1, none⟩ = some (.int .i64 x4_19) ∧ w68.cell? ⟨gb1013, 2, none⟩ = some (.bool x1014002_42) ∧ w68.cell? ⟨gb1013, 3, none⟩ = some (.int .i64 x1014003_42) := hS_
                  obtain ⟨Ao70, co70, eo70⟩ := Kd.R_slice HO1025.out
                  (first | subst eo70 | (injection eo70 with f1_ f2_ f3_; have f4_ := f1_.symm; have f5_ := f3_.symm; clear f1_ f2_ f3_; subst f4_; subst f5_))
                  refine norm_ (a' := ?_) ?_ ?_
                  rotate_left
                  ·simp only [putAll, Act.put, List.setIfInBounds_toArray, List.set_cons_zero, List.set_cons_succ]
                   rfl
                  refine one_ (i := 4) (N := some 59) #[true, true, true, true, true, false] rfl rfl (by kernel_rfl) (by decide) (fun K hK => ?_)
                  refine Kd.R_append_rows_step k123 w.heap.size (by rfl) (.tmp 56) (.tmp 58) 69 123 (.agg #[(.string ⟨#[]⟩), (.int .i64 0), (.bool false), (.int .i64 0)]) 40 rfl Try.underlying69 info123 rfl (by decide) (by omega) v1021 t1020 y1023 _ _ _ (fun k_ => some k_ ≠ (.slice Ao63 x3_2.length co63 : Value).ownBlock ∧ some k_ ≠ (.slice Ao70 y1023.length co70 : Value).ownBlock ∧ k_ ≠ gb1013) (fun _ => False) rfl rfl ?aO ?aR (fun _ _ h => h) (fun _ h => h.elim) ?aF (Below.refl _ _) ?aS ?aL ?_
                  (case aR => repeat (first | exact (Kd.R_reads' HO1025.out).2.2 | (with_reducible refine Kd.C_alloc ?_ _) | (with_reducible refine Kd.C_drewN ?_ _) | (with_reducible refine Kd.C_drew ?_)))
                  (case aF => exact (fun k_ hk => ⟨Kd.fresh' (Kd.R_lt (zo HO_3)) k_ hk, Kd.fresh' (Kd.R_lt (zo HO1025)) k_ hk, Kd.freshB (g := gb1013) (o := .cells #[.string t1011, .int .i64 x4_19, .bool x1014002_42, .int .i64 x1014003_42] 123 (0, 0)) (zb BK1013) k_ hk⟩))
                  (case aO => exact (by (with_reducible repeat (first | apply Kd.R_alloc | apply Kd.R_drewN | apply Kd.R_drew)); exact Kd.R_mono HO1022.out (fun _ hk => ⟨hk.2.1, ⟨hk.1, hk.2.2⟩⟩)))
                  (case aS => exact (keep_size (w := w) (g := g) (row := none) (zk HK)))
                  (case aL => have := LMc60.out; omega)
                  intro v1027 w69 ho hb hg hat
                  rw [← Ny1026.out] at ho
                  have n0_ := Aside0.mk (Kd.R_after (ok := (fun k_ => some k_ ≠ (.slice Ao70 y1023.length co70 : Value).ownBlock ∧ k_ ≠ gb1013)) (by (with_reducible repeat (first | apply Kd.R_alloc | apply Kd.R_drewN | apply Kd.R_drew)); exact Kd.R_mono HO_3.out (fun _ hk => ⟨⟨hk.2.1, hk.2.2⟩, hk.1⟩)) hg hat)
                  have n1_ := Aside0.mk (blk_grown (g := gb993) (o := .cells #[.slice none 0 0] 71 (0, 0)) (zb BK993) hg (Kd.R_ne HO1022.out BK993.out (by decide)))
                  have n2_ := Aside0.mk (blk_grown (g := gb1013) (o := .cells #[.string t1011, .int .i64 x4_19, .bool x1014002_42, .int .i64 x1014003_42] 123 (0, 0)) (zb BK1013) hg (Kd.R_away HO1022.out (fun _ hk => hk.2.2)))
                  have n3_ := Aside0.mk (IsS129.grown (zi129_94 HI0) hg (IsS129.own_ne HI0.out HO1022.out (by decide)))
                  have n4_ := Aside0.mk (Kd.R_after (ok := (fun k_ => some k_ ≠ (.slice Ao63 x3_2.length co63 : Value).ownBlock ∧ k_ ≠ gb1013)) (by (with_reducible repeat (first | apply Kd.R_alloc | apply Kd.R_drewN | apply Kd.R_drew)); exact Kd.R_mono HO1025.out (fun _ hk => ⟨⟨hk.2.1, hk.2.2⟩, hk.1⟩)) hg hat)
                  have n5_ := Aside0.mk (below_weaken (zj129_94 HB) HL.out hb)
                  have n6_ := Aside0.mk (KeepBut.trans (zk HK) (KeepBut.of_grown hg g) (Kd.R_base2 HO1022.out))
                  have n7_ := Aside0.mk (ho)
                  clear HO_3
                  clear BK993
                  clear BK1013
                  clear HI0
                  clear HO1025
                  clear HB
                  clear HK
                  clear HO1022
                  have HO_3 := n0_
                  have BK993 := n1_
                  have BK1013 := n2_
                  have HI0 := n3_
                  have HO1025 := n4_
                  have HB := n5_
                  have HK := n6_
                  have HO1028 := n7_
                  clear n0_ n1_ n2_ n3_ n4_ n5_ n6_ n7_
                  clear ho hb hg hat
                  refine hK.out _ _ ⟨(blk_cell BK1013.out 0).trans rfl, (blk_cell BK1013.out 1).trans rfl, (blk_cell BK1013.out 2).trans rfl, (blk_cell BK1013.out 3).trans rfl⟩ (fun hHeld => ?_)
                  clear hK K
                  refine norm_ (a' := ?_) ?_ ?_
                  rotate_left
                  ·show Act.put _ (some 59) _ = _
                   simp only [Act.put, List.setIfInBounds_toArray, List.set_cons_zero, List.set_cons_succ, i64_w, i32_w]
                   rfl
                  refine pure_ (i := 5) (N := some 7) (v := ?_) (a' := ?_) #[true, true, true, true, true, true] rfl rfl (by kernel_rfl) (fun _ _ _ h => h) (Or.inl ⟨by rfl, ?_⟩) ?_ ?_
                  rotate_left
                  ·intro w'
                   go_simp
                   with_reducible rfl
                  rotate_left
                  ·simp only [Act.put, List.setIfInBounds_toArray, List.set_cons_zero, List.set_cons_succ, i64_w, i32_w]
                   rfl
                  refine done_ (by kernel_rfl) ?_
                  obtain ⟨Ao71, co71, eo71⟩ := Kd.R_slice HO1028.out
                  subst eo71
                  try go_wp2_with (first | ((with_reducible refine gate_callee (f := 136) rfl ?_); refine goesL_ (some 61) rfl rfl Try.func136 (by kernel_rfl) rfl #[.slice Ao71 y1026.length co71] rfl zl ?_; (with_reducible refine (spec_validParams.calls kj51 _ _ y1026 true _ ?side1 ?side2 A61.out).mono ?_); (case side1 => repeat (first | exact (Kd.R_reads' HO1028.out).2.2 | (with_reducible refine Kd.C_alloc ?_ _) | (with_reducible refine Kd.C_drewN ?_ _) | (with_reducible refine Kd.C_drew ?_))); (case side2 => exact (Kd.R_reads' HO1028.out).2.1); rintro e w72 ⟨rfl, hb⟩; refine ⟨_, rfl, ?_⟩; replace HO_3 := Aside0.mk (Kd.R_below (zo HO_3) hb); replace HO1025 := Aside0.mk (Kd.R_below (zo HO1025) hb); replace HO1028 := Aside0.mk (Kd.R_below (zo HO1028) hb); replace BK993 := Aside0.mk (blk_below (g := gb993) (o := .cells #[.slice none 0 0] 71 (0, 0)) (zb BK993) hb); replace BK1013 := Aside0.mk (blk_below (g := gb1013) (o := .cells #[.string t1011, .int .i64 x4_19, .bool x1014002_42, .int .i64 x1014003_42] 123 (0, 0)) (zb BK1013) hb); replace HK := Aside0.mk (KeepBut.trans (zk HK) (KeepBut.of_below hb g none) (.inl rfl)); replace HB := Aside0.mk (below_step (zj129_94 HB) hb); replace HI0 := Aside0.mk (IsS129.below (zi129_94 HI0) hb); (try clear hb); (try clear hb2); (try clear hk); (try clear hi)))
                  go_roundg kj51
                  case measure => have := HJ2.out; have := HK2.out; have := HJ14.out; have := HJ19.out; have := HJ24.out; have := HJ42.out; have := HJ51.out; omega
                  case rel => exact ⟨(y1026), (x4_51), (wrap64 (x5_2 - 1)), (x1001_42), zr, zr, H', ⟨by have := HJ2.out; have := HK2.out; have := HJ14.out; have := HJ19.out; have := HJ24.out; have := HJ42.out; have := HJ51.out; omega⟩, ⟨by (with_reducible repeat (first | apply Kd.R_alloc | apply Kd.R_drewN | apply Kd.R_drew)); exact Kd.R_mono HO1028.out (fun _ hk => trivial)⟩, ⟨zb BK993⟩, ⟨by repeat (first | (with_reducible first | exact HI0.out | apply IsS129.alloc | apply IsS129.drewN | apply IsS129.drew | apply IsS129.set_1 | refine IsS129.far ?_ NB0_993.out _ | refine IsS129.far ?_ NB0_1013.out _) | exact HI0.out)⟩, ⟨zk HK⟩, ⟨zj129_94 HB⟩⟩
                 ·replace c62 := Bool.eq_false_iff.mpr c62
                  subst c62
                  rw [if_neg (show ¬ (false = true) by decide)] at H
                  have H' := Aside0.mk H
                  clear H
                  obtain ⟨Ao73, co73, eo73⟩ := Kd.R_slice HO_3.out
                  subst eo73
                  try go_wp2
                  replace HO_3 := Aside0.mk (Kd.R_drew HO_3.out)
                  replace BK993 := Aside0.mk (blk_drew BK993.out)
                  replace BK1013 := Aside0.mk (blk_drew BK1013.out)
                  replace HI0 := Aside0.mk (IsS129.drew HI0.out)
                  replace HK := Aside0.mk (keep_drew HK.out)
                  replace HB := Aside0.mk (below_drew1 HB.out)
                  refine start_ (n := 6) (S := fun w' => w'.cell? ⟨gb1013, 0, none⟩ = some (.string t1011) ∧ w'.cell? ⟨gb1013, 1, none⟩ = some (.int .i64 x4_19) ∧ w'.cell? ⟨gb1013, 2, none⟩ = some (.bool x1014002_42) ∧ w'.cell? ⟨gb1013, 3, none⟩ = some (.int .i64 x1014003_42)) (ds := []) #[false, false, false, false, false, false] (by kernel_rfl) rfl rfl ⟨(blk_cell BK1013.out 0).trans rfl, (blk_cell BK1013.out 1).trans rfl, (blk_cell BK1013.out 2).trans rfl, (blk_cell BK1013.out 3).trans rfl⟩ (fun hHeld => ?_)
                  generalize wc.drew = w74 at HO_3 BK993 BK1013 HI0 HK HB hHeld ⊢
                  refine pure_ (i := 0) (N := some 55) (v := ?_) (a' := ?_) #[true, false, false, false, false, false] rfl rfl (by kernel_rfl) (fun _ _ _ h => h) (Or.inl ⟨by rfl, ?_⟩) ?_ ?_
                  rotate_left
                  ·intro w'
                   go_simp
                   with_reducible rfl
                  rotate_left
                  ·simp only [Act.put, List.setIfInBounds_toArray, List.set_cons_zero, List.set_cons_succ, i64_w, i32_w]
                   rfl
                  refine take_ (i := 2) (N := some 57) (v := ?_) (a' := ?_) #[true, false, true, false, false, false] rfl rfl (by kernel_rfl) (fun _ _ _ h => h) (Or.inl ⟨by rfl, ?_⟩) hHeld ?_ ?_
                  rotate_left
                  ·rintro w' ⟨s0, s1, s2, s3⟩
                   go_simp
                   with_reducible rfl
                  rotate_left
                  ·simp only [Act.put, List.setIfInBounds_toArray, List.set_cons_zero, List.set_cons_succ, i64_w, i32_w]
                   rfl
                  refine join_ (σ := Value × Value) 2 #[true, true, true, true, false, false] (fun s_ => [(56, s_.1), (58, s_.2)]) (fun s_ w' => (w'.cell? ⟨gb1013, 0, none⟩ = some (.string t1011) ∧ w'.cell? ⟨gb1013, 1, none⟩ = some (.int .i64 x4_19) ∧ w'.cell? ⟨gb1013, 2, none⟩ = some (.bool x1014002_42) ∧ w'.cell? ⟨gb1013, 3, none⟩ = some (.int .i64 x1014003_42)) ∧ (Kd.R k123 123 w' w.heap.size (fun k_ => some k_ ≠ (s_.2 : Value).ownBlock ∧ some k_ ≠ (.slice Ao73 x3_2.length co73 : Value).ownBlock ∧ k_ ≠ gb1013) s_.1 t1020) ∧ (Kd.R k123 123 w' w.heap.size (fun k_ => some k_ ≠ (s_.1 : Value).ownBlock ∧ some k_ ≠ (.slice Ao73 x3_2.length co73 : Value).ownBlock ∧ k_ ≠ gb1013) s_.2 y1023) ∧ (Kd.R k123 123 w' w.heap.size (fun k_ => some k_ ≠ (s_.1 : Value).ownBlock ∧ some k_ ≠ (s_.2 : Value).ownBlock ∧ k_ ≠ gb1013) (.slice Ao73 x3_2.length co73) x3_2) ∧ (w'.heap[gb1013]? = some (.cells #[.string t1011, .int .i64 x4_19, .bool x1014002_42, .int .i64 x1014003_42] 123 (0, 0))) ∧ (w'.heap[gb993]? = some (.cells #[.slice none 0 0] 71 (0, 0))) ∧ (IsS129 w0 w' g s0_0 x1001_42) ∧ (KeepBut w w' g none) ∧ (Below w0.heap.size w0 w')) ?_ ?_
                  rotate_left
                  ·intro hCont
                   refine two_ (i := 1) (j := 3) (Ni := some 56) (Nj := some 58) #[true, true, true, false, false, false] #[true, false, true, true, false, false] rfl rfl rfl rfl (by kernel_rfl) (by decide) (by decide) (fun K hK => ?_) (fun K hK => ?_)
                   ·skip
                    refine goes_ Try.func99 (by kernel_rfl) rfl #[.slice Ao73 x3_2.length co73] (by rfl) rfl rfl zl ?_
                    with_reducible refine (spec_copyParams.calls _ _ x3_2 t1020 _ ?side1 ?side2 A59.out).mono ?_
                    (case side1 => repeat (first | exact (Kd.R_reads' HO_3.out).2.2 | (with_reducible refine Kd.C_alloc ?_ _) | (with_reducible refine Kd.C_drewN ?_ _) | (with_reducible refine Kd.C_drew ?_)))
                    (case side2 => exact (Kd.R_reads' HO_3.out).2.1)
                    rintro e w75 ⟨v1021, rfl, ho0, hb⟩
                    refine ⟨_, rfl, ?_⟩
                    have HO1022 := Aside0.mk (Kd.R_lower (Kd.R_newB (Kd.R_new' ho0 (Kd.R_lt (zo HO_3))) (g := gb1013) (o := .cells #[.string t1011, .int .i64 x4_19, .bool x1014002_42, .int .i64 x1014003_42] 123 (0, 0)) (zb BK1013)) (keep_size (w := w) (g := g) (row := none) (zk HK)))
                    replace HO_3 := Aside0.mk (Kd.R_elder' (zo HO_3) (Kd.R_base ho0) hb)
                    replace BK993 := Aside0.mk (blk_below (g := gb993) (o := .cells #[.slice none 0 0] 71 (0, 0)) (zb BK993) hb)
                    replace BK1013 := Aside0.mk (blk_below (g := gb1013) (o := .cells #[.string t1011, .int .i64 x4_19, .bool x1014002_42, .int .i64 x1014003_42] 123 (0, 0)) (zb BK1013) hb)
                    replace HK := Aside0.mk (KeepBut.trans (zk HK) (KeepBut.of_below hb g none) (.inl rfl))
                    replace HB := Aside0.mk (below_step (zj129_94 HB) hb)
                    replace HI0 := Aside0.mk (IsS129.below (zi129_94 HI0) hb)
                    (try clear hb)
                    (try clear hb2)
                    (try clear hk)
                    (try clear hi)
                    (try clear ho0)
                    refine hK.out _ _ ⟨(blk_cell BK1013.out 0).trans rfl, (blk_cell BK1013.out 1).trans rfl, (blk_cell BK1013.out 2).trans rfl, (blk_cell BK1013.out 3).trans rfl⟩ (fun hHeld => ?_)
                    clear hK K
                    refine norm_ (a' := ?_) ?_ ?_
                    rotate_left
                    ·show Act.put _ (some 56) _ = _
                     simp only [Act.put, List.setIfInBounds_toArray, List.set_cons_zero, List.set_cons_succ, i64_w, i32_w]
                     rfl
                    refine one_ (i := 3) (N := some 58) #[true, true, true, true, false, false] rfl rfl (by kernel_rfl) (by decide) (fun K hK => ?_)
                    refine Kd.R_lit_step k123 _ 123 ?hg (N := 58) ?hd (xs := ([(⟨t1011, x4_19, x1014002_42, x1014003_42⟩ : S123)] : List (S123))) (inner := [.string t1011, .int .i64 x4_19, .bool x1014002_42, .int .i64 x1014003_42]) (ok := fun _ => True) (okp := fun _ => True) ?hr ?hp (fun _ hk => hk) trivial (Below.refl _ _) (Nat.le_refl _) (by simp) ?_; (case hd => rfl); (case hg => rfl); (case hr => first | (go_simp; done) | (go_simp; rfl)); (case hp => exact (Reps.c4 (show Kd.M k123 _ _ _ (⟨t1011, x4_19, x1014002_42, x1014003_42⟩ : S123) [.string t1011, .int .i64 x4_19, .bool x1014002_42, .int .i64 x1014003_42] from (k123_mkM _ _ _ (⟨t1011, x4_19, x1014002_42, x1014003_42⟩ : S123) )) (Reps.none _ _)))
                    intro v1024 w76 ho77 hb hg_ hnew_
                    clear hg_ hnew_
                    (first | rw [← Ny1023.out] at ho77 | (simp only [Int.reduceToNat] at ho77; rw [← Ny1023.out] at ho77))
                    have HO1025 := Aside0.mk (Kd.R_lower (Kd.R_newB (Kd.R_new' (Kd.R_new' ho77 (Kd.R_lt (zo HO_3))) (Kd.R_lt (zo HO1022))) (g := gb1013) (o := .cells #[.string t1011, .int .i64 x4_19, .bool x1014002_42, .int .i64 x1014003_42] 123 (0, 0)) (zb BK1013)) (keep_size (w := w) (g := g) (row := none) (zk HK)))
                    replace HO_3 := Aside0.mk (Kd.R_elder' (zo HO_3) (Kd.R_base ho77) hb)
                    replace HO1022 := Aside0.mk (Kd.R_elder' (zo HO1022) (Kd.R_base ho77) hb)
                    replace BK993 := Aside0.mk (blk_below (g := gb993) (o := .cells #[.slice none 0 0] 71 (0, 0)) (zb BK993) hb)
                    replace BK1013 := Aside0.mk (blk_below (g := gb1013) (o := .cells #[.string t1011, .int .i64 x4_19, .bool x1014002_42, .int .i64 x1014003_42] 123 (0, 0)) (zb BK1013) hb)
                    replace HK := Aside0.mk (KeepBut.trans (zk HK) (KeepBut.of_below hb g none) (.inl rfl))
                    replace HB := Aside0.mk (below_step (zj129_94 HB) hb)
                    replace HI0 := Aside0.mk (IsS129.below (zi129_94 HI0) hb)
                    clear hb ho77
                    refine hK.out _ _ ⟨(blk_cell BK1013.out 0).trans rfl, (blk_cell BK1013.out 1).trans rfl, (blk_cell BK1013.out 2).trans rfl, (blk_cell BK1013.out 3).trans rfl⟩ (fun hHeld => ?_)
                    clear hK K
                    refine norm_ (a' := ?_) ?_ ?_
                    rotate_left
                    ·show Act.put _ (some 58) _ = _
                     simp only [Act.put, List.setIfInBounds_toArray, List.set_cons_zero, List.set_cons_succ, i64_w, i32_w]
                     rfl
                    exact norm_ (by simp only [putAll, Act.put, List.setIfInBounds_toArray, List.set_cons_zero, List.set_cons_succ]) (hCont (v1021, v1024) _ ⟨hHeld, (by (with_reducible repeat (first | apply Kd.R_alloc | apply Kd.R_drewN | apply Kd.R_drew)); exact Kd.R_mono HO1022.out (fun _ hk => ⟨hk.2, ⟨hk.1.1.2, hk.1.2⟩⟩)), (by (with_reducible repeat (first | apply Kd.R_alloc | apply Kd.R_drewN | apply Kd.R_drew)); exact Kd.R_mono HO1025.out (fun _ hk => ⟨hk.1.2, ⟨hk.1.1.2, hk.2⟩⟩)), (by (with_reducible repeat (first | apply Kd.R_alloc | apply Kd.R_drewN | apply Kd.R_drew)); exact Kd.R_mono HO_3.out (fun _ hk => ⟨hk.1.2, ⟨hk.2, hk.1.1⟩⟩)), (zb BK1013), (zb BK993), (zi129_94 HI0), (zk HK), (zj129_94 HB)⟩)
                   ·skip
                    refine Kd.R_lit_step k123 _ 123 ?hg (N := 58) ?hd (xs := ([(⟨t1011, x4_19, x1014002_42, x1014003_42⟩ : S123)] : List (S123))) (inner := [.string t1011, .int .i64 x4_19, .bool x1014002_42, .int .i64 x1014003_42]) (ok := fun _ => True) (okp := fun _ => True) ?hr ?hp (fun _ hk => hk) trivial (Below.refl _ _) (Nat.le_refl _) (by simp) ?_; (case hd => rfl); (case hg => rfl); (case hr => first | (go_simp; done) | (go_simp; rfl)); (case hp => exact (Reps.c4 (show Kd.M k123 _ _ _ (⟨t1011, x4_19, x1014002_42, x1014003_42⟩ : S123) [.string t1011, .int .i64 x4_19, .bool x1014002_42, .int .i64 x1014003_42] from (k123_mkM _ _ _ (⟨t1011, x4_19, x1014002_42, x1014003_42⟩ : S123) )) (Reps.none _ _)))
                    intro v1024 w75 ho76 hb hg_ hnew_
                    clear hg_ hnew_
                    (first | rw [← Ny1023.out] at ho76 | (simp only [Int.reduceToNat] at ho76; rw [← Ny1023.out] at ho76))
                    have HO1025 := Aside0.mk (Kd.R_lower (Kd.R_newB (Kd.R_new' ho76 (Kd.R_lt (zo HO_3))) (g := gb1013) (o := .cells #[.string t1011, .int .i64 x4_19, .bool x1014002_42, .int .i64 x1014003_42] 123 (0, 0)) (zb BK1013)) (keep_size (w := w) (g := g) (row := none) (zk HK)))
                    replace HO_3 := Aside0.mk (Kd.R_elder' (zo HO_3) (Kd.R_base ho76) hb)
                    replace BK993 := Aside0.mk (blk_below (g := gb993) (o := .cells #[.slice none 0 0] 71 (0, 0)) (zb BK993) hb)
                    replace BK1013 := Aside0.mk (blk_below (g := gb1013) (o := .cells #[.string t1011, .int .i64 x4_19, .bool x1014002_42, .int .i64 x1014003_42] 123 (0, 0)) (zb BK1013) hb)
                    replace HK := Aside0.mk (KeepBut.trans (zk HK) (KeepBut.of_below hb g none) (.inl rfl))
                    replace HB := Aside0.mk (below_step (zj129_94 HB) hb)
                    replace HI0 := Aside0.mk (IsS129.below (zi129_94 HI0) hb)
                    clear hb ho76
                    refine hK.out _ _ ⟨(blk_cell BK1013.out 0).trans rfl, (blk_cell BK1013.out 1).trans rfl, (blk_cell BK1013.out 2).trans rfl, (blk_cell BK1013.out 3).trans rfl⟩ (fun hHeld => ?_)
                    clear hK K
                    refine norm_ (a' := ?_) ?_ ?_
                    rotate_left
                    ·show Act.put _ (some 58) _ = _
                     simp only [Act.put, List.setIfInBounds_toArray, List.set_cons_zero, List.set_cons_succ, i64_w, i32_w]
                     rfl
                    refine one_ (i := 1) (N := some 56) #[true, true, true, true, false, false] rfl rfl (by kernel_rfl) (by decide) (fun K hK => ?_)
                    refine goes_ Try.func99 (by kernel_rfl) rfl #[.slice Ao73 x3_2.length co73] (by rfl) rfl rfl zl ?_
                    with_reducible refine (spec_copyParams.calls _ _ x3_2 t1020 _ ?side1 ?side2 A59.out).mono ?_
                    (case side1 => repeat (first | exact (Kd.R_reads' HO_3.out).2.2 | (with_reducible refine Kd.C_alloc ?_ _) | (with_reducible refine Kd.C_drewN ?_ _) | (with_reducible refine Kd.C_drew ?_)))
                    (case side2 => exact (Kd.R_reads' HO_3.out).2.1)
                    rintro e w77 ⟨v1021, rfl, ho0, hb⟩
                    refine ⟨_, rfl, ?_⟩
                    have HO1022 := Aside0.mk (Kd.R_lower (Kd.R_newB (Kd.R_new' (Kd.R_new' ho0 (Kd.R_lt (zo HO_3))) (Kd.R_lt (zo HO1025))) (g := gb1013) (o := .cells #[.string t1011, .int .i64 x4_19, .bool x1014002_42, .int .i64 x1014003_42] 123 (0, 0)) (zb BK1013)) (keep_size (w := w) (g := g) (row := none) (zk HK)))
                    replace HO_3 := Aside0.mk (Kd.R_elder' (zo HO_3) (Kd.R_base ho0) hb)
                    replace HO1025 := Aside0.mk (Kd.R_elder' (zo HO1025) (Kd.R_base ho0) hb)
                    replace BK993 := Aside0.mk (blk_below (g := gb993) (o := .cells #[.slice none 0 0] 71 (0, 0)) (zb BK993) hb)
                    replace BK1013 := Aside0.mk (blk_below (g := gb1013) (o := .cells #[.string t1011, .int .i64 x4_19, .bool x1014002_42, .int .i64 x1014003_42] 123 (0, 0)) (zb BK1013) hb)
                    replace HK := Aside0.mk (KeepBut.trans (zk HK) (KeepBut.of_below hb g none) (.inl rfl))
                    replace HB := Aside0.mk (below_step (zj129_94 HB) hb)
                    replace HI0 := Aside0.mk (IsS129.below (zi129_94 HI0) hb)
                    (try clear hb)
                    (try clear hb2)
                    (try clear hk)
                    (try clear hi)
                    (try clear ho0)
                    refine hK.out _ _ ⟨(blk_cell BK1013.out 0).trans rfl, (blk_cell BK1013.out 1).trans rfl, (blk_cell BK1013.out 2).trans rfl, (blk_cell BK1013.out 3).trans rfl⟩ (fun hHeld => ?_)
                    clear hK K
                    refine norm_ (a' := ?_) ?_ ?_
                    rotate_left
                    ·show Act.put _ (some 56) _ = _
                     simp only [Act.put, List.setIfInBounds_toArray, List.set_cons_zero, List.set_cons_succ, i64_w, i32_w]
                     rfl
                    exact norm_ (by simp only [putAll, Act.put, List.setIfInBounds_toArray, List.set_cons_zero, List.set_cons_succ]) (hCont (v1021, v1024) _ ⟨hHeld, (by (with_reducible repeat (first | apply Kd.R_alloc | apply Kd.R_drewN | apply Kd.R_drew)); exact Kd.R_mono HO1022.out (fun _ hk => ⟨hk.1.2, ⟨hk.1.1.2, hk.2⟩⟩)), (by (with_reducible repeat (first | apply Kd.R_alloc | apply Kd.R_drewN | apply Kd.R_drew)); exact Kd.R_mono HO1025.out (fun _ hk => ⟨hk.2, ⟨hk.1.1.2, hk.1.2⟩⟩)), (by (with_reducible repeat (first | apply Kd.R_alloc | apply Kd.R_drewN | apply Kd.R_drew)); exact Kd.R_mono HO_3.out (fun _ hk => ⟨hk.2, ⟨hk.1.2, hk.1.1⟩⟩)), (zb BK1013), (zb BK993), (zi129_94 HI0), (zk HK), (zj129_94 HB)⟩)
                  rintro ⟨v1021, v1024⟩ w78 ⟨hS_, h0_, h1_, h2_, h3_, h4_, h5_, h6_, h7_⟩
                  have n0_ : Aside0 (Kd.R k123 123 w78 w.heap.size (fun k_ => some k_ ≠ (v1024 : Value).ownBlock ∧ some k_ ≠ (.slice Ao73 x3_2.length co73 : Value).ownBlock ∧ k_ ≠ gb1013) v1021 t1020) := ⟨h0_⟩
                  have n1_ : Aside0 (Kd.R k123 123 w78 w.heap.size (fun k_ => some k_ ≠ (v1021 : Value).ownBlock ∧ some k_ ≠ (.slice Ao73 x3_2.length co73 : Value).ownBlock ∧ k_ ≠ gb1013) v1024 y1023) := ⟨h1_⟩
                  have n2_ : Aside0 (Kd.R k123 123 w78 w.heap.size (fun k_ => some k_ ≠ (v1021 : Value).ownBlock ∧ some k_ ≠ (v1024 : Value).ownBlock ∧ k_ ≠ gb1013) (.slice Ao73 x3_2.length co73) x3_2) := ⟨h2_⟩
                  have n3_ : Aside0 (w78.heap[gb1013]? = some (.cells #[.string t1011, .int .i64 x4_19, .bool x1014002_42, .int .i64 x1014003_42] 123 (0, 0))) := ⟨h3_⟩
                  have n4_ : Aside0 (w78.heap[gb993]? = some (.cells #[.slice none 0 0] 71 (0, 0))) := ⟨h4_⟩
                  have n5_ : Aside0 (IsS129 w0 w78 g s0_0 x1001_42) := ⟨h5_⟩
                  have n6_ : Aside0 (KeepBut w w78 g none) := ⟨h6_⟩
                  have n7_ : Aside0 (Below w0.heap.size w0 w78) := ⟨h7_⟩
                  clear HO_3
                  clear BK993
                  clear BK1013
                  clear HI0
                  clear HK
                  clear HB
                  clear h0_ h1_ h2_ h3_ h4_ h5_ h6_ h7_
                  have HO1022 := n0_
                  have HO1025 := n1_
                  have HO_3 := n2_
                  have BK1013 := n3_
                  have BK993 := n4_
                  have HI0 := n5_
                  have HK := n6_
                  have HB := n7_
                  clear n0_ n1_ n2_ n3_ n4_ n5_ n6_ n7_
                  have hHeld : w78.cell? ⟨gb1013, 0, none⟩ = some (.string t1011) ∧ w78.cell? ⟨gb1013, 1, none⟩ = some (.int .i64 x4_19) ∧ w78.cell? ⟨gb1013, 2, none⟩ = some (.bool x1014002_42) ∧ w78.cell? ⟨gb1013, 3, none⟩ = some (.int .i64 x1014003_42) := hS_
                  obtain ⟨Ao80, co80, eo80⟩ := Kd.R_slice HO1025.out
                  (first | subst eo80 | (injection eo80 with f1_ f2_ f3_; have f4_ := f1_.symm; have f5_ := f3_.symm; clear f1_ f2_ f3_; subst f4_; subst f5_))
                  refine norm_ (a' := ?_) ?_ ?_
                  rotate_left
                  ·simp only [putAll, Act.put, List.setIfInBounds_toArray, List.set_cons_zero, List.set_cons_succ]
                   rfl
                  refine one_ (i := 4) (N := some 59) #[true, true, true, true, true, false] rfl rfl (by kernel_rfl) (by decide) (fun K hK => ?_)
                  refine Kd.R_append_rows_step k123 w.heap.size (by rfl) (.tmp 56) (.tmp 58) 69 123 (.agg #[(.string ⟨#[]⟩), (.int .i64 0), (.bool false), (.int .i64 0)]) 40 rfl Try.underlying69 info123 rfl (by decide) (by omega) v1021 t1020 y1023 _ _ _ (fun k_ => some k_ ≠ (.slice Ao73 x3_2.length co73 : Value).ownBlock ∧ some k_ ≠ (.slice Ao80 y1023.length co80 : Value).ownBlock ∧ k_ ≠ gb1013) (fun _ => False) rfl rfl ?aO ?aR (fun _ _ h => h) (fun _ h => h.elim) ?aF (Below.refl _ _) ?aS ?aL ?_
                  (case aR => repeat (first | exact (Kd.R_reads' HO1025.out).2.2 | (with_reducible refine Kd.C_alloc ?_ _) | (with_reducible refine Kd.C_drewN ?_ _) | (with_reducible refine Kd.C_drew ?_)))
                  (case aF => exact (fun k_ hk => ⟨Kd.fresh' (Kd.R_lt (zo HO_3)) k_ hk, Kd.fresh' (Kd.R_lt (zo HO1025)) k_ hk, Kd.freshB (g := gb1013) (o := .cells #[.string t1011, .int .i64 x4_19, .bool x1014002_42, .int .i64 x1014003_42] 123 (0, 0)) (zb BK1013) k_ hk⟩))
                  (case aO => exact (by (with_reducible repeat (first | apply Kd.R_alloc | apply Kd.R_drewN | apply Kd.R_drew)); exact Kd.R_mono HO1022.out (fun _ hk => ⟨hk.2.1, ⟨hk.1, hk.2.2⟩⟩)))
                  (case aS => exact (keep_size (w := w) (g := g) (row := none) (zk HK)))
                  (case aL => have := LMc60.out; omega)
                  intro v1027 w79 ho hb hg hat
                  rw [← Ny1026.out] at ho
                  have n0_ := Aside0.mk (Kd.R_after (ok := (fun k_ => some k_ ≠ (.slice Ao80 y1023.length co80 : Value).ownBlock ∧ k_ ≠ gb1013)) (by (with_reducible repeat (first | apply Kd.R_alloc | apply Kd.R_drewN | apply Kd.R_drew)); exact Kd.R_mono HO_3.out (fun _ hk => ⟨⟨hk.2.1, hk.2.2⟩, hk.1⟩)) hg hat)
                  have n1_ := Aside0.mk (blk_grown (g := gb993) (o := .cells #[.slice none 0 0] 71 (0, 0)) (zb BK993) hg (Kd.R_ne HO1022.out BK993.out (by decide)))
                  have n2_ := Aside0.mk (blk_grown (g := gb1013) (o := .cells #[.string t1011, .int .i64 x4_19, .bool x1014002_42, .int .i64 x1014003_42] 123 (0, 0)) (zb BK1013) hg (Kd.R_away HO1022.out (fun _ hk => hk.2.2)))
                  have n3_ := Aside0.mk (IsS129.grown (zi129_94 HI0) hg (IsS129.own_ne HI0.out HO1022.out (by decide)))
                  have n4_ := Aside0.mk (Kd.R_after (ok := (fun k_ => some k_ ≠ (.slice Ao73 x3_2.length co73 : Value).ownBlock ∧ k_ ≠ gb1013)) (by (with_reducible repeat (first | apply Kd.R_alloc | apply Kd.R_drewN | apply Kd.R_drew)); exact Kd.R_mono HO1025.out (fun _ hk => ⟨⟨hk.2.1, hk.2.2⟩, hk.1⟩)) hg hat)
                  have n5_ := Aside0.mk (below_weaken (zj129_94 HB) HL.out hb)
                  have n6_ := Aside0.mk (KeepBut.trans (zk HK) (KeepBut.of_grown hg g) (Kd.R_base2 HO1022.out))
                  have n7_ := Aside0.mk (ho)
                  clear HO_3
                  clear BK993
                  clear BK1013
                  clear HI0
                  clear HO1025
                  clear HB
                  clear HK
                  clear HO1022
                  have HO_3 := n0_
                  have BK993 := n1_
                  have BK1013 := n2_
                  have HI0 := n3_
                  have HO1025 := n4_
                  have HB := n5_
                  have HK := n6_
                  have HO1028 := n7_
                  clear n0_ n1_ n2_ n3_ n4_ n5_ n6_ n7_
                  clear ho hb hg hat
                  refine hK.out _ _ ⟨(blk_cell BK1013.out 0).trans rfl, (blk_cell BK1013.out 1).trans rfl, (blk_cell BK1013.out 2).trans rfl, (blk_cell BK1013.out 3).trans rfl⟩ (fun hHeld => ?_)
                  clear hK K
                  refine norm_ (a' := ?_) ?_ ?_
                  rotate_left
                  ·show Act.put _ (some 59) _ = _
                   simp only [Act.put, List.setIfInBounds_toArray, List.set_cons_zero, List.set_cons_succ, i64_w, i32_w]
                   rfl
                  refine pure_ (i := 5) (N := some 7) (v := ?_) (a' := ?_) #[true, true, true, true, true, true] rfl rfl (by kernel_rfl) (fun _ _ _ h => h) (Or.inl ⟨by rfl, ?_⟩) ?_ ?_
                  rotate_left
                  ·intro w'
                   go_simp
                   with_reducible rfl
                  rotate_left
                  ·simp only [Act.put, List.setIfInBounds_toArray, List.set_cons_zero, List.set_cons_succ, i64_w, i32_w]
                   rfl
                  refine done_ (by kernel_rfl) ?_
                  obtain ⟨Ao81, co81, eo81⟩ := Kd.R_slice HO1028.out
                  subst eo81
                  try go_wp2_with (first | ((with_reducible refine gate_callee (f := 136) rfl ?_); refine goesL_ (some 61) rfl rfl Try.func136 (by kernel_rfl) rfl #[.slice Ao81 y1026.length co81] rfl zl ?_; (with_reducible refine (spec_validParams.calls kj51 _ _ y1026 false _ ?side1 ?side2 A61.out).mono ?_); (case side1 => repeat (first | exact (Kd.R_reads' HO1028.out).2.2 | (with_reducible refine Kd.C_alloc ?_ _) | (with_reducible refine Kd.C_drewN ?_ _) | (with_reducible refine Kd.C_drew ?_))); (case side2 => exact (Kd.R_reads' HO1028.out).2.1); rintro e w82 ⟨rfl, hb⟩; refine ⟨_, rfl, ?_⟩; replace HO_3 := Aside0.mk (Kd.R_below (zo HO_3) hb); replace HO1025 := Aside0.mk (Kd.R_below (zo HO1025) hb); replace HO1028 := Aside0.mk (Kd.R_below (zo HO1028) hb); replace BK993 := Aside0.mk (blk_below (g := gb993) (o := .cells #[.slice none 0 0] 71 (0, 0)) (zb BK993) hb); replace BK1013 := Aside0.mk (blk_below (g := gb1013) (o := .cells #[.string t1011, .int .i64 x4_19, .bool x1014002_42, .int .i64 x1014003_42] 123 (0, 0)) (zb BK1013) hb); replace HK := Aside0.mk (KeepBut.trans (zk HK) (KeepBut.of_below hb g none) (.inl rfl)); replace HB := Aside0.mk (below_step (zj129_94 HB) hb); replace HI0 := Aside0.mk (IsS129.below (zi129_94 HI0) hb); (try clear hb); (try clear hb2); (try clear hk); (try clear hi)))
                  go_roundg kj51
                  case measure => have := HJ2.out; have := HK2.out; have := HJ14.out; have := HJ19.out; have := HJ24.out; have := HJ42.out; have := HJ51.out; omega
                  case rel => exact ⟨(x3_2), (x4_51), (wrap64 (x5_2 - 1)), (x1001_42), zr, zr, H', ⟨by have := HJ2.out; have := HK2.out; have := HJ14.out; have := HJ19.out; have := HJ24.out; have := HJ42.out; have := HJ51.out; omega⟩, ⟨by (with_reducible repeat (first | apply Kd.R_alloc | apply Kd.R_drewN | apply Kd.R_drew)); exact Kd.R_mono HO_3.out (fun _ hk => trivial)⟩, ⟨zb BK993⟩, ⟨by repeat (first | (with_reducible first | exact HI0.out | apply IsS129.alloc | apply IsS129.drewN | apply IsS129.drew | apply IsS129.set_1 | refine IsS129.far ?_ NB0_993.out _ | refine IsS129.far ?_ NB0_1013.out _) | exact HI0.out)⟩, ⟨zk HK⟩, ⟨zj129_94 HB⟩⟩
                ·rw [if_neg c60] at H
                 exact absurd H (by simp)
     ·rw [if_neg c14] at H
      have c14b0 : decide (0 < x5_2) = false := decide_eq_false c14
      clear c14
      simp only [Option.some.injEq, Prod.mk.injEq] at H
      obtain ⟨rfl, rfl⟩ := H
      obtain ⟨Ao83, co83, eo83⟩ := Kd.R_slice HO_3.out
      subst eo83
      have hnb84 := NB993_0.out
      have hnc84 := NB0_993.out
      have hcz85_0 : wr.cell? ⟨gb993, 0, none⟩ = some (.slice none 0 0) := (blk_cell BK993.out 0).trans rfl
      have hfz85_0 := blk_frozen BK993.out 0
      go_wp2
      refine bodyPost_ret (results_cell_row rfl _ _ gb993 71 #[.slice Ao83 x3_2.length co83] (0, 0) _ rfl (by (with_reducible repeat (first | refine blk_drewN ?_ _ | refine blk_drew ?_ | refine blk_alloc ?_ _)); refine blk_put (cs := #[.slice none 0 0]) ?_ 0 _ rfl; (with_reducible repeat (first | refine blk_drewN ?_ _ | refine blk_drew ?_ | refine blk_alloc ?_ _)); exact BK993.out) Try.underlying71 rfl (by kernel_rfl)) rfl ?_
      exact ⟨_, by first | rfl | (simp [errW_none, errW_some] <;> rfl) | (simp [*, errW_none, errW_some] <;> rfl), by (with_reducible repeat (first | apply Kd.R_alloc | apply Kd.R_drewN | apply Kd.R_drew)); exact Kd.R_mono (Kd.R_far (p := ⟨gb993, 0, none⟩) (Kd.R_types HO_3.out BK993.out (by decide)) (fun _ hk => hk.2) (.slice Ao83 x3_2.length co83)) (fun _ hk => trivial), by repeat (first | (with_reducible first | exact HI0.out | apply IsS129.alloc | apply IsS129.drewN | apply IsS129.drew | apply IsS129.set_1 | refine IsS129.far ?_ NB0_993.out _) | exact HI0.out), by repeat (first | (with_reducible first | exact HB.out | apply below_alloc | apply pw_below_drewN | apply below_drew1 | refine below_set ?_ (IsS129.ge HI0.out) | refine below_set ?_ GE993.out) | exact HB.out), zk HK⟩

end Go.Proofs.Ytfcpbgedgedalaa.Q
