-- written by px.py and merge.py (programs of this claim's), over the kit's print. Not trusted: Lean checks it.
import Derived.Test.YtkandhljbbolnaaQ0
import Derived.Test.YtkandhljbbolnaaM0FnValidCall
import Derived.Test.YtkandhljbbolnaaM1FnValidCall
namespace Go.Proofs.Ytkandhljbbolnaa.Q
open Go.RowKit Go.Proofs.YtkandhljbbolnaaL.PrintWords Go.Proofs.YtkandhljbbolnaaL.PrintLast Go.Proofs.YtkandhljbbolnaaL.PrintMore
attribute [local go_sem] max2_int min2_int max_two min_two max_three min_three max_four min_four   -- for this text's walks alone
set_option linter.unusedVariables false
set_option linter.unusedSimpArgs false

theorem zi150_34 {w0 W W' : World} {g : Nat} {f0 f0' : List Int} {f1 f1' : Int} (h : Aside0 (IsS150 w0 W g f0 f1)) (i : IsS150 w0 W g f0 f1 → IsS150 w0 W' g f0' f1' := by intro hh_; repeat (first | (with_reducible first | exact hh_ | apply IsS150.alloc | apply IsS150.drewN | apply IsS150.drew | apply IsS150.set_1 | refine IsS150.far ?_ (Aside0.out (by assumption)) _) | exact hh_)) : IsS150 w0 W' g f0' f1' := i h.out
theorem zj150_34 {B : Nat} {w W W' : World} (h : Aside0 (Below B w W)) (i : Below B w W → Below B w W' := by intro hh_; repeat (first | (with_reducible first | exact hh_ | apply below_alloc | apply pw_below_drewN | apply below_drew1 | refine below_set ?_ (IsS150.ge (Aside0.out (by assumption))) | refine below_set ?_ (Aside0.out (by assumption))) | exact hh_)) : Below B w W' := i h.out
/-! ### spec_goodCallOf: function 124 -/
mutual
def spec_goodCallOf.l0 : Nat → Int → List Int → Int → List (S110) → Option ((List (S110)) × Int)
 | 0, _, _, _, _ => none
 | k + 1, x4, x1000, x1001, x350000 => if x4 > 0 then ((spec_reader_pick.f k x1000 x1001 3).bind fun bt355 => (if bt355.1 = 0 then ((spec_goodFlat.f k x1000 bt355.2).bind fun bt357 => (if x350000.length < 1954687338268 then (spec_goodCallOf.l0 k (wrap64 (x4 - 1)) x1000 bt357.2.2 (x350000 ++ [(⟨1, (⟨#[]⟩ : ByteArray), bt357.1, ([] : List (S94))⟩ : S110)])) else (none))) else ((spec_aNumber.f k x1000 bt355.2).bind fun bt367 => (if x350000.length < 1954687338268 then (spec_goodCallOf.l0 k (wrap64 (x4 - 1)) x1000 bt367.2 (x350000 ++ [(⟨0, (⟨#[]⟩ : ByteArray), (([bt367.1] : List Int)), ([] : List (S94))⟩ : S110)])) else (none))))) else ((spec_reader_one.f k x1000 x1001 (([2, 1, 0, 3] : List Int))).bind fun bt378 => (spec_goodCallOf.l1 k bt378.1 x1000 bt378.2 x350000))
def spec_goodCallOf.l1 : Nat → Int → List Int → Int → List (S110) → Option ((List (S110)) × Int)
 | 0, _, _, _, _ => none
 | k + 1, x5, x1000, x1001, x350000 => if x5 > 0 then ((spec_reader_pick.f k x1000 x1001 3).bind fun bt380 => (if bt380.1 = 0 then ((spec_goodFlat.f k x1000 bt380.2).bind fun bt382 => (if x350000.length < 1954687338268 then (spec_goodCallOf.l1 k (wrap64 (x5 - 1)) x1000 bt382.2.2 (x350000 ++ [(⟨3, (⟨#[]⟩ : ByteArray), ([] : List Int), bt382.2.1⟩ : S110)])) else (none))) else ((spec_aName.f k x1000 bt380.2).bind fun bt392 => ((spec_aNumber.f k x1000 bt392.2).bind fun bt394 => (if x350000.length < 1954687338268 then (spec_goodCallOf.l1 k (wrap64 (x5 - 1)) x1000 bt394.2 (x350000 ++ [(⟨2, bt392.1, (([bt394.1] : List Int)), ([] : List (S94))⟩ : S110)])) else (none)))))) else (some (x350000, x1001))
end
def spec_goodCallOf.f (k : Nat) (s0_0 : List Int) (s0_1 : Int) : Option ((List (S110)) × Int) := (spec_reader_one.f k s0_0 s0_1 (([2, 1, 3, 0] : List Int))).bind fun bt353 => (spec_goodCallOf.l0 k bt353.1 s0_0 bt353.2 (([] : List (S110))))
theorem spec_goodCallOf.mono_l : ∀ k, (∀ y0 y1 y2 y3, LeO (spec_goodCallOf.l0 k y0 y1 y2 y3) (spec_goodCallOf.l0 (k + 1) y0 y1 y2 y3)) ∧ (∀ y0 y1 y2 y3, LeO (spec_goodCallOf.l1 k y0 y1 y2 y3) (spec_goodCallOf.l1 (k + 1) y0 y1 y2 y3))
 | 0 => ⟨fun _ _ _ _ r h => by simp [spec_goodCallOf.l0] at h, fun _ _ _ _ r h => by simp [spec_goodCallOf.l1] at h⟩
 | k + 1 => by
  obtain ⟨ih0, ih1⟩ := spec_goodCallOf.mono_l k; refine ⟨?_, ?_⟩
  all_goals intros
  all_goals (first | unfold spec_goodCallOf.l0 | unfold spec_goodCallOf.l1)
  all_goals repeat' first
   | (with_reducible exact ih0 _ _ _ _)
   | (with_reducible exact ih1 _ _ _ _)
   | (with_reducible exact spec_aName.mono _ _ _)
   | (with_reducible exact spec_aNumber.mono _ _ _)
   | (with_reducible exact spec_goodFlat.mono _ _ _)
   | (with_reducible exact spec_reader_one.mono _ _ _ _)
   | (with_reducible exact spec_reader_pick.mono _ _ _ _)
   | (with_reducible exact LeO.refl _)
   | (with_reducible exact LeO.none _)
   | (with_reducible refine LeO.ite ?_ ?_)
   | (with_reducible refine LeO.bind ?_ (fun _ => ?_))
   | exact ih0 _ _ _ _
   | exact ih1 _ _ _ _
   | exact spec_aName.mono _ _ _
   | exact spec_aNumber.mono _ _ _
   | exact spec_goodFlat.mono _ _ _
   | exact spec_reader_one.mono _ _ _ _
   | exact spec_reader_pick.mono _ _ _ _
   | exact LeO.none _
   | refine LeO.ite ?_ ?_
   | refine LeO.bind ?_ (fun _ => ?_)
theorem spec_goodCallOf.mono : ∀ a0 a1 k, LeO (spec_goodCallOf.f k a0 a1) (spec_goodCallOf.f (k + 1) a0 a1) := by
 intro a0 a1 k; obtain ⟨ih0, ih1⟩ := spec_goodCallOf.mono_l k; unfold spec_goodCallOf.f
 repeat' first
   | (with_reducible exact ih0 _ _ _ _)
   | (with_reducible exact ih1 _ _ _ _)
   | (with_reducible exact spec_aName.mono _ _ _)
   | (with_reducible exact spec_aNumber.mono _ _ _)
   | (with_reducible exact spec_goodFlat.mono _ _ _)
   | (with_reducible exact spec_reader_one.mono _ _ _ _)
   | (with_reducible exact spec_reader_pick.mono _ _ _ _)
   | (with_reducible exact LeO.refl _)
   | (with_reducible exact LeO.none _)
   | (with_reducible refine LeO.ite ?_ ?_)
   | (with_reducible refine LeO.bind ?_ (fun _ => ?_))
   | exact ih0 _ _ _ _
   | exact ih1 _ _ _ _
   | exact spec_aName.mono _ _ _
   | exact spec_aNumber.mono _ _ _
   | exact spec_goodFlat.mono _ _ _
   | exact spec_reader_one.mono _ _ _ _
   | exact spec_reader_pick.mono _ _ _ _
   | exact LeO.none _
   | refine LeO.ite ?_ ?_
   | refine LeO.bind ?_ (fun _ => ?_)
def spec_goodCallOf.T6 : Bool × List (List Nat × List Nat) := (true, [([], []), ([0], [0]), ([], []), ([2], [2]), ([3], [3]), ([4], [4]), ([5], [5]), ([1, 6, 3], [1, 6]), ([0, 1, 2, 3, 4, 5, 6, 7], []), ([8, 7, 7, 0, 1, 2, 3, 4, 5, 6, 7], [7, 8])])
def spec_goodCallOf.B6 : List Nat := [0, 1, 0, 4, 12, 28, 60, 127, 255, 511]
theorem spec_goodCallOf.tab6 : rtab .any (opsOf Try.f124 6) = spec_goodCallOf.T6 := by kernel_rfl
theorem spec_goodCallOf.bits6 : waitsOk spec_goodCallOf.T6.2 spec_goodCallOf.B6 = true := by kernel_rfl
def spec_goodCallOf.T7 : Bool × List (List Nat × List Nat) := (true, [([], []), ([0], [0]), ([], []), ([2], [2]), ([3], [3]), ([4], [4]), ([5], [5]), ([1, 6, 3], [1, 6]), ([0, 1, 2, 3, 4, 5, 6, 7], []), ([8, 7, 7, 0, 1, 2, 3, 4, 5, 6, 7], [7, 8])])
def spec_goodCallOf.B7 : List Nat := [0, 1, 0, 4, 12, 28, 60, 127, 255, 511]
theorem spec_goodCallOf.tab7 : rtab .any (opsOf Try.f124 7) = spec_goodCallOf.T7 := by kernel_rfl
theorem spec_goodCallOf.bits7 : waitsOk spec_goodCallOf.T7.2 spec_goodCallOf.B7 = true := by kernel_rfl
def spec_goodCallOf.T12 : Bool × List (List Nat × List Nat) := (true, [([], []), ([0], [0]), ([], []), ([2], [2]), ([3], [3]), ([4], [4]), ([5], [5]), ([1, 6, 3], [1, 6]), ([0, 1, 2, 3, 4, 5, 6, 7], []), ([8, 7, 7, 0, 1, 2, 3, 4, 5, 6, 7], [7, 8])])
def spec_goodCallOf.B12 : List Nat := [0, 1, 0, 4, 12, 28, 60, 127, 255, 511]
theorem spec_goodCallOf.tab12 : rtab .any (opsOf Try.f124 12) = spec_goodCallOf.T12 := by kernel_rfl
theorem spec_goodCallOf.bits12 : waitsOk spec_goodCallOf.T12.2 spec_goodCallOf.B12 = true := by kernel_rfl
def spec_goodCallOf.T13 : Bool × List (List Nat × List Nat) := (true, [([], []), ([0], [0]), ([], []), ([2], [2]), ([], []), ([4, 3], [4]), ([5], [5]), ([3, 6], [3, 6]), ([7], [7]), ([1, 8, 5], [1, 8]), ([0, 1, 2, 3, 4, 5, 6, 7, 8, 9], []), ([10, 9, 9, 0, 1, 2, 3, 4, 5, 6, 7, 8, 9], [9, 10])])
def spec_goodCallOf.B13 : List Nat := [0, 1, 0, 4, 0, 28, 60, 124, 252, 511, 1023, 2047]
theorem spec_goodCallOf.tab13 : rtab .any (opsOf Try.f124 13) = spec_goodCallOf.T13 := by kernel_rfl
theorem spec_goodCallOf.bits13 : waitsOk spec_goodCallOf.T13.2 spec_goodCallOf.B13 = true := by kernel_rfl
set_option maxHeartbeats 8000000 in
set_option maxRecDepth 100000 in
theorem spec_goodCallOf.calls (k : Nat) (g : Nat) (s0_0 : List Int) (s0_1 : Int) (r1 : List (S110)) (r2 : Int) (w0 w : World) (hI : IsS150 w0 w g s0_0 s0_1) (hB : Below w0.heap.size w0 w) (h : spec_goodCallOf.f k s0_0 s0_1 = some (r1, r2)) :
  Calls Try.prog 124 #[.pointer (some ⟨g, 0, none⟩)] w fun e w' => ∃ v0_ : Value, e = .returned (.agg #[v0_]) ∧ Kd.S k110 110 w' w.heap.size (fun _ => True) v0_ r1 ∧ IsS150 w0 w' g s0_0 r2 ∧ Below w0.heap.size w0 w' ∧ KeepBut w w' g none := by
 have hu48 := Try.underlying48; have hfd30_0 : ∀ (W : World) (q0_ q1_ : Value), (Instr.field 30 (.agg #[q0_, q1_]) 0).run Try.prog W = .ok (q0_) W := fun _ _ _ => by kernel_rfl
 have hu110 := Try.underlying110; have hfd30_1 : ∀ (W : World) (q0_ q1_ : Value), (Instr.field 30 (.agg #[q0_, q1_]) 1).run Try.prog W = .ok (q1_) W := fun _ _ _ => by kernel_rfl
 have HI0 := Aside0.mk hI; have HK := Aside0.mk (KeepBut.refl w g none); have HL := Aside0.mk hB.size; clear hI; have HW0 := Aside0.mk hB.size; have HB := Aside0.mk hB; clear hB; have H : ((spec_reader_one.f k s0_0 s0_1 (([2, 1, 3, 0] : List Int))).bind fun bt353 => (spec_goodCallOf.l0 k bt353.1 s0_0 bt353.2 (([] : List (S110))))) = some (r1, r2) := h; clear h; obtain ⟨y346, hy346⟩ : ∃ y_ : List (S110), y_ = (([] : List (S110))) := ⟨_, rfl⟩
 replace H : ((spec_reader_one.f k s0_0 s0_1 (([2, 1, 3, 0] : List Int))).bind fun bt353 => (spec_goodCallOf.l0 k bt353.1 s0_0 bt353.2 y346)) = some (r1, r2) := by first | (rw [hy346]; with_reducible exact H) | (have H2_ := (Option.bind_some _ _).symm.trans H; rw [hy346]; with_reducible exact H2_) | (have H2_ := (Option.bind_some _ _).symm.trans H; with_reducible exact H2_) | with_reducible exact H | (rw [hy346]; exact H) | exact H
 have Ny346 := Aside0.mk hy346; clear hy346; obtain ⟨y350, hy350⟩ : ∃ y_ : List Int, y_ = (([2, 1, 3, 0] : List Int)) := ⟨_, rfl⟩
 replace H : ((spec_reader_one.f k s0_0 s0_1 y350).bind fun bt353 => (spec_goodCallOf.l0 k bt353.1 s0_0 bt353.2 y346)) = some (r1, r2) := by first | (rw [hy350]; with_reducible exact H) | (have H2_ := (Option.bind_some _ _).symm.trans H; rw [hy350]; with_reducible exact H2_) | (have H2_ := (Option.bind_some _ _).symm.trans H; with_reducible exact H2_) | with_reducible exact H | (rw [hy350]; exact H) | exact H
 have Ny350 := Aside0.mk hy350; clear hy350; replace H := Option.bind_eq_some_iff.mp H; obtain ⟨⟨t353, t354⟩, A20, H⟩ := H
 (try dsimp only at H)
 have A2 := Aside0.mk A20; clear A20; have H' := Aside0.mk H; clear H; go_enter Try.func124, Try.ntmps124; go_wp2_with (first | ((with_reducible refine gate_dst (N := 2) rfl ?_); refine zx (N := 2) (cs := #[.slice none 0 0]) (t := 48) ?_; intro gb345 hg w3 hbox hb; replace HB := Aside0.mk (below_step (zj150_34 HB) hb); have BK345 := Aside0.mk (hbox); have GW345 := Aside0.mk ((by rw [hg]; exact (keep_size (w := w) (g := g) (row := none) (zk HK)) : w.heap.size ≤ gb345)); have GE345 := Aside0.mk (Nat.le_trans HW0.out GW345.out); replace HK := Aside0.mk (KeepBut.trans (zk HK) (KeepBut.of_below hb g none) (.inl rfl)); have NB0_345 := Aside0.mk ((by rw [hg]; exact Nat.ne_of_lt (IsS150.lt (show IsS150 w0 _ g s0_0 s0_1 from zi150_34 HI0)) : g ≠ gb345)); have NB345_0 := Aside0.mk NB0_345.out.symm; replace HI0 := Aside0.mk (IsS150.below (zi150_34 HI0) hb); clear hb hbox hg) | ((with_reducible refine gate_dst (N := 6) rfl ?_); refine Kd.S_lit k110 _ 110 ?hg (N := 6) ?hd (xs := ([] : List (S110))) (inner := []) (ok := fun _ => True) (okp := fun _ => True) ?hr ?hp (fun _ hk => hk) trivial (Below.refl _ _) (Nat.le_refl _) (by simp) ?_; (case hd => rfl); (case hg => rfl); (case hr => first | (go_simp; done) | (go_simp; rfl)); (case hp => exact (Reps.none _ _)); intro v347 w4 ho5 hb hg_ hnew_; clear hg_ hnew_; (first | rw [← Ny346.out] at ho5 | (simp only [Int.reduceToNat] at ho5; rw [← Ny346.out] at ho5)); have HO348 := Aside0.mk (Kd.S_lower ho5 (keep_size (w := w) (g := g) (row := none) (zk HK))); replace BK345 := Aside0.mk (blk_below (g := gb345) (o := .cells #[.slice none 0 0] 48 (0, 0)) (zb BK345) hb); replace HK := Aside0.mk (KeepBut.trans (zk HK) (KeepBut.of_below hb g none) (.inl rfl)); replace HB := Aside0.mk (below_step (zj150_34 HB) hb); replace HI0 := Aside0.mk (IsS150.below (zi150_34 HI0) hb); clear hb ho5; obtain ⟨Ao6, co6, eo6⟩ := Kd.S_slice HO348.out; subst eo6) | ((with_reducible refine gate_dst (N := 3) rfl ?_); refine zx (N := 3) (cs := #[.slice none 0 0]) (t := 48) ?_; intro gb349 hg w7 hbox hb; replace HO348 := Aside0.mk (Kd.S_below (zoS HO348) hb); replace HB := Aside0.mk (below_step (zj150_34 HB) hb); have BK349 := Aside0.mk (hbox); have GW349 := Aside0.mk ((by rw [hg]; exact (keep_size (w := w) (g := g) (row := none) (zk HK)) : w.heap.size ≤ gb349)); have GE349 := Aside0.mk (Nat.le_trans HW0.out GW349.out); replace HK := Aside0.mk (KeepBut.trans (zk HK) (KeepBut.of_below hb g none) (.inl rfl)); have NB345_349 := Aside0.mk ((by rw [hg]; exact Nat.ne_of_lt (blk_lt (g := gb345) (o := .cells #[.slice none 0 0] 48 (0, 0)) (zb BK345)) : gb345 ≠ gb349)); have NB349_345 := Aside0.mk NB345_349.out.symm; replace BK345 := Aside0.mk (blk_below (g := gb345) (o := .cells #[.slice none 0 0] 48 (0, 0)) (zb BK345) hb); have NB0_349 := Aside0.mk ((by rw [hg]; exact Nat.ne_of_lt (IsS150.lt (show IsS150 w0 _ g s0_0 s0_1 from zi150_34 HI0)) : g ≠ gb349)); have NB349_0 := Aside0.mk NB0_349.out.symm; replace HI0 := Aside0.mk (IsS150.below (zi150_34 HI0) hb); clear hb hbox hg; have hnb8 := NB349_345.out; have hnc8 := NB345_349.out; have hnb9 := NB349_0.out; have hnc9 := NB0_349.out; have hcz10_0 : w7.cell? ⟨gb349, 0, none⟩ = some (.slice none 0 0) := (blk_cell BK349.out 0).trans rfl; have hfz10_0 := blk_frozen BK349.out 0) | ((with_reducible refine gate_dst (N := 9) rfl ?_); refine Kd.R_lit (Kd.int .i64) _ 3 ?hg (N := 9) ?hd (xs := ([2, 1, 3, 0] : List Int)) (inner := [.int .i64 2, .int .i64 1, .int .i64 3, .int .i64 0]) (ok := fun _ => True) (okp := fun _ => True) ?hr ?hp (fun _ hk => hk) trivial (Below.refl _ _) (Nat.le_refl _) (by simp) ?_; (case hd => rfl); (case hg => rfl); (case hr => first | (go_simp; done) | (go_simp; rfl)); (case hp => exact (Reps.one (show Kd.M (Kd.int .i64) _ _ _ 2 [.int .i64 2] from rfl) (Reps.one (show Kd.M (Kd.int .i64) _ _ _ 1 [.int .i64 1] from rfl) (Reps.one (show Kd.M (Kd.int .i64) _ _ _ 3 [.int .i64 3] from rfl) (Reps.one (show Kd.M (Kd.int .i64) _ _ _ 0 [.int .i64 0] from rfl) (Reps.none _ _)))))); intro v351 w11 ho12 hb hg_ hnew_; clear hg_ hnew_; (first | rw [← Ny350.out] at ho12 | (simp only [Int.reduceToNat] at ho12; rw [← Ny350.out] at ho12)); replace HO348 := Aside0.mk (Kd.S_elder' (by (with_reducible repeat (first | apply Kd.S_alloc | apply Kd.S_drewN | apply Kd.S_drew)); exact (Kd.S_mono (Kd.S_far (p := ⟨gb349, 0, none⟩) (Kd.S_types HO348.out BK349.out (by decide)) (fun _ hk => hk.2) (.slice Ao6 y346.length co6)) (fun _ h_ => h_.1))) (Kd.R_base ho12) hb); have HO352 := Aside0.mk (Kd.R_lower ho12 (keep_size (w := w) (g := g) (row := none) (zk HK))); replace BK345 := Aside0.mk (blk_below (g := gb345) (o := .cells #[.slice none 0 0] 48 (0, 0)) (zf BK345) hb); replace BK349 := Aside0.mk (blk_below (g := gb349) (o := .cells #[.slice Ao6 y346.length co6] 48 (0, 0)) (by (with_reducible repeat (first | refine blk_drewN ?_ _ | refine blk_drew ?_ | refine blk_alloc ?_ _)); refine blk_put (cs := #[.slice none 0 0]) ?_ 0 _ rfl; (with_reducible repeat (first | refine blk_drewN ?_ _ | refine blk_drew ?_ | refine blk_alloc ?_ _)); exact BK349.out) hb); replace HK := Aside0.mk (KeepBut.trans (zk HK) (KeepBut.of_below hb g none) (.inl rfl)); replace HB := Aside0.mk (below_step (zj150_34 HB) hb); replace HI0 := Aside0.mk (IsS150.below (show IsS150 w0 (w7.setCell ⟨gb349, 0, none⟩ (.slice Ao6 y346.length co6)) g s0_0 s0_1 from zi150_34 HI0) hb); clear hb ho12; obtain ⟨Ao13, co13, eo13⟩ := Kd.R_slice HO352.out; subst eo13) | ((with_reducible refine gate_callee (f := 126) rfl ?_); refine goesL_ (some 10) rfl rfl Try.func126 (by kernel_rfl) rfl #[.pointer (some ⟨g, 0, none⟩), .slice Ao13 y350.length co13] rfl zl ?_; (with_reducible refine (spec_reader_one.calls k g s0_0 s0_1 _ _ y350 t353 t354 w0 _ ?side1 ?side2 ?side3 ?side4 ?side5 A2.out).mono ?_); (case side1 => exact zi150_34 HI0); (case side2 => exact zj150_34 HB); (case side3 => repeat (first | exact (Kd.R_reads' HO352.out).2.2 | (with_reducible refine Kd.C_alloc ?_ _) | (with_reducible refine Kd.C_drewN ?_ _) | (with_reducible refine Kd.C_drew ?_))); (case side4 => exact (Kd.R_reads' HO352.out).2.1); (case side5 => exact far_slice (IsS150.own_ne HI0.out HO352.out (by decide))); rintro e w14 ⟨rfl, hi, hb, hk⟩; refine ⟨_, rfl, ?_⟩; replace BK345 := Aside0.mk (KeepBut.blk hk (g' := gb345) (o := .cells #[.slice none 0 0] 48 (0, 0)) (zb BK345) NB345_0.out (by simp)); replace HO348 := Aside0.mk (Kd.S_mono (Kd.S_keep (IsS150.apartS (show IsS150 w0 _ g s0_0 s0_1 from zi150_34 HI0) (zoS HO348) (by decide)) hk (fun _ h => h.2)) (fun _ h => h.1)); replace BK349 := Aside0.mk (KeepBut.blk hk (g' := gb349) (o := .cells #[.slice Ao6 y346.length co6] 48 (0, 0)) (zb BK349) NB349_0.out (by simp)); replace HO352 := Aside0.mk (Kd.R_mono (Kd.R_keep (IsS150.apart (show IsS150 w0 _ g s0_0 s0_1 from zi150_34 HI0) (zo HO352) (by decide)) hk (fun _ h => h.2)) (fun _ h => h.1)); replace HK := Aside0.mk (KeepBut.trans (zk HK) hk (.inl rfl)); replace HB := Aside0.mk (hb); replace HI0 := Aside0.mk (hi); (try clear hb); (try clear hb2); (try clear hk); (try clear hi))); go_loopg [4] k (fun kq v4 w' => ∃ (x4_1 : Int) (x1001_1 : Int) (x350000_1 : List (S110)) (u350000 : Value), v4 = .int .i64 x4_1 ∧ Aside0 (spec_goodCallOf.l0 kq x4_1 s0_0 x1001_1 x350000_1 = some (r1, r2)) ∧ Aside0 (kq ≤ k) ∧ Aside0 (Kd.S k110 110 w' w.heap.size (fun _ => True) u350000 x350000_1) ∧ Aside0 (w'.heap[gb345]? = some (.cells #[(.slice none 0 0)] 48 (0, 0))) ∧ Aside0 (w'.heap[gb349]? = some (.cells #[u350000] 48 (0, 0))) ∧ Aside0 (IsS150 w0 w' g s0_0 x1001_1) ∧ Aside0 (KeepBut w w' g none) ∧ Aside0 (Below w0.heap.size w0 w'))
 case atStart => exact ⟨(t353), (t354), (y346), (.slice Ao6 y346.length co6), zr, H', ⟨Nat.le_refl _⟩, ⟨by (with_reducible repeat (first | apply Kd.S_alloc | apply Kd.S_drewN | apply Kd.S_drew)); exact Kd.S_mono HO348.out (fun _ hk => trivial)⟩, ⟨zb BK345⟩, ⟨zb BK349⟩, ⟨by repeat (first | (with_reducible first | exact HI0.out | apply IsS150.alloc | apply IsS150.drewN | apply IsS150.drew | apply IsS150.set_1 | refine IsS150.far ?_ NB0_345.out _ | refine IsS150.far ?_ NB0_349.out _) | exact HI0.out)⟩, ⟨zk HK⟩, ⟨zj150_34 HB⟩⟩
 case round =>
  clear H'; (try clear c1); (try clear p2); (try clear c8); (try clear c9); (try clear c12); (try clear hcz10_0); (try clear hfz10_0); obtain ⟨x4_1, x1001_1, x350000_1, u350000, rfl, HA, HK1, HO_350000, BK345, BK349, HI0, HK, HB⟩ := hrel
  cases gk with
  | zero => exact absurd HA.out (by simp [spec_goodCallOf.l0])
  | succ k1 =>
   have H := HA.out; clear HA; simp only [spec_goodCallOf.l0] at H
   by_cases c15 : x4_1 > 0
   ·rw [if_pos c15] at H; have c15b0 : decide (0 < x4_1) = true := decide_eq_true c15; clear c15; replace H := Option.bind_eq_some_iff.mp H; obtain ⟨⟨t355, t356⟩, A160, H⟩ := H
    (try dsimp only at H)
    have A16 := Aside0.mk A160; clear A160
    by_cases c17 : t355 = 0
    ·rw [if_pos c17] at H; have c17b0 : (t355 == 0) = true := beq_iff_eq.mpr c17; have c17b1 : (t355 != 0) = false := bne_eq_false_iff_eq.mpr c17; clear c17; replace H := Option.bind_eq_some_iff.mp H; obtain ⟨⟨t357, t360, t363⟩, A180, H⟩ := H
     (try dsimp only at H)
     have A18 := Aside0.mk A180; clear A180
     by_cases c19 : x350000_1.length < 1954687338268
     ·rw [if_pos c19] at H; have LMc19 := Aside0.mk c19; clear c19; obtain ⟨y364, hy364⟩ : ∃ y_ : List (S110), y_ = (x350000_1 ++ [(⟨1, (⟨#[]⟩ : ByteArray), t357, ([] : List (S94))⟩ : S110)]) := ⟨_, rfl⟩
      replace H : (spec_goodCallOf.l0 k1 (wrap64 (x4_1 - 1)) s0_0 t363 y364) = some (r1, r2) := by first | (rw [hy364]; with_reducible exact H) | (have H2_ := (Option.bind_some _ _).symm.trans H; rw [hy364]; with_reducible exact H2_) | (have H2_ := (Option.bind_some _ _).symm.trans H; with_reducible exact H2_) | with_reducible exact H | (rw [hy364]; exact H) | exact H
      have Ny364 := Aside0.mk hy364; clear hy364; have H' := Aside0.mk H; clear H
      try go_wp2_with (first | ((with_reducible refine gate_callee (f := 125) rfl ?_); refine goesL_ (some 16) rfl rfl Try.func125 (by kernel_rfl) rfl #[.pointer (some ⟨g, 0, none⟩), .int .i64 3] rfl zl ?_; (with_reducible refine (spec_reader_pick.calls k1 g s0_0 x1001_1 3 t355 t356 w0 _ ?side1 ?side2 A16.out).mono ?_); (case side1 => exact zi150_34 HI0); (case side2 => exact zj150_34 HB); rintro e w20 ⟨rfl, hi, hb, hk⟩; refine ⟨_, rfl, ?_⟩; replace HO_350000 := Aside0.mk (Kd.S_mono (Kd.S_keep (IsS150.apartS (show IsS150 w0 _ g s0_0 x1001_1 from zi150_34 HI0) (zoS HO_350000) (by decide)) hk (fun _ h => h.2)) (fun _ h => h.1)); replace BK345 := Aside0.mk (KeepBut.blk hk (g' := gb345) (o := .cells #[.slice none 0 0] 48 (0, 0)) (zb BK345) NB345_0.out (by simp)); replace BK349 := Aside0.mk (KeepBut.blk hk (g' := gb349) (o := .cells #[u350000] 48 (0, 0)) (zb BK349) NB349_0.out (by simp)); replace HK := Aside0.mk (KeepBut.trans (zk HK) hk (.inl rfl)); replace HB := Aside0.mk (hb); replace HI0 := Aside0.mk (hi); (try clear hb); (try clear hb2); (try clear hk); (try clear hi)))
      replace HO_350000 := Aside0.mk (Kd.S_drew HO_350000.out); replace BK345 := Aside0.mk (blk_drew BK345.out); replace BK349 := Aside0.mk (blk_drew BK349.out); replace HI0 := Aside0.mk (IsS150.drew HI0.out); replace HK := Aside0.mk (keep_drew HK.out); replace HB := Aside0.mk (below_drew1 HB.out); refine start_ (n := 10) (S := fun w' => w'.cell? ⟨gb349, 0, none⟩ = some (u350000)) (ds := [9]) #[false, false, false, false, false, false, false, false, false, false] (by kernel_rfl) rfl rfl ((blk_cell BK349.out 0).trans rfl) (fun hHeld => ?_); refine with_tabW spec_goodCallOf.tab6 spec_goodCallOf.bits6 (fun HT_ HW_ => ?_); generalize w20.drew = w21 at HO_350000 BK345 BK349 HI0 HK HB hHeld ⊢; refine pure_ (i := 0) (N := some 18) (v := ?_) (a' := ?_) #[true, false, false, false, false, false, false, false, false, false] rfl rfl (any_of HT_.out (by kernel_rfl)) (fun _ _ _ h => h) (Or.inl ⟨by rfl, ?_⟩) ?_ ?_; rotate_left
      ·intro w'; go_simp; with_reducible rfl
      rotate_left
      ·simp only [Act.put, List.setIfInBounds_toArray, List.set_cons_zero, List.set_cons_succ, i64_w, i32_w]; rfl
      refine pure_ (i := 2) (N := some 20) (v := ?_) (a' := ?_) #[true, false, true, false, false, false, false, false, false, false] rfl rfl (any_of HT_.out (by kernel_rfl)) (fun _ _ _ h => h) (Or.inl ⟨by rfl, ?_⟩) ?_ ?_; rotate_left
      ·intro w'; go_simp; with_reducible rfl
      rotate_left
      ·simp only [Act.put, List.setIfInBounds_toArray, List.set_cons_zero, List.set_cons_succ, i64_w, i32_w]; rfl
      refine take_ (i := 1) (N := some 19) (v := ?_) (a' := ?_) #[true, true, true, false, false, false, false, false, false, false] rfl rfl (take_ofW HT_.out HW_.out (by kernel_rfl)) (fun _ _ _ h => h) (Or.inl ⟨by rfl, ?_⟩) hHeld ?_ ?_; rotate_left
      ·intro w' s0; go_simp; with_reducible rfl
      rotate_left
      ·simp only [Act.put, List.setIfInBounds_toArray, List.set_cons_zero, List.set_cons_succ, i64_w, i32_w]; rfl
      refine one_ (i := 3) (N := some 21) #[true, true, true, true, false, false, false, false, false, false] rfl rfl (one_of HT_.out (by kernel_rfl)) (by decide) (fun K hK => ?_); refine goes_ Try.func133 (by kernel_rfl) rfl #[.pointer (some ⟨g, 0, none⟩)] (by rfl) rfl rfl zl ?_; with_reducible refine (spec_goodFlat.calls k1 g s0_0 t356 t357 t360 t363 w0 _ ?side1 ?side2 A18.out).mono ?_
      (case side1 => exact zi150_34 HI0)
      (case side2 => exact zj150_34 HB)
      rintro e w22 ⟨v358, v361, rfl, ho0, ho1, hi, hb, hk⟩; refine ⟨_, rfl, ?_⟩; replace HO_350000 := Aside0.mk (Kd.S_mono (Kd.S_told (Kd.S_told (Kd.S_oldK (IsS150.apartS (show IsS150 w0 _ g s0_0 t356 from zi150_34 HI0) (zoS HO_350000) (by decide)) hk) (Kd.R_base ho0)) (Kd.R_base ho1)) (fun _ h_ => h_.1)); replace BK345 := Aside0.mk (KeepBut.blk hk (g' := gb345) (o := .cells #[.slice none 0 0] 48 (0, 0)) (zb BK345) NB345_0.out (by simp)); replace BK349 := Aside0.mk (KeepBut.blk hk (g' := gb349) (o := .cells #[u350000] 48 (0, 0)) (zb BK349) NB349_0.out (by simp)); have HO359 := Aside0.mk (Kd.R_lower ho0 (keep_size (w := w) (g := g) (row := none) (zk HK))); have HO362 := Aside0.mk (Kd.R_lower ho1 (keep_size (w := w) (g := g) (row := none) (zk HK))); replace HK := Aside0.mk (KeepBut.trans (zk HK) hk (.inl rfl)); replace HB := Aside0.mk (hb); replace HI0 := Aside0.mk (hi); (try clear hb); (try clear hb2); (try clear hk); (try clear hi); (try clear ho0); (try clear ho1); obtain ⟨Ao23, co23, eo23⟩ := Kd.R_slice HO359.out
      (first | subst eo23 | (injection eo23 with f1_ f2_ f3_; have f4_ := f1_.symm; have f5_ := f3_.symm; clear f1_ f2_ f3_; subst f4_; subst f5_))
      refine hK.out _ _ ((blk_cell BK349.out 0).trans rfl) (fun hHeld => ?_); clear hK K; refine norm_ (a' := ?_) ?_ ?_; rotate_left
      ·show Act.put _ (some 21) _ = _
       simp only [Act.put, List.setIfInBounds_toArray, List.set_cons_zero, List.set_cons_succ, i64_w, i32_w]; rfl
      refine pure_ (i := 4) (N := some 22) (v := ?_) (a' := ?_) #[true, true, true, true, true, false, false, false, false, false] rfl rfl (any_of HT_.out (by kernel_rfl)) (fun _ _ _ h => h) (Or.inl ⟨by rfl, ?_⟩) ?_ ?_; rotate_left
      ·intro w'; go_simp; with_reducible rfl
      rotate_left
      ·simp only [Act.put, List.setIfInBounds_toArray, List.set_cons_zero, List.set_cons_succ, i64_w, i32_w]; rfl
      refine pure_ (i := 5) (N := some 23) (v := ?_) (a' := ?_) #[true, true, true, true, true, true, false, false, false, false] rfl rfl (any_of HT_.out (by kernel_rfl)) (fun _ _ _ h => h) (Or.inl ⟨by rfl, ?_⟩) ?_ ?_; rotate_left
      ·intro w'; go_simp; with_reducible rfl
      rotate_left
      ·simp only [Act.put, List.setIfInBounds_toArray, List.set_cons_zero, List.set_cons_succ, i64_w, i32_w]; rfl
      refine one_ (i := 6) (N := some 24) #[true, true, true, true, true, true, true, false, false, false] rfl rfl (one_of HT_.out (by kernel_rfl)) (by decide) (fun K hK => ?_); refine value_ (w1 := ?_) (v := ?_) (by rfl) rfl ?_ ?_; rotate_left 2
      ·go_simp; constructor
       ·rfl
       ·rfl
      refine hK.out _ _ ((blk_cell (blk_alloc BK349.out _) 0).trans rfl) (fun hHeld => ?_); clear hK K; refine norm_ (a' := ?_) ?_ ?_; rotate_left
      ·show Act.put _ (some 24) _ = _
       simp only [Act.put, List.setIfInBounds_toArray, List.set_cons_zero, List.set_cons_succ, i64_w, i32_w]; rfl
      refine one_ (i := 7) (N := some 25) #[true, true, true, true, true, true, true, true, false, false] rfl rfl (one_of HT_.out (by kernel_rfl)) (by decide) (fun K hK => ?_); refine Kd.S_append_step k110 w.heap.size (by rfl) (.tmp 19) (.tmp 24) 46 110 (.agg #[(.int .i64 0), (.string ⟨#[]⟩), (.slice none 0 0), (.slice none 0 0)]) 72 rfl Try.underlying46 info110 rfl (by decide) (by omega) u350000 x350000_1 (⟨1, (⟨#[]⟩ : ByteArray), t357, ([] : List (S94))⟩ : S110) [.int .i64 1, .string (⟨#[]⟩ : ByteArray), .slice Ao23 t357.length co23, .slice none 0 0] (fun k_ => some k_ ≠ (v361 : Value).ownBlock) (fun k_ => some k_ = (.slice Ao23 t357.length co23 : Value).ownBlock) rfl rfl ?aP (fun k_ hk_ => ((Kd.R_mono (ok' := fun k_ => ((fun k_ => some k_ ≠ (v361 : Value).ownBlock)) k_ ∧ some k_ ≠ (u350000 : Value).ownBlock) (Kd.R_apart' (Kd.R_apart' (HO359.out) (Kd.R_typed HO362.out) (by decide)) (Kd.S_typed HO_350000.out) (by decide)) (fun k_ hk => ⟨hk.1.2, hk.2⟩))).1 k_ hk_.symm) ?aF ?aO (Below.refl _ _) ?aS ?aL ?_
      (case aP => exact k110_mkM _ _ _ (⟨1, (⟨#[]⟩ : ByteArray), t357, ([] : List (S94))⟩ : S110) (Kd.R_mono (Kd.R_tight rfl (Kd.R_mono (ok' := fun k_ => ((fun k_ => some k_ ≠ (v361 : Value).ownBlock)) k_ ∧ some k_ ≠ (u350000 : Value).ownBlock) (Kd.R_apart' (Kd.R_apart' (HO359.out) (Kd.R_typed HO362.out) (by decide)) (Kd.S_typed HO_350000.out) (by decide)) (fun k_ hk => ⟨hk.1.2, hk.2⟩))) (fun _ h_ => h_)) (Kd.R_nil _ _ _ _ _))
      (case aF => exact (fun k_ hk => Kd.fresh' (Kd.R_lt (zo HO362)) k_ hk))
      (case aO => exact (zmS HO_350000 (fun k_ hk => ⟨hk.2, fun e_ => hk.1.2 e_⟩)))
      (case aS => exact (keep_size (w := w) (g := g) (row := none) (zk HK)))
      (case aL => have := LMc19.out; omega)
      intro v365 w24 ho hb hg hat; rw [← Ny364.out] at ho; have n0_ := Aside0.mk (blk_grown (g := gb345) (o := .cells #[.slice none 0 0] 48 (0, 0)) (zb BK345) hg (Kd.S_ne HO_350000.out BK345.out (by decide))); have n1_ := Aside0.mk (blk_grown (g := gb349) (o := .cells #[u350000] 48 (0, 0)) (zb BK349) hg (Kd.S_ne HO_350000.out BK349.out (by decide))); have n2_ := Aside0.mk (IsS150.grown (zi150_34 HI0) hg (IsS150.own_neS HI0.out HO_350000.out (by decide))); have n3_ := Aside0.mk (Kd.R_over' (zo HO362) (Kd.S_typed (zoS HO_350000)) (by decide) hg); have n4_ := Aside0.mk (below_weaken (zj150_34 HB) HL.out hb); have n5_ := Aside0.mk (KeepBut.trans (zk HK) (KeepBut.of_grown hg g) (Kd.S_base2 HO_350000.out)); have n6_ := Aside0.mk (ho); clear BK345; clear BK349; clear HI0; clear HO362; clear HB; clear HK; clear HO_350000; clear HO359; have BK345 := n0_; have BK349 := n1_; have HI0 := n2_; have HO362 := n3_; have HB := n4_; have HK := n5_; have HO366 := n6_; clear n0_ n1_ n2_ n3_ n4_ n5_ n6_; clear ho hb hg hat; obtain ⟨Ao25, co25, eo25⟩ := Kd.S_slice HO366.out
      (first | subst eo25 | (injection eo25 with f1_ f2_ f3_; have f4_ := f1_.symm; have f5_ := f3_.symm; clear f1_ f2_ f3_; subst f4_; subst f5_))
      refine hK.out _ _ ((blk_cell BK349.out 0).trans rfl) (fun hHeld => ?_); clear hK K; refine norm_ (a' := ?_) ?_ ?_; rotate_left
      ·show Act.put _ (some 25) _ = _
       simp only [Act.put, List.setIfInBounds_toArray, List.set_cons_zero, List.set_cons_succ, i64_w, i32_w]; rfl
      refine pure_ (i := 8) (N := some 26) (v := ?_) (a' := ?_) #[true, true, true, true, true, true, true, true, true, false] rfl rfl (any_of HT_.out (by kernel_rfl)) (fun _ _ _ h => h) (Or.inl ⟨by rfl, ?_⟩) ?_ ?_; rotate_left
      ·intro w'; go_simp; with_reducible rfl
      rotate_left
      ·simp only [Act.put, List.setIfInBounds_toArray, List.set_cons_zero, List.set_cons_succ, i64_w, i32_w]; rfl
      refine last_ (i := 9) (N := none) #[true, true, true, true, true, true, true, true, true, true] rfl rfl (one_of HT_.out (by kernel_rfl)) (by decide) (fun K hK => ?_); have hs26 : w24.cell? ⟨gb349, 0, none⟩ = some (u350000) := (blk_cell BK349.out 0).trans rfl; have hfs26 := blk_frozen BK349.out 0; have hns26_0 := NB345_349.out; have hms26_0 := NB349_345.out; refine skip_ (w1 := ?_) (by rfl) rfl ?_ ?_; rotate_left
      ·go_simp; rfl
      refine hK.out _ _ ?_; clear hK K; refine done_ (done_of HT_.out (by kernel_rfl)) ?_
      try go_wp2
      go_roundg k1
      case measure => have := HK1.out; omega
      case rel => exact ⟨(wrap64 (x4_1 - 1)), (t363), (y364), (.slice Ao25 y364.length co25), zr, H', ⟨by have := HK1.out; omega⟩, ⟨by (with_reducible repeat (first | apply Kd.S_alloc | apply Kd.S_drewN | apply Kd.S_drew)); exact Kd.S_mono (Kd.S_far (p := ⟨gb349, 0, none⟩) (Kd.S_types HO366.out BK349.out (by decide)) (fun _ hk => hk.2) (.slice Ao25 y364.length co25)) (fun _ hk => trivial)⟩, ⟨zf BK345⟩, ⟨by (with_reducible repeat (first | refine blk_drewN ?_ _ | refine blk_drew ?_ | refine blk_alloc ?_ _)); refine blk_put (cs := #[u350000]) ?_ 0 _ rfl; (with_reducible repeat (first | refine blk_drewN ?_ _ | refine blk_drew ?_ | refine blk_alloc ?_ _)); exact BK349.out⟩, ⟨by repeat (first | (with_reducible first | exact HI0.out | apply IsS150.alloc | apply IsS150.drewN | apply IsS150.drew | apply IsS150.set_1 | refine IsS150.far ?_ NB0_345.out _ | refine IsS150.far ?_ NB0_349.out _) | exact HI0.out)⟩, ⟨zk HK⟩, ⟨zj150_34 HB⟩⟩
     ·rw [if_neg c19] at H; exact absurd H (by simp)
    ·rw [if_neg c17] at H; have c17b0 : (t355 == 0) = false := beq_eq_false_iff_ne.mpr c17; have c17b1 : (t355 != 0) = true := bne_iff_ne.mpr c17; replace H := Option.bind_eq_some_iff.mp H; obtain ⟨⟨t367, t368⟩, A270, H⟩ := H
     (try dsimp only at H)
     have A27 := Aside0.mk A270; clear A270; obtain ⟨y369, hy369⟩ : ∃ y_ : List Int, y_ = (([t367] : List Int)) := ⟨_, rfl⟩
     replace H : (if x350000_1.length < 1954687338268 then (spec_goodCallOf.l0 k1 (wrap64 (x4_1 - 1)) s0_0 t368 (x350000_1 ++ [(⟨0, (⟨#[]⟩ : ByteArray), y369, ([] : List (S94))⟩ : S110)])) else (none)) = some (r1, r2) := by first | (rw [hy369]; with_reducible exact H) | (have H2_ := (Option.bind_some _ _).symm.trans H; rw [hy369]; with_reducible exact H2_) | (have H2_ := (Option.bind_some _ _).symm.trans H; with_reducible exact H2_) | with_reducible exact H | (rw [hy369]; exact H) | exact H
     have Ny369 := Aside0.mk hy369; clear hy369
     by_cases c28 : x350000_1.length < 1954687338268
     ·rw [if_pos c28] at H; have LMc28 := Aside0.mk c28; clear c28; obtain ⟨y372, hy372⟩ : ∃ y_ : List (S110), y_ = (x350000_1 ++ [(⟨0, (⟨#[]⟩ : ByteArray), y369, ([] : List (S94))⟩ : S110)]) := ⟨_, rfl⟩
      replace H : (spec_goodCallOf.l0 k1 (wrap64 (x4_1 - 1)) s0_0 t368 y372) = some (r1, r2) := by first | (rw [hy372]; with_reducible exact H) | (have H2_ := (Option.bind_some _ _).symm.trans H; rw [hy372]; with_reducible exact H2_) | (have H2_ := (Option.bind_some _ _).symm.trans H; with_reducible exact H2_) | with_reducible exact H | (rw [hy372]; exact H) | exact H
      have Ny372 := Aside0.mk hy372; clear hy372; have H' := Aside0.mk H; clear H
      try go_wp2_with (first | ((with_reducible refine gate_callee (f := 125) rfl ?_); refine goesL_ (some 16) rfl rfl Try.func125 (by kernel_rfl) rfl #[.pointer (some ⟨g, 0, none⟩), .int .i64 3] rfl zl ?_; (with_reducible refine (spec_reader_pick.calls k1 g s0_0 x1001_1 3 t355 t356 w0 _ ?side1 ?side2 A16.out).mono ?_); (case side1 => exact zi150_34 HI0); (case side2 => exact zj150_34 HB); rintro e w29 ⟨rfl, hi, hb, hk⟩; refine ⟨_, rfl, ?_⟩; replace HO_350000 := Aside0.mk (Kd.S_mono (Kd.S_keep (IsS150.apartS (show IsS150 w0 _ g s0_0 x1001_1 from zi150_34 HI0) (zoS HO_350000) (by decide)) hk (fun _ h => h.2)) (fun _ h => h.1)); replace BK345 := Aside0.mk (KeepBut.blk hk (g' := gb345) (o := .cells #[.slice none 0 0] 48 (0, 0)) (zb BK345) NB345_0.out (by simp)); replace BK349 := Aside0.mk (KeepBut.blk hk (g' := gb349) (o := .cells #[u350000] 48 (0, 0)) (zb BK349) NB349_0.out (by simp)); replace HK := Aside0.mk (KeepBut.trans (zk HK) hk (.inl rfl)); replace HB := Aside0.mk (hb); replace HI0 := Aside0.mk (hi); (try clear hb); (try clear hb2); (try clear hk); (try clear hi)))
      replace HO_350000 := Aside0.mk (Kd.S_drew HO_350000.out); replace BK345 := Aside0.mk (blk_drew BK345.out); replace BK349 := Aside0.mk (blk_drew BK349.out); replace HI0 := Aside0.mk (IsS150.drew HI0.out); replace HK := Aside0.mk (keep_drew HK.out); replace HB := Aside0.mk (below_drew1 HB.out); refine start_ (n := 10) (S := fun w' => w'.cell? ⟨gb349, 0, none⟩ = some (u350000)) (ds := [9]) #[false, false, false, false, false, false, false, false, false, false] (by kernel_rfl) rfl rfl ((blk_cell BK349.out 0).trans rfl) (fun hHeld => ?_); refine with_tabW spec_goodCallOf.tab7 spec_goodCallOf.bits7 (fun HT_ HW_ => ?_); generalize w29.drew = w30 at HO_350000 BK345 BK349 HI0 HK HB hHeld ⊢; refine pure_ (i := 0) (N := some 27) (v := ?_) (a' := ?_) #[true, false, false, false, false, false, false, false, false, false] rfl rfl (any_of HT_.out (by kernel_rfl)) (fun _ _ _ h => h) (Or.inl ⟨by rfl, ?_⟩) ?_ ?_; rotate_left
      ·intro w'; go_simp; with_reducible rfl
      rotate_left
      ·simp only [Act.put, List.setIfInBounds_toArray, List.set_cons_zero, List.set_cons_succ, i64_w, i32_w]; rfl
      refine pure_ (i := 2) (N := some 29) (v := ?_) (a' := ?_) #[true, false, true, false, false, false, false, false, false, false] rfl rfl (any_of HT_.out (by kernel_rfl)) (fun _ _ _ h => h) (Or.inl ⟨by rfl, ?_⟩) ?_ ?_; rotate_left
      ·intro w'; go_simp; with_reducible rfl
      rotate_left
      ·simp only [Act.put, List.setIfInBounds_toArray, List.set_cons_zero, List.set_cons_succ, i64_w, i32_w]; rfl
      refine take_ (i := 1) (N := some 28) (v := ?_) (a' := ?_) #[true, true, true, false, false, false, false, false, false, false] rfl rfl (take_ofW HT_.out HW_.out (by kernel_rfl)) (fun _ _ _ h => h) (Or.inl ⟨by rfl, ?_⟩) hHeld ?_ ?_; rotate_left
      ·intro w' s0; go_simp; with_reducible rfl
      rotate_left
      ·simp only [Act.put, List.setIfInBounds_toArray, List.set_cons_zero, List.set_cons_succ, i64_w, i32_w]; rfl
      refine one_ (i := 3) (N := some 30) #[true, true, true, true, false, false, false, false, false, false] rfl rfl (one_of HT_.out (by kernel_rfl)) (by decide) (fun K hK => ?_); refine goes_ Try.func134 (by kernel_rfl) rfl #[.pointer (some ⟨g, 0, none⟩)] (by rfl) rfl rfl zl ?_; with_reducible refine (spec_aNumber.calls k1 g s0_0 t356 t367 t368 w0 _ ?side1 ?side2 A27.out).mono ?_
      (case side1 => exact zi150_34 HI0)
      (case side2 => exact zj150_34 HB)
      rintro e w31 ⟨rfl, hi, hb, hk⟩; refine ⟨_, rfl, ?_⟩; replace HO_350000 := Aside0.mk (Kd.S_mono (Kd.S_keep (IsS150.apartS (show IsS150 w0 _ g s0_0 t356 from zi150_34 HI0) (zoS HO_350000) (by decide)) hk (fun _ h => h.2)) (fun _ h => h.1)); replace BK345 := Aside0.mk (KeepBut.blk hk (g' := gb345) (o := .cells #[.slice none 0 0] 48 (0, 0)) (zb BK345) NB345_0.out (by simp)); replace BK349 := Aside0.mk (KeepBut.blk hk (g' := gb349) (o := .cells #[u350000] 48 (0, 0)) (zb BK349) NB349_0.out (by simp)); replace HK := Aside0.mk (KeepBut.trans (zk HK) hk (.inl rfl)); replace HB := Aside0.mk (hb); replace HI0 := Aside0.mk (hi); (try clear hb); (try clear hb2); (try clear hk); (try clear hi); refine hK.out _ _ ((blk_cell BK349.out 0).trans rfl) (fun hHeld => ?_); clear hK K; refine norm_ (a' := ?_) ?_ ?_; rotate_left
      ·show Act.put _ (some 30) _ = _
       simp only [Act.put, List.setIfInBounds_toArray, List.set_cons_zero, List.set_cons_succ, i64_w, i32_w]; rfl
      refine one_ (i := 4) (N := some 31) #[true, true, true, true, true, false, false, false, false, false] rfl rfl (one_of HT_.out (by kernel_rfl)) (by decide) (fun K hK => ?_); refine Kd.R_lit_step (Kd.int .i64) _ 3 ?hg (N := 31) ?hd (xs := ([t367] : List Int)) (inner := [.int .i64 t367]) (ok := fun _ => True) (okp := fun _ => True) ?hr ?hp (fun _ hk => hk) trivial (Below.refl _ _) (Nat.le_refl _) (by simp) ?_; (case hd => rfl); (case hg => rfl); (case hr => first | (go_simp; done) | (go_simp; rfl)); (case hp => exact (Reps.one (show Kd.M (Kd.int .i64) _ _ _ t367 [.int .i64 t367] from rfl) (Reps.none _ _))); intro v370 w32 ho33 hb hg_ hnew_; clear hg_ hnew_
      (first | rw [← Ny369.out] at ho33 | (simp only [Int.reduceToNat] at ho33; rw [← Ny369.out] at ho33))
      replace HO_350000 := Aside0.mk (Kd.S_elder' (zoS HO_350000) (Kd.R_base ho33) hb); have HO371 := Aside0.mk (Kd.R_lower ho33 (keep_size (w := w) (g := g) (row := none) (zk HK))); replace BK345 := Aside0.mk (blk_below (g := gb345) (o := .cells #[.slice none 0 0] 48 (0, 0)) (zb BK345) hb); replace BK349 := Aside0.mk (blk_below (g := gb349) (o := .cells #[u350000] 48 (0, 0)) (zb BK349) hb); replace HK := Aside0.mk (KeepBut.trans (zk HK) (KeepBut.of_below hb g none) (.inl rfl)); replace HB := Aside0.mk (below_step (zj150_34 HB) hb); replace HI0 := Aside0.mk (IsS150.below (zi150_34 HI0) hb); clear hb ho33; obtain ⟨Ao34, co34, eo34⟩ := Kd.R_slice HO371.out
      (first | subst eo34 | (injection eo34 with f1_ f2_ f3_; have f4_ := f1_.symm; have f5_ := f3_.symm; clear f1_ f2_ f3_; subst f4_; subst f5_))
      refine hK.out _ _ ((blk_cell BK349.out 0).trans rfl) (fun hHeld => ?_); clear hK K; refine norm_ (a' := ?_) ?_ ?_; rotate_left
      ·show Act.put _ (some 31) _ = _
       simp only [Act.put, List.setIfInBounds_toArray, List.set_cons_zero, List.set_cons_succ, i64_w, i32_w]; rfl
      refine pure_ (i := 5) (N := some 32) (v := ?_) (a' := ?_) #[true, true, true, true, true, true, false, false, false, false] rfl rfl (any_of HT_.out (by kernel_rfl)) (fun _ _ _ h => h) (Or.inl ⟨by rfl, ?_⟩) ?_ ?_; rotate_left
      ·intro w'; go_simp; with_reducible rfl
      rotate_left
      ·simp only [Act.put, List.setIfInBounds_toArray, List.set_cons_zero, List.set_cons_succ, i64_w, i32_w]; rfl
      refine one_ (i := 6) (N := some 33) #[true, true, true, true, true, true, true, false, false, false] rfl rfl (one_of HT_.out (by kernel_rfl)) (by decide) (fun K hK => ?_); refine value_ (w1 := ?_) (v := ?_) (by rfl) rfl ?_ ?_; rotate_left 2
      ·go_simp; constructor
       ·rfl
       ·rfl
      refine hK.out _ _ ((blk_cell (blk_alloc BK349.out _) 0).trans rfl) (fun hHeld => ?_); clear hK K; refine norm_ (a' := ?_) ?_ ?_; rotate_left
      ·show Act.put _ (some 33) _ = _
       simp only [Act.put, List.setIfInBounds_toArray, List.set_cons_zero, List.set_cons_succ, i64_w, i32_w]; rfl
      refine one_ (i := 7) (N := some 34) #[true, true, true, true, true, true, true, true, false, false] rfl rfl (one_of HT_.out (by kernel_rfl)) (by decide) (fun K hK => ?_); refine Kd.S_append_step k110 w.heap.size (by rfl) (.tmp 28) (.tmp 33) 46 110 (.agg #[(.int .i64 0), (.string ⟨#[]⟩), (.slice none 0 0), (.slice none 0 0)]) 72 rfl Try.underlying46 info110 rfl (by decide) (by omega) u350000 x350000_1 (⟨0, (⟨#[]⟩ : ByteArray), y369, ([] : List (S94))⟩ : S110) [.int .i64 0, .string (⟨#[]⟩ : ByteArray), .slice Ao34 y369.length co34, .slice none 0 0] (fun _ => True) (fun k_ => some k_ = (.slice Ao34 y369.length co34 : Value).ownBlock) rfl rfl ?aP (fun k_ hk_ => ((Kd.R_mono (ok' := fun k_ => ((fun _ => True)) k_ ∧ some k_ ≠ (u350000 : Value).ownBlock) (Kd.R_apart' (HO371.out) (Kd.S_typed HO_350000.out) (by decide)) (fun k_ hk => ⟨trivial, hk.2⟩))).1 k_ hk_.symm) ?aF ?aO (Below.refl _ _) ?aS ?aL ?_
      (case aP => exact k110_mkM _ _ _ (⟨0, (⟨#[]⟩ : ByteArray), y369, ([] : List (S94))⟩ : S110) (Kd.R_mono (Kd.R_tight rfl (Kd.R_mono (ok' := fun k_ => ((fun _ => True)) k_ ∧ some k_ ≠ (u350000 : Value).ownBlock) (Kd.R_apart' (HO371.out) (Kd.S_typed HO_350000.out) (by decide)) (fun k_ hk => ⟨trivial, hk.2⟩))) (fun _ h_ => h_)) (Kd.R_nil _ _ _ _ _))
      (case aF => exact (fun _ _ => trivial))
      (case aO => exact (zmS HO_350000 (fun k_ hk => ⟨trivial, fun e_ => hk.2 e_⟩)))
      (case aS => exact (keep_size (w := w) (g := g) (row := none) (zk HK)))
      (case aL => have := LMc28.out; omega)
      intro v373 w35 ho hb hg hat; rw [← Ny372.out] at ho; have n0_ := Aside0.mk (blk_grown (g := gb345) (o := .cells #[.slice none 0 0] 48 (0, 0)) (zb BK345) hg (Kd.S_ne HO_350000.out BK345.out (by decide))); have n1_ := Aside0.mk (blk_grown (g := gb349) (o := .cells #[u350000] 48 (0, 0)) (zb BK349) hg (Kd.S_ne HO_350000.out BK349.out (by decide))); have n2_ := Aside0.mk (IsS150.grown (zi150_34 HI0) hg (IsS150.own_neS HI0.out HO_350000.out (by decide))); have n3_ := Aside0.mk (below_weaken (zj150_34 HB) HL.out hb); have n4_ := Aside0.mk (KeepBut.trans (zk HK) (KeepBut.of_grown hg g) (Kd.S_base2 HO_350000.out)); have n5_ := Aside0.mk (ho); clear BK345; clear BK349; clear HI0; clear HB; clear HK; clear HO_350000; clear HO371; have BK345 := n0_; have BK349 := n1_; have HI0 := n2_; have HB := n3_; have HK := n4_; have HO374 := n5_; clear n0_ n1_ n2_ n3_ n4_ n5_; clear ho hb hg hat; obtain ⟨Ao36, co36, eo36⟩ := Kd.S_slice HO374.out
      (first | subst eo36 | (injection eo36 with f1_ f2_ f3_; have f4_ := f1_.symm; have f5_ := f3_.symm; clear f1_ f2_ f3_; subst f4_; subst f5_))
      refine hK.out _ _ ((blk_cell BK349.out 0).trans rfl) (fun hHeld => ?_); clear hK K; refine norm_ (a' := ?_) ?_ ?_; rotate_left
      ·show Act.put _ (some 34) _ = _
       simp only [Act.put, List.setIfInBounds_toArray, List.set_cons_zero, List.set_cons_succ, i64_w, i32_w]; rfl
      refine pure_ (i := 8) (N := some 35) (v := ?_) (a' := ?_) #[true, true, true, true, true, true, true, true, true, false] rfl rfl (any_of HT_.out (by kernel_rfl)) (fun _ _ _ h => h) (Or.inl ⟨by rfl, ?_⟩) ?_ ?_; rotate_left
      ·intro w'; go_simp; with_reducible rfl
      rotate_left
      ·simp only [Act.put, List.setIfInBounds_toArray, List.set_cons_zero, List.set_cons_succ, i64_w, i32_w]; rfl
      refine last_ (i := 9) (N := none) #[true, true, true, true, true, true, true, true, true, true] rfl rfl (one_of HT_.out (by kernel_rfl)) (by decide) (fun K hK => ?_); have hs37 : w35.cell? ⟨gb349, 0, none⟩ = some (u350000) := (blk_cell BK349.out 0).trans rfl; have hfs37 := blk_frozen BK349.out 0; have hns37_0 := NB345_349.out; have hms37_0 := NB349_345.out; refine skip_ (w1 := ?_) (by rfl) rfl ?_ ?_; rotate_left
      ·go_simp; rfl
      refine hK.out _ _ ?_; clear hK K; refine done_ (done_of HT_.out (by kernel_rfl)) ?_
      try go_wp2
      go_roundg k1
      case measure => have := HK1.out; omega
      case rel => exact ⟨(wrap64 (x4_1 - 1)), (t368), (y372), (.slice Ao36 y372.length co36), zr, H', ⟨by have := HK1.out; omega⟩, ⟨by (with_reducible repeat (first | apply Kd.S_alloc | apply Kd.S_drewN | apply Kd.S_drew)); exact Kd.S_mono (Kd.S_far (p := ⟨gb349, 0, none⟩) (Kd.S_types HO374.out BK349.out (by decide)) (fun _ hk => hk.2) (.slice Ao36 y372.length co36)) (fun _ hk => trivial)⟩, ⟨zf BK345⟩, ⟨by (with_reducible repeat (first | refine blk_drewN ?_ _ | refine blk_drew ?_ | refine blk_alloc ?_ _)); refine blk_put (cs := #[u350000]) ?_ 0 _ rfl; (with_reducible repeat (first | refine blk_drewN ?_ _ | refine blk_drew ?_ | refine blk_alloc ?_ _)); exact BK349.out⟩, ⟨by repeat (first | (with_reducible first | exact HI0.out | apply IsS150.alloc | apply IsS150.drewN | apply IsS150.drew | apply IsS150.set_1 | refine IsS150.far ?_ NB0_345.out _ | refine IsS150.far ?_ NB0_349.out _) | exact HI0.out)⟩, ⟨zk HK⟩, ⟨zj150_34 HB⟩⟩
     ·rw [if_neg c28] at H; exact absurd H (by simp)
   ·rw [if_neg c15] at H; have c15b0 : decide (0 < x4_1) = false := decide_eq_false c15; clear c15; obtain ⟨y375, hy375⟩ : ∃ y_ : List Int, y_ = (([2, 1, 0, 3] : List Int)) := ⟨_, rfl⟩
    replace H : ((spec_reader_one.f k1 s0_0 x1001_1 y375).bind fun bt378 => (spec_goodCallOf.l1 k1 bt378.1 s0_0 bt378.2 x350000_1)) = some (r1, r2) := by first | (rw [hy375]; with_reducible exact H) | (have H2_ := (Option.bind_some _ _).symm.trans H; rw [hy375]; with_reducible exact H2_) | (have H2_ := (Option.bind_some _ _).symm.trans H; with_reducible exact H2_) | with_reducible exact H | (rw [hy375]; exact H) | exact H
    have Ny375 := Aside0.mk hy375; clear hy375; replace H := Option.bind_eq_some_iff.mp H; obtain ⟨⟨t378, t379⟩, A380, H⟩ := H
    (try dsimp only at H)
    have A38 := Aside0.mk A380; clear A380; have H' := Aside0.mk H; clear H; go_wp2_with (first | ((with_reducible refine gate_dst (N := 37) rfl ?_); refine Kd.R_lit (Kd.int .i64) _ 3 ?hg (N := 37) ?hd (xs := ([2, 1, 0, 3] : List Int)) (inner := [.int .i64 2, .int .i64 1, .int .i64 0, .int .i64 3]) (ok := fun _ => True) (okp := fun _ => True) ?hr ?hp (fun _ hk => hk) trivial (Below.refl _ _) (Nat.le_refl _) (by simp) ?_; (case hd => rfl); (case hg => rfl); (case hr => first | (go_simp; done) | (go_simp; rfl)); (case hp => exact (Reps.one (show Kd.M (Kd.int .i64) _ _ _ 2 [.int .i64 2] from rfl) (Reps.one (show Kd.M (Kd.int .i64) _ _ _ 1 [.int .i64 1] from rfl) (Reps.one (show Kd.M (Kd.int .i64) _ _ _ 0 [.int .i64 0] from rfl) (Reps.one (show Kd.M (Kd.int .i64) _ _ _ 3 [.int .i64 3] from rfl) (Reps.none _ _)))))); intro v376 w39 ho40 hb hg_ hnew_; clear hg_ hnew_; (first | rw [← Ny375.out] at ho40 | (simp only [Int.reduceToNat] at ho40; rw [← Ny375.out] at ho40)); replace HO_350000 := Aside0.mk (Kd.S_elder' (zoS HO_350000) (Kd.R_base ho40) hb); have HO377 := Aside0.mk (Kd.R_lower ho40 (keep_size (w := w) (g := g) (row := none) (zk HK))); replace BK345 := Aside0.mk (blk_below (g := gb345) (o := .cells #[.slice none 0 0] 48 (0, 0)) (zb BK345) hb); replace BK349 := Aside0.mk (blk_below (g := gb349) (o := .cells #[u350000] 48 (0, 0)) (zb BK349) hb); replace HK := Aside0.mk (KeepBut.trans (zk HK) (KeepBut.of_below hb g none) (.inl rfl)); replace HB := Aside0.mk (below_step (zj150_34 HB) hb); replace HI0 := Aside0.mk (IsS150.below (zi150_34 HI0) hb); clear hb ho40; obtain ⟨Ao41, co41, eo41⟩ := Kd.R_slice HO377.out; subst eo41) | ((with_reducible refine gate_callee (f := 126) rfl ?_); refine goesL_ (some 38) rfl rfl Try.func126 (by kernel_rfl) rfl #[.pointer (some ⟨g, 0, none⟩), .slice Ao41 y375.length co41] rfl zl ?_; (with_reducible refine (spec_reader_one.calls k1 g s0_0 x1001_1 _ _ y375 t378 t379 w0 _ ?side1 ?side2 ?side3 ?side4 ?side5 A38.out).mono ?_); (case side1 => exact zi150_34 HI0); (case side2 => exact zj150_34 HB); (case side3 => repeat (first | exact (Kd.R_reads' HO377.out).2.2 | (with_reducible refine Kd.C_alloc ?_ _) | (with_reducible refine Kd.C_drewN ?_ _) | (with_reducible refine Kd.C_drew ?_))); (case side4 => exact (Kd.R_reads' HO377.out).2.1); (case side5 => exact far_slice (IsS150.own_ne HI0.out HO377.out (by decide))); rintro e w42 ⟨rfl, hi, hb, hk⟩; refine ⟨_, rfl, ?_⟩; replace HO_350000 := Aside0.mk (Kd.S_mono (Kd.S_keep (IsS150.apartS (show IsS150 w0 _ g s0_0 x1001_1 from zi150_34 HI0) (zoS HO_350000) (by decide)) hk (fun _ h => h.2)) (fun _ h => h.1)); replace BK345 := Aside0.mk (KeepBut.blk hk (g' := gb345) (o := .cells #[.slice none 0 0] 48 (0, 0)) (zb BK345) NB345_0.out (by simp)); replace BK349 := Aside0.mk (KeepBut.blk hk (g' := gb349) (o := .cells #[u350000] 48 (0, 0)) (zb BK349) NB349_0.out (by simp)); replace HO377 := Aside0.mk (Kd.R_mono (Kd.R_keep (IsS150.apart (show IsS150 w0 _ g s0_0 x1001_1 from zi150_34 HI0) (zo HO377) (by decide)) hk (fun _ h => h.2)) (fun _ h => h.1)); replace HK := Aside0.mk (KeepBut.trans (zk HK) hk (.inl rfl)); replace HB := Aside0.mk (hb); replace HI0 := Aside0.mk (hi); (try clear hb); (try clear hb2); (try clear hk); (try clear hi))); go_loopg [5] k1 (fun kq v5 w' => ∃ (x5_2 : Int) (x1001_2 : Int) (x350000_2 : List (S110)) (u350000 : Value), v5 = .int .i64 x5_2 ∧ Aside0 (spec_goodCallOf.l1 kq x5_2 s0_0 x1001_2 x350000_2 = some (r1, r2)) ∧ Aside0 (kq ≤ k1) ∧ Aside0 (Kd.S k110 110 w' w.heap.size (fun _ => True) u350000 x350000_2) ∧ Aside0 (w'.heap[gb345]? = some (.cells #[(.slice none 0 0)] 48 (0, 0))) ∧ Aside0 (w'.heap[gb349]? = some (.cells #[u350000] 48 (0, 0))) ∧ Aside0 (IsS150 w0 w' g s0_0 x1001_2) ∧ Aside0 (KeepBut w w' g none) ∧ Aside0 (Below w0.heap.size w0 w'))
    case atStart => exact ⟨(t378), (t379), (x350000_1), (u350000), zr, H', ⟨Nat.le_refl _⟩, ⟨by (with_reducible repeat (first | apply Kd.S_alloc | apply Kd.S_drewN | apply Kd.S_drew)); exact Kd.S_mono HO_350000.out (fun _ hk => trivial)⟩, ⟨zb BK345⟩, ⟨zb BK349⟩, ⟨by repeat (first | (with_reducible first | exact HI0.out | apply IsS150.alloc | apply IsS150.drewN | apply IsS150.drew | apply IsS150.set_1 | refine IsS150.far ?_ NB0_345.out _ | refine IsS150.far ?_ NB0_349.out _) | exact HI0.out)⟩, ⟨zk HK⟩, ⟨zj150_34 HB⟩⟩
    case round =>
     clear H'; (try clear c1); (try clear c2); (try clear p2); (try clear p6); (try clear c8); (try clear c9); (try clear c12); (try clear c13); (try clear c15); (try clear c15b0); (try clear c17); (try clear c17b0); (try clear c17b1); (try clear c19); (try clear c28); (try clear hcz10_0); (try clear hfz10_0); (try clear p2); obtain ⟨x5_2, x1001_2, x350000_2, u350000, rfl, HA, HK2, HO_350000, BK345, BK349, HI0, HK, HB⟩ := hrel
     cases gk with
     | zero => exact absurd HA.out (by simp [spec_goodCallOf.l1])
     | succ k2 =>
      have H := HA.out; clear HA; simp only [spec_goodCallOf.l1] at H
      by_cases c43 : x5_2 > 0
      ·rw [if_pos c43] at H; have c43b0 : decide (0 < x5_2) = true := decide_eq_true c43; clear c43; replace H := Option.bind_eq_some_iff.mp H; obtain ⟨⟨t380, t381⟩, A440, H⟩ := H
       (try dsimp only at H)
       have A44 := Aside0.mk A440; clear A440
       by_cases c45 : t380 = 0
       ·rw [if_pos c45] at H; have c45b0 : (t380 == 0) = true := beq_iff_eq.mpr c45; have c45b1 : (t380 != 0) = false := bne_eq_false_iff_eq.mpr c45; clear c45; replace H := Option.bind_eq_some_iff.mp H; obtain ⟨⟨t382, t385, t388⟩, A460, H⟩ := H
        (try dsimp only at H)
        have A46 := Aside0.mk A460; clear A460
        by_cases c47 : x350000_2.length < 1954687338268
        ·rw [if_pos c47] at H; have LMc47 := Aside0.mk c47; clear c47; obtain ⟨y389, hy389⟩ : ∃ y_ : List (S110), y_ = (x350000_2 ++ [(⟨3, (⟨#[]⟩ : ByteArray), ([] : List Int), t385⟩ : S110)]) := ⟨_, rfl⟩
         replace H : (spec_goodCallOf.l1 k2 (wrap64 (x5_2 - 1)) s0_0 t388 y389) = some (r1, r2) := by first | (rw [hy389]; with_reducible exact H) | (have H2_ := (Option.bind_some _ _).symm.trans H; rw [hy389]; with_reducible exact H2_) | (have H2_ := (Option.bind_some _ _).symm.trans H; with_reducible exact H2_) | with_reducible exact H | (rw [hy389]; exact H) | exact H
         have Ny389 := Aside0.mk hy389; clear hy389; have H' := Aside0.mk H; clear H
         try go_wp2_with (first | ((with_reducible refine gate_callee (f := 125) rfl ?_); refine goesL_ (some 44) rfl rfl Try.func125 (by kernel_rfl) rfl #[.pointer (some ⟨g, 0, none⟩), .int .i64 3] rfl zl ?_; (with_reducible refine (spec_reader_pick.calls k2 g s0_0 x1001_2 3 t380 t381 w0 _ ?side1 ?side2 A44.out).mono ?_); (case side1 => exact zi150_34 HI0); (case side2 => exact zj150_34 HB); rintro e w48 ⟨rfl, hi, hb, hk⟩; refine ⟨_, rfl, ?_⟩; replace HO_350000 := Aside0.mk (Kd.S_mono (Kd.S_keep (IsS150.apartS (show IsS150 w0 _ g s0_0 x1001_2 from zi150_34 HI0) (zoS HO_350000) (by decide)) hk (fun _ h => h.2)) (fun _ h => h.1)); replace BK345 := Aside0.mk (KeepBut.blk hk (g' := gb345) (o := .cells #[.slice none 0 0] 48 (0, 0)) (zb BK345) NB345_0.out (by simp)); replace BK349 := Aside0.mk (KeepBut.blk hk (g' := gb349) (o := .cells #[u350000] 48 (0, 0)) (zb BK349) NB349_0.out (by simp)); replace HK := Aside0.mk (KeepBut.trans (zk HK) hk (.inl rfl)); replace HB := Aside0.mk (hb); replace HI0 := Aside0.mk (hi); (try clear hb); (try clear hb2); (try clear hk); (try clear hi)))
         replace HO_350000 := Aside0.mk (Kd.S_drew HO_350000.out); replace BK345 := Aside0.mk (blk_drew BK345.out); replace BK349 := Aside0.mk (blk_drew BK349.out); replace HI0 := Aside0.mk (IsS150.drew HI0.out); replace HK := Aside0.mk (keep_drew HK.out); replace HB := Aside0.mk (below_drew1 HB.out); refine start_ (n := 10) (S := fun w' => w'.cell? ⟨gb349, 0, none⟩ = some (u350000)) (ds := [9]) #[false, false, false, false, false, false, false, false, false, false] (by kernel_rfl) rfl rfl ((blk_cell BK349.out 0).trans rfl) (fun hHeld => ?_); refine with_tabW spec_goodCallOf.tab12 spec_goodCallOf.bits12 (fun HT_ HW_ => ?_); generalize w48.drew = w49 at HO_350000 BK345 BK349 HI0 HK HB hHeld ⊢; refine pure_ (i := 0) (N := some 46) (v := ?_) (a' := ?_) #[true, false, false, false, false, false, false, false, false, false] rfl rfl (any_of HT_.out (by kernel_rfl)) (fun _ _ _ h => h) (Or.inl ⟨by rfl, ?_⟩) ?_ ?_; rotate_left
         ·intro w'; go_simp; with_reducible rfl
         rotate_left
         ·simp only [Act.put, List.setIfInBounds_toArray, List.set_cons_zero, List.set_cons_succ, i64_w, i32_w]; rfl
         refine pure_ (i := 2) (N := some 48) (v := ?_) (a' := ?_) #[true, false, true, false, false, false, false, false, false, false] rfl rfl (any_of HT_.out (by kernel_rfl)) (fun _ _ _ h => h) (Or.inl ⟨by rfl, ?_⟩) ?_ ?_; rotate_left
         ·intro w'; go_simp; with_reducible rfl
         rotate_left
         ·simp only [Act.put, List.setIfInBounds_toArray, List.set_cons_zero, List.set_cons_succ, i64_w, i32_w]; rfl
         refine take_ (i := 1) (N := some 47) (v := ?_) (a' := ?_) #[true, true, true, false, false, false, false, false, false, false] rfl rfl (take_ofW HT_.out HW_.out (by kernel_rfl)) (fun _ _ _ h => h) (Or.inl ⟨by rfl, ?_⟩) hHeld ?_ ?_; rotate_left
         ·intro w' s0; go_simp; with_reducible rfl
         rotate_left
         ·simp only [Act.put, List.setIfInBounds_toArray, List.set_cons_zero, List.set_cons_succ, i64_w, i32_w]; rfl
         refine one_ (i := 3) (N := some 49) #[true, true, true, true, false, false, false, false, false, false] rfl rfl (one_of HT_.out (by kernel_rfl)) (by decide) (fun K hK => ?_); refine goes_ Try.func133 (by kernel_rfl) rfl #[.pointer (some ⟨g, 0, none⟩)] (by rfl) rfl rfl zl ?_; with_reducible refine (spec_goodFlat.calls k2 g s0_0 t381 t382 t385 t388 w0 _ ?side1 ?side2 A46.out).mono ?_
         (case side1 => exact zi150_34 HI0)
         (case side2 => exact zj150_34 HB)
         rintro e w50 ⟨v383, v386, rfl, ho0, ho1, hi, hb, hk⟩; refine ⟨_, rfl, ?_⟩; replace HO_350000 := Aside0.mk (Kd.S_mono (Kd.S_told (Kd.S_told (Kd.S_oldK (IsS150.apartS (show IsS150 w0 _ g s0_0 t381 from zi150_34 HI0) (zoS HO_350000) (by decide)) hk) (Kd.R_base ho0)) (Kd.R_base ho1)) (fun _ h_ => h_.1)); replace BK345 := Aside0.mk (KeepBut.blk hk (g' := gb345) (o := .cells #[.slice none 0 0] 48 (0, 0)) (zb BK345) NB345_0.out (by simp)); replace BK349 := Aside0.mk (KeepBut.blk hk (g' := gb349) (o := .cells #[u350000] 48 (0, 0)) (zb BK349) NB349_0.out (by simp)); have HO384 := Aside0.mk (Kd.R_lower ho0 (keep_size (w := w) (g := g) (row := none) (zk HK))); have HO387 := Aside0.mk (Kd.R_lower ho1 (keep_size (w := w) (g := g) (row := none) (zk HK))); replace HK := Aside0.mk (KeepBut.trans (zk HK) hk (.inl rfl)); replace HB := Aside0.mk (hb); replace HI0 := Aside0.mk (hi); (try clear hb); (try clear hb2); (try clear hk); (try clear hi); (try clear ho0); (try clear ho1); obtain ⟨Ao51, co51, eo51⟩ := Kd.R_slice HO387.out
         (first | subst eo51 | (injection eo51 with f1_ f2_ f3_; have f4_ := f1_.symm; have f5_ := f3_.symm; clear f1_ f2_ f3_; subst f4_; subst f5_))
         refine hK.out _ _ ((blk_cell BK349.out 0).trans rfl) (fun hHeld => ?_); clear hK K; refine norm_ (a' := ?_) ?_ ?_; rotate_left
         ·show Act.put _ (some 49) _ = _
          simp only [Act.put, List.setIfInBounds_toArray, List.set_cons_zero, List.set_cons_succ, i64_w, i32_w]; rfl
         refine pure_ (i := 4) (N := some 50) (v := ?_) (a' := ?_) #[true, true, true, true, true, false, false, false, false, false] rfl rfl (any_of HT_.out (by kernel_rfl)) (fun _ _ _ h => h) (Or.inl ⟨by rfl, ?_⟩) ?_ ?_; rotate_left
         ·intro w'; go_simp; with_reducible rfl
         rotate_left
         ·simp only [Act.put, List.setIfInBounds_toArray, List.set_cons_zero, List.set_cons_succ, i64_w, i32_w]; rfl
         refine pure_ (i := 5) (N := some 51) (v := ?_) (a' := ?_) #[true, true, true, true, true, true, false, false, false, false] rfl rfl (any_of HT_.out (by kernel_rfl)) (fun _ _ _ h => h) (Or.inl ⟨by rfl, ?_⟩) ?_ ?_; rotate_left
         ·intro w'; go_simp; with_reducible rfl
         rotate_left
         ·simp only [Act.put, List.setIfInBounds_toArray, List.set_cons_zero, List.set_cons_succ, i64_w, i32_w]; rfl
         refine one_ (i := 6) (N := some 52) #[true, true, true, true, true, true, true, false, false, false] rfl rfl (one_of HT_.out (by kernel_rfl)) (by decide) (fun K hK => ?_); refine value_ (w1 := ?_) (v := ?_) (by rfl) rfl ?_ ?_; rotate_left 2
         ·go_simp; constructor
          ·rfl
          ·rfl
         refine hK.out _ _ ((blk_cell (blk_alloc BK349.out _) 0).trans rfl) (fun hHeld => ?_); clear hK K; refine norm_ (a' := ?_) ?_ ?_; rotate_left
         ·show Act.put _ (some 52) _ = _
          simp only [Act.put, List.setIfInBounds_toArray, List.set_cons_zero, List.set_cons_succ, i64_w, i32_w]; rfl
         refine one_ (i := 7) (N := some 53) #[true, true, true, true, true, true, true, true, false, false] rfl rfl (one_of HT_.out (by kernel_rfl)) (by decide) (fun K hK => ?_); refine Kd.S_append_step k110 w.heap.size (by rfl) (.tmp 47) (.tmp 52) 46 110 (.agg #[(.int .i64 0), (.string ⟨#[]⟩), (.slice none 0 0), (.slice none 0 0)]) 72 rfl Try.underlying46 info110 rfl (by decide) (by omega) u350000 x350000_2 (⟨3, (⟨#[]⟩ : ByteArray), ([] : List Int), t385⟩ : S110) [.int .i64 3, .string (⟨#[]⟩ : ByteArray), .slice none 0 0, .slice Ao51 t385.length co51] (fun k_ => some k_ ≠ (v383 : Value).ownBlock) (fun k_ => some k_ = (.slice Ao51 t385.length co51 : Value).ownBlock) rfl rfl ?aP (fun k_ hk_ => ((Kd.R_mono (ok' := fun k_ => ((fun k_ => some k_ ≠ (v383 : Value).ownBlock)) k_ ∧ some k_ ≠ (u350000 : Value).ownBlock) (Kd.R_apart' (Kd.R_apart' (HO387.out) (Kd.R_typed HO384.out) (by decide)) (Kd.S_typed HO_350000.out) (by decide)) (fun k_ hk => ⟨hk.1.2, hk.2⟩))).1 k_ hk_.symm) ?aF ?aO (Below.refl _ _) ?aS ?aL ?_
         (case aP => exact k110_mkM _ _ _ (⟨3, (⟨#[]⟩ : ByteArray), ([] : List Int), t385⟩ : S110) (Kd.R_nil _ _ _ _ _) (Kd.R_mono (Kd.R_tight rfl (Kd.R_mono (ok' := fun k_ => ((fun k_ => some k_ ≠ (v383 : Value).ownBlock)) k_ ∧ some k_ ≠ (u350000 : Value).ownBlock) (Kd.R_apart' (Kd.R_apart' (HO387.out) (Kd.R_typed HO384.out) (by decide)) (Kd.S_typed HO_350000.out) (by decide)) (fun k_ hk => ⟨hk.1.2, hk.2⟩))) (fun _ h_ => h_)))
         (case aF => exact (fun k_ hk => Kd.fresh' (Kd.R_lt (zo HO384)) k_ hk))
         (case aO => exact (zmS HO_350000 (fun k_ hk => ⟨hk.1.2, fun e_ => hk.2 e_⟩)))
         (case aS => exact (keep_size (w := w) (g := g) (row := none) (zk HK)))
         (case aL => have := LMc47.out; omega)
         intro v390 w52 ho hb hg hat; rw [← Ny389.out] at ho; have n0_ := Aside0.mk (blk_grown (g := gb345) (o := .cells #[.slice none 0 0] 48 (0, 0)) (zb BK345) hg (Kd.S_ne HO_350000.out BK345.out (by decide))); have n1_ := Aside0.mk (blk_grown (g := gb349) (o := .cells #[u350000] 48 (0, 0)) (zb BK349) hg (Kd.S_ne HO_350000.out BK349.out (by decide))); have n2_ := Aside0.mk (IsS150.grown (zi150_34 HI0) hg (IsS150.own_neS HI0.out HO_350000.out (by decide))); have n3_ := Aside0.mk (Kd.R_over' (zo HO384) (Kd.S_typed (zoS HO_350000)) (by decide) hg); have n4_ := Aside0.mk (below_weaken (zj150_34 HB) HL.out hb); have n5_ := Aside0.mk (KeepBut.trans (zk HK) (KeepBut.of_grown hg g) (Kd.S_base2 HO_350000.out)); have n6_ := Aside0.mk (ho); clear BK345; clear BK349; clear HI0; clear HO384; clear HB; clear HK; clear HO_350000; clear HO387; have BK345 := n0_; have BK349 := n1_; have HI0 := n2_; have HO384 := n3_; have HB := n4_; have HK := n5_; have HO391 := n6_; clear n0_ n1_ n2_ n3_ n4_ n5_ n6_; clear ho hb hg hat; obtain ⟨Ao53, co53, eo53⟩ := Kd.S_slice HO391.out
         (first | subst eo53 | (injection eo53 with f1_ f2_ f3_; have f4_ := f1_.symm; have f5_ := f3_.symm; clear f1_ f2_ f3_; subst f4_; subst f5_))
         refine hK.out _ _ ((blk_cell BK349.out 0).trans rfl) (fun hHeld => ?_); clear hK K; refine norm_ (a' := ?_) ?_ ?_; rotate_left
         ·show Act.put _ (some 53) _ = _
          simp only [Act.put, List.setIfInBounds_toArray, List.set_cons_zero, List.set_cons_succ, i64_w, i32_w]; rfl
         refine pure_ (i := 8) (N := some 54) (v := ?_) (a' := ?_) #[true, true, true, true, true, true, true, true, true, false] rfl rfl (any_of HT_.out (by kernel_rfl)) (fun _ _ _ h => h) (Or.inl ⟨by rfl, ?_⟩) ?_ ?_; rotate_left
         ·intro w'; go_simp; with_reducible rfl
         rotate_left
         ·simp only [Act.put, List.setIfInBounds_toArray, List.set_cons_zero, List.set_cons_succ, i64_w, i32_w]; rfl
         refine last_ (i := 9) (N := none) #[true, true, true, true, true, true, true, true, true, true] rfl rfl (one_of HT_.out (by kernel_rfl)) (by decide) (fun K hK => ?_); have hs54 : w52.cell? ⟨gb349, 0, none⟩ = some (u350000) := (blk_cell BK349.out 0).trans rfl; have hfs54 := blk_frozen BK349.out 0; have hns54_0 := NB345_349.out; have hms54_0 := NB349_345.out; refine skip_ (w1 := ?_) (by rfl) rfl ?_ ?_; rotate_left
         ·go_simp; rfl
         refine hK.out _ _ ?_; clear hK K; refine done_ (done_of HT_.out (by kernel_rfl)) ?_
         try go_wp2
         go_roundg k2
         case measure => have := HK1.out; have := HK2.out; omega
         case rel => exact ⟨(wrap64 (x5_2 - 1)), (t388), (y389), (.slice Ao53 y389.length co53), zr, H', ⟨by have := HK1.out; have := HK2.out; omega⟩, ⟨by (with_reducible repeat (first | apply Kd.S_alloc | apply Kd.S_drewN | apply Kd.S_drew)); exact Kd.S_mono (Kd.S_far (p := ⟨gb349, 0, none⟩) (Kd.S_types HO391.out BK349.out (by decide)) (fun _ hk => hk.2) (.slice Ao53 y389.length co53)) (fun _ hk => trivial)⟩, ⟨zf BK345⟩, ⟨by (with_reducible repeat (first | refine blk_drewN ?_ _ | refine blk_drew ?_ | refine blk_alloc ?_ _)); refine blk_put (cs := #[u350000]) ?_ 0 _ rfl; (with_reducible repeat (first | refine blk_drewN ?_ _ | refine blk_drew ?_ | refine blk_alloc ?_ _)); exact BK349.out⟩, ⟨by repeat (first | (with_reducible first | exact HI0.out | apply IsS150.alloc | apply IsS150.drewN | apply IsS150.drew | apply IsS150.set_1 | refine IsS150.far ?_ NB0_345.out _ | refine IsS150.far ?_ NB0_349.out _) | exact HI0.out)⟩, ⟨zk HK⟩, ⟨zj150_34 HB⟩⟩
        ·rw [if_neg c47] at H; exact absurd H (by simp)
       ·rw [if_neg c45] at H; have c45b0 : (t380 == 0) = false := beq_eq_false_iff_ne.mpr c45; have c45b1 : (t380 != 0) = true := bne_iff_ne.mpr c45; replace H := Option.bind_eq_some_iff.mp H; obtain ⟨⟨t392, t393⟩, A550, H⟩ := H
        (try dsimp only at H)
        have A55 := Aside0.mk A550; clear A550; replace H := Option.bind_eq_some_iff.mp H; obtain ⟨⟨t394, t395⟩, A560, H⟩ := H
        (try dsimp only at H)
        have A56 := Aside0.mk A560; clear A560; obtain ⟨y396, hy396⟩ : ∃ y_ : List Int, y_ = (([t394] : List Int)) := ⟨_, rfl⟩
        replace H : (if x350000_2.length < 1954687338268 then (spec_goodCallOf.l1 k2 (wrap64 (x5_2 - 1)) s0_0 t395 (x350000_2 ++ [(⟨2, t392, y396, ([] : List (S94))⟩ : S110)])) else (none)) = some (r1, r2) := by first | (rw [hy396]; with_reducible exact H) | (have H2_ := (Option.bind_some _ _).symm.trans H; rw [hy396]; with_reducible exact H2_) | (have H2_ := (Option.bind_some _ _).symm.trans H; with_reducible exact H2_) | with_reducible exact H | (rw [hy396]; exact H) | exact H
        have Ny396 := Aside0.mk hy396; clear hy396
        by_cases c57 : x350000_2.length < 1954687338268
        ·rw [if_pos c57] at H; have LMc57 := Aside0.mk c57; clear c57; obtain ⟨y399, hy399⟩ : ∃ y_ : List (S110), y_ = (x350000_2 ++ [(⟨2, t392, y396, ([] : List (S94))⟩ : S110)]) := ⟨_, rfl⟩
         replace H : (spec_goodCallOf.l1 k2 (wrap64 (x5_2 - 1)) s0_0 t395 y399) = some (r1, r2) := by first | (rw [hy399]; with_reducible exact H) | (have H2_ := (Option.bind_some _ _).symm.trans H; rw [hy399]; with_reducible exact H2_) | (have H2_ := (Option.bind_some _ _).symm.trans H; with_reducible exact H2_) | with_reducible exact H | (rw [hy399]; exact H) | exact H
         have Ny399 := Aside0.mk hy399; clear hy399; have H' := Aside0.mk H; clear H
         try go_wp2_with (first | ((with_reducible refine gate_callee (f := 125) rfl ?_); refine goesL_ (some 44) rfl rfl Try.func125 (by kernel_rfl) rfl #[.pointer (some ⟨g, 0, none⟩), .int .i64 3] rfl zl ?_; (with_reducible refine (spec_reader_pick.calls k2 g s0_0 x1001_2 3 t380 t381 w0 _ ?side1 ?side2 A44.out).mono ?_); (case side1 => exact zi150_34 HI0); (case side2 => exact zj150_34 HB); rintro e w58 ⟨rfl, hi, hb, hk⟩; refine ⟨_, rfl, ?_⟩; replace HO_350000 := Aside0.mk (Kd.S_mono (Kd.S_keep (IsS150.apartS (show IsS150 w0 _ g s0_0 x1001_2 from zi150_34 HI0) (zoS HO_350000) (by decide)) hk (fun _ h => h.2)) (fun _ h => h.1)); replace BK345 := Aside0.mk (KeepBut.blk hk (g' := gb345) (o := .cells #[.slice none 0 0] 48 (0, 0)) (zb BK345) NB345_0.out (by simp)); replace BK349 := Aside0.mk (KeepBut.blk hk (g' := gb349) (o := .cells #[u350000] 48 (0, 0)) (zb BK349) NB349_0.out (by simp)); replace HK := Aside0.mk (KeepBut.trans (zk HK) hk (.inl rfl)); replace HB := Aside0.mk (hb); replace HI0 := Aside0.mk (hi); (try clear hb); (try clear hb2); (try clear hk); (try clear hi)))
         replace HO_350000 := Aside0.mk (Kd.S_drew HO_350000.out); replace BK345 := Aside0.mk (blk_drew BK345.out); replace BK349 := Aside0.mk (blk_drew BK349.out); replace HI0 := Aside0.mk (IsS150.drew HI0.out); replace HK := Aside0.mk (keep_drew HK.out); replace HB := Aside0.mk (below_drew1 HB.out); refine start_ (n := 12) (S := fun w' => w'.cell? ⟨gb349, 0, none⟩ = some (u350000)) (ds := [11]) #[false, false, false, false, false, false, false, false, false, false, false, false] (by kernel_rfl) rfl rfl ((blk_cell BK349.out 0).trans rfl) (fun hHeld => ?_); refine with_tabW spec_goodCallOf.tab13 spec_goodCallOf.bits13 (fun HT_ HW_ => ?_); generalize w58.drew = w59 at HO_350000 BK345 BK349 HI0 HK HB hHeld ⊢; refine pure_ (i := 0) (N := some 55) (v := ?_) (a' := ?_) #[true, false, false, false, false, false, false, false, false, false, false, false] rfl rfl (any_of HT_.out (by kernel_rfl)) (fun _ _ _ h => h) (Or.inl ⟨by rfl, ?_⟩) ?_ ?_; rotate_left
         ·intro w'; go_simp; with_reducible rfl
         rotate_left
         ·simp only [Act.put, List.setIfInBounds_toArray, List.set_cons_zero, List.set_cons_succ, i64_w, i32_w]; rfl
         refine pure_ (i := 2) (N := some 57) (v := ?_) (a' := ?_) #[true, false, true, false, false, false, false, false, false, false, false, false] rfl rfl (any_of HT_.out (by kernel_rfl)) (fun _ _ _ h => h) (Or.inl ⟨by rfl, ?_⟩) ?_ ?_; rotate_left
         ·intro w'; go_simp; with_reducible rfl
         rotate_left
         ·simp only [Act.put, List.setIfInBounds_toArray, List.set_cons_zero, List.set_cons_succ, i64_w, i32_w]; rfl
         refine pure_ (i := 4) (N := some 59) (v := ?_) (a' := ?_) #[true, false, true, false, true, false, false, false, false, false, false, false] rfl rfl (any_of HT_.out (by kernel_rfl)) (fun _ _ _ h => h) (Or.inl ⟨by rfl, ?_⟩) ?_ ?_; rotate_left
         ·intro w'; go_simp; with_reducible rfl
         rotate_left
         ·simp only [Act.put, List.setIfInBounds_toArray, List.set_cons_zero, List.set_cons_succ, i64_w, i32_w]; rfl
         refine take_ (i := 1) (N := some 56) (v := ?_) (a' := ?_) #[true, true, true, false, true, false, false, false, false, false, false, false] rfl rfl (take_ofW HT_.out HW_.out (by kernel_rfl)) (fun _ _ _ h => h) (Or.inl ⟨by rfl, ?_⟩) hHeld ?_ ?_; rotate_left
         ·intro w' s0; go_simp; with_reducible rfl
         rotate_left
         ·simp only [Act.put, List.setIfInBounds_toArray, List.set_cons_zero, List.set_cons_succ, i64_w, i32_w]; rfl
         refine one_ (i := 3) (N := some 58) #[true, true, true, true, true, false, false, false, false, false, false, false] rfl rfl (one_of HT_.out (by kernel_rfl)) (by decide) (fun K hK => ?_); refine goes_ Try.func142 (by kernel_rfl) rfl #[.pointer (some ⟨g, 0, none⟩)] (by rfl) rfl rfl zl ?_; with_reducible refine (spec_aName.calls k2 g s0_0 t381 t392 t393 w0 _ ?side1 ?side2 A55.out).mono ?_
         (case side1 => exact zi150_34 HI0)
         (case side2 => exact zj150_34 HB)
         rintro e w60 ⟨rfl, hi, hb, hk⟩; refine ⟨_, rfl, ?_⟩; replace HO_350000 := Aside0.mk (Kd.S_mono (Kd.S_keep (IsS150.apartS (show IsS150 w0 _ g s0_0 t381 from zi150_34 HI0) (zoS HO_350000) (by decide)) hk (fun _ h => h.2)) (fun _ h => h.1)); replace BK345 := Aside0.mk (KeepBut.blk hk (g' := gb345) (o := .cells #[.slice none 0 0] 48 (0, 0)) (zb BK345) NB345_0.out (by simp)); replace BK349 := Aside0.mk (KeepBut.blk hk (g' := gb349) (o := .cells #[u350000] 48 (0, 0)) (zb BK349) NB349_0.out (by simp)); replace HK := Aside0.mk (KeepBut.trans (zk HK) hk (.inl rfl)); replace HB := Aside0.mk (hb); replace HI0 := Aside0.mk (hi); (try clear hb); (try clear hb2); (try clear hk); (try clear hi); refine hK.out _ _ ((blk_cell BK349.out 0).trans rfl) (fun hHeld => ?_); clear hK K; refine norm_ (a' := ?_) ?_ ?_; rotate_left
         ·show Act.put _ (some 58) _ = _
          simp only [Act.put, List.setIfInBounds_toArray, List.set_cons_zero, List.set_cons_succ, i64_w, i32_w]; rfl
         refine one_ (i := 5) (N := some 60) #[true, true, true, true, true, true, false, false, false, false, false, false] rfl rfl (one_of HT_.out (by kernel_rfl)) (by decide) (fun K hK => ?_); refine goes_ Try.func134 (by kernel_rfl) rfl #[.pointer (some ⟨g, 0, none⟩)] (by rfl) rfl rfl zl ?_; with_reducible refine (spec_aNumber.calls k2 g s0_0 t393 t394 t395 w0 _ ?side1 ?side2 A56.out).mono ?_
         (case side1 => exact zi150_34 HI0)
         (case side2 => exact zj150_34 HB)
         rintro e w61 ⟨rfl, hi, hb, hk⟩; refine ⟨_, rfl, ?_⟩; replace HO_350000 := Aside0.mk (Kd.S_mono (Kd.S_keep (IsS150.apartS (show IsS150 w0 _ g s0_0 t393 from zi150_34 HI0) (zoS HO_350000) (by decide)) hk (fun _ h => h.2)) (fun _ h => h.1)); replace BK345 := Aside0.mk (KeepBut.blk hk (g' := gb345) (o := .cells #[.slice none 0 0] 48 (0, 0)) (zb BK345) NB345_0.out (by simp)); replace BK349 := Aside0.mk (KeepBut.blk hk (g' := gb349) (o := .cells #[u350000] 48 (0, 0)) (zb BK349) NB349_0.out (by simp)); replace HK := Aside0.mk (KeepBut.trans (zk HK) hk (.inl rfl)); replace HB := Aside0.mk (hb); replace HI0 := Aside0.mk (hi); (try clear hb); (try clear hb2); (try clear hk); (try clear hi); refine hK.out _ _ ((blk_cell BK349.out 0).trans rfl) (fun hHeld => ?_); clear hK K; refine norm_ (a' := ?_) ?_ ?_; rotate_left
         ·show Act.put _ (some 60) _ = _
          simp only [Act.put, List.setIfInBounds_toArray, List.set_cons_zero, List.set_cons_succ, i64_w, i32_w]; rfl
         refine one_ (i := 6) (N := some 61) #[true, true, true, true, true, true, true, false, false, false, false, false] rfl rfl (one_of HT_.out (by kernel_rfl)) (by decide) (fun K hK => ?_); refine Kd.R_lit_step (Kd.int .i64) _ 3 ?hg (N := 61) ?hd (xs := ([t394] : List Int)) (inner := [.int .i64 t394]) (ok := fun _ => True) (okp := fun _ => True) ?hr ?hp (fun _ hk => hk) trivial (Below.refl _ _) (Nat.le_refl _) (by simp) ?_; (case hd => rfl); (case hg => rfl); (case hr => first | (go_simp; done) | (go_simp; rfl)); (case hp => exact (Reps.one (show Kd.M (Kd.int .i64) _ _ _ t394 [.int .i64 t394] from rfl) (Reps.none _ _))); intro v397 w62 ho63 hb hg_ hnew_; clear hg_ hnew_
         (first | rw [← Ny396.out] at ho63 | (simp only [Int.reduceToNat] at ho63; rw [← Ny396.out] at ho63))
         replace HO_350000 := Aside0.mk (Kd.S_elder' (zoS HO_350000) (Kd.R_base ho63) hb); have HO398 := Aside0.mk (Kd.R_lower ho63 (keep_size (w := w) (g := g) (row := none) (zk HK))); replace BK345 := Aside0.mk (blk_below (g := gb345) (o := .cells #[.slice none 0 0] 48 (0, 0)) (zb BK345) hb); replace BK349 := Aside0.mk (blk_below (g := gb349) (o := .cells #[u350000] 48 (0, 0)) (zb BK349) hb); replace HK := Aside0.mk (KeepBut.trans (zk HK) (KeepBut.of_below hb g none) (.inl rfl)); replace HB := Aside0.mk (below_step (zj150_34 HB) hb); replace HI0 := Aside0.mk (IsS150.below (zi150_34 HI0) hb); clear hb ho63; obtain ⟨Ao64, co64, eo64⟩ := Kd.R_slice HO398.out
         (first | subst eo64 | (injection eo64 with f1_ f2_ f3_; have f4_ := f1_.symm; have f5_ := f3_.symm; clear f1_ f2_ f3_; subst f4_; subst f5_))
         refine hK.out _ _ ((blk_cell BK349.out 0).trans rfl) (fun hHeld => ?_); clear hK K; refine norm_ (a' := ?_) ?_ ?_; rotate_left
         ·show Act.put _ (some 61) _ = _
          simp only [Act.put, List.setIfInBounds_toArray, List.set_cons_zero, List.set_cons_succ, i64_w, i32_w]; rfl
         refine pure_ (i := 7) (N := some 62) (v := ?_) (a' := ?_) #[true, true, true, true, true, true, true, true, false, false, false, false] rfl rfl (any_of HT_.out (by kernel_rfl)) (fun _ _ _ h => h) (Or.inl ⟨by rfl, ?_⟩) ?_ ?_; rotate_left
         ·intro w'; go_simp; with_reducible rfl
         rotate_left
         ·simp only [Act.put, List.setIfInBounds_toArray, List.set_cons_zero, List.set_cons_succ, i64_w, i32_w]; rfl
         refine one_ (i := 8) (N := some 63) #[true, true, true, true, true, true, true, true, true, false, false, false] rfl rfl (one_of HT_.out (by kernel_rfl)) (by decide) (fun K hK => ?_); refine value_ (w1 := ?_) (v := ?_) (by rfl) rfl ?_ ?_; rotate_left 2
         ·go_simp; constructor
          ·rfl
          ·rfl
         refine hK.out _ _ ((blk_cell (blk_alloc BK349.out _) 0).trans rfl) (fun hHeld => ?_); clear hK K; refine norm_ (a' := ?_) ?_ ?_; rotate_left
         ·show Act.put _ (some 63) _ = _
          simp only [Act.put, List.setIfInBounds_toArray, List.set_cons_zero, List.set_cons_succ, i64_w, i32_w]; rfl
         refine one_ (i := 9) (N := some 64) #[true, true, true, true, true, true, true, true, true, true, false, false] rfl rfl (one_of HT_.out (by kernel_rfl)) (by decide) (fun K hK => ?_); refine Kd.S_append_step k110 w.heap.size (by rfl) (.tmp 56) (.tmp 63) 46 110 (.agg #[(.int .i64 0), (.string ⟨#[]⟩), (.slice none 0 0), (.slice none 0 0)]) 72 rfl Try.underlying46 info110 rfl (by decide) (by omega) u350000 x350000_2 (⟨2, t392, y396, ([] : List (S94))⟩ : S110) [.int .i64 2, .string t392, .slice Ao64 y396.length co64, .slice none 0 0] (fun _ => True) (fun k_ => some k_ = (.slice Ao64 y396.length co64 : Value).ownBlock) rfl rfl ?aP (fun k_ hk_ => ((Kd.R_mono (ok' := fun k_ => ((fun _ => True)) k_ ∧ some k_ ≠ (u350000 : Value).ownBlock) (Kd.R_apart' (HO398.out) (Kd.S_typed HO_350000.out) (by decide)) (fun k_ hk => ⟨trivial, hk.2⟩))).1 k_ hk_.symm) ?aF ?aO (Below.refl _ _) ?aS ?aL ?_
         (case aP => exact k110_mkM _ _ _ (⟨2, t392, y396, ([] : List (S94))⟩ : S110) (Kd.R_mono (Kd.R_tight rfl (Kd.R_mono (ok' := fun k_ => ((fun _ => True)) k_ ∧ some k_ ≠ (u350000 : Value).ownBlock) (Kd.R_apart' (HO398.out) (Kd.S_typed HO_350000.out) (by decide)) (fun k_ hk => ⟨trivial, hk.2⟩))) (fun _ h_ => h_)) (Kd.R_nil _ _ _ _ _))
         (case aF => exact (fun _ _ => trivial))
         (case aO => exact (zmS HO_350000 (fun k_ hk => ⟨trivial, fun e_ => hk.2 e_⟩)))
         (case aS => exact (keep_size (w := w) (g := g) (row := none) (zk HK)))
         (case aL => have := LMc57.out; omega)
         intro v400 w65 ho hb hg hat; rw [← Ny399.out] at ho; have n0_ := Aside0.mk (blk_grown (g := gb345) (o := .cells #[.slice none 0 0] 48 (0, 0)) (zb BK345) hg (Kd.S_ne HO_350000.out BK345.out (by decide))); have n1_ := Aside0.mk (blk_grown (g := gb349) (o := .cells #[u350000] 48 (0, 0)) (zb BK349) hg (Kd.S_ne HO_350000.out BK349.out (by decide))); have n2_ := Aside0.mk (IsS150.grown (zi150_34 HI0) hg (IsS150.own_neS HI0.out HO_350000.out (by decide))); have n3_ := Aside0.mk (below_weaken (zj150_34 HB) HL.out hb); have n4_ := Aside0.mk (KeepBut.trans (zk HK) (KeepBut.of_grown hg g) (Kd.S_base2 HO_350000.out)); have n5_ := Aside0.mk (ho); clear BK345; clear BK349; clear HI0; clear HB; clear HK; clear HO_350000; clear HO398; have BK345 := n0_; have BK349 := n1_; have HI0 := n2_; have HB := n3_; have HK := n4_; have HO401 := n5_; clear n0_ n1_ n2_ n3_ n4_ n5_; clear ho hb hg hat; obtain ⟨Ao66, co66, eo66⟩ := Kd.S_slice HO401.out
         (first | subst eo66 | (injection eo66 with f1_ f2_ f3_; have f4_ := f1_.symm; have f5_ := f3_.symm; clear f1_ f2_ f3_; subst f4_; subst f5_))
         refine hK.out _ _ ((blk_cell BK349.out 0).trans rfl) (fun hHeld => ?_); clear hK K; refine norm_ (a' := ?_) ?_ ?_; rotate_left
         ·show Act.put _ (some 64) _ = _
          simp only [Act.put, List.setIfInBounds_toArray, List.set_cons_zero, List.set_cons_succ, i64_w, i32_w]; rfl
         refine pure_ (i := 10) (N := some 65) (v := ?_) (a' := ?_) #[true, true, true, true, true, true, true, true, true, true, true, false] rfl rfl (any_of HT_.out (by kernel_rfl)) (fun _ _ _ h => h) (Or.inl ⟨by rfl, ?_⟩) ?_ ?_; rotate_left
         ·intro w'; go_simp; with_reducible rfl
         rotate_left
         ·simp only [Act.put, List.setIfInBounds_toArray, List.set_cons_zero, List.set_cons_succ, i64_w, i32_w]; rfl
         refine last_ (i := 11) (N := none) #[true, true, true, true, true, true, true, true, true, true, true, true] rfl rfl (one_of HT_.out (by kernel_rfl)) (by decide) (fun K hK => ?_); have hs67 : w65.cell? ⟨gb349, 0, none⟩ = some (u350000) := (blk_cell BK349.out 0).trans rfl; have hfs67 := blk_frozen BK349.out 0; have hns67_0 := NB345_349.out; have hms67_0 := NB349_345.out; refine skip_ (w1 := ?_) (by rfl) rfl ?_ ?_; rotate_left
         ·go_simp; rfl
         refine hK.out _ _ ?_; clear hK K; refine done_ (done_of HT_.out (by kernel_rfl)) ?_
         try go_wp2
         go_roundg k2
         case measure => have := HK1.out; have := HK2.out; omega
         case rel => exact ⟨(wrap64 (x5_2 - 1)), (t395), (y399), (.slice Ao66 y399.length co66), zr, H', ⟨by have := HK1.out; have := HK2.out; omega⟩, ⟨by (with_reducible repeat (first | apply Kd.S_alloc | apply Kd.S_drewN | apply Kd.S_drew)); exact Kd.S_mono (Kd.S_far (p := ⟨gb349, 0, none⟩) (Kd.S_types HO401.out BK349.out (by decide)) (fun _ hk => hk.2) (.slice Ao66 y399.length co66)) (fun _ hk => trivial)⟩, ⟨zf BK345⟩, ⟨by (with_reducible repeat (first | refine blk_drewN ?_ _ | refine blk_drew ?_ | refine blk_alloc ?_ _)); refine blk_put (cs := #[u350000]) ?_ 0 _ rfl; (with_reducible repeat (first | refine blk_drewN ?_ _ | refine blk_drew ?_ | refine blk_alloc ?_ _)); exact BK349.out⟩, ⟨by repeat (first | (with_reducible first | exact HI0.out | apply IsS150.alloc | apply IsS150.drewN | apply IsS150.drew | apply IsS150.set_1 | refine IsS150.far ?_ NB0_345.out _ | refine IsS150.far ?_ NB0_349.out _) | exact HI0.out)⟩, ⟨zk HK⟩, ⟨zj150_34 HB⟩⟩
        ·rw [if_neg c57] at H; exact absurd H (by simp)
      ·rw [if_neg c43] at H; have c43b0 : decide (0 < x5_2) = false := decide_eq_false c43; clear c43; simp only [Option.some.injEq, Prod.mk.injEq] at H; obtain ⟨rfl, rfl⟩ := H; have hnb68 := NB349_345.out; have hnc68 := NB345_349.out; have hnb69 := NB349_0.out; have hnc69 := NB0_349.out; have hcz70_0 : wr.cell? ⟨gb349, 0, none⟩ = some (u350000) := (blk_cell BK349.out 0).trans rfl; have hfz70_0 := blk_frozen BK349.out 0; obtain ⟨Ao71, co71, eo71⟩ := Kd.S_slice HO_350000.out; subst eo71; have hnb72 := NB345_0.out; have hnc72 := NB0_345.out; have hcz73_0 : wr.cell? ⟨gb345, 0, none⟩ = some (.slice none 0 0) := (blk_cell BK345.out 0).trans rfl; have hfz73_0 := blk_frozen BK345.out 0; go_wp2; refine bodyPost_ret (results_cell_row rfl _ _ gb345 48 #[.slice Ao71 x350000_2.length co71] (0, 0) _ rfl (by (with_reducible repeat (first | refine blk_drewN ?_ _ | refine blk_drew ?_ | refine blk_alloc ?_ _)); refine blk_put (cs := #[.slice none 0 0]) ?_ 0 _ rfl; (with_reducible repeat (first | refine blk_drewN ?_ _ | refine blk_drew ?_ | refine blk_alloc ?_ _)); exact BK345.out) Try.underlying48 rfl (by kernel_rfl)) rfl ?_; exact ⟨_, by first | rfl | (simp [errW_none, errW_some] <;> rfl) | (simp [*, errW_none, errW_some] <;> rfl), by (with_reducible repeat (first | apply Kd.S_alloc | apply Kd.S_drewN | apply Kd.S_drew)); exact Kd.S_mono (Kd.S_far (p := ⟨gb345, 0, none⟩) (Kd.S_types HO_350000.out BK345.out (by decide)) (fun _ hk => hk.2) (.slice Ao71 x350000_2.length co71)) (fun _ hk => trivial), by repeat (first | (with_reducible first | exact HI0.out | apply IsS150.alloc | apply IsS150.drewN | apply IsS150.drew | apply IsS150.set_1 | refine IsS150.far ?_ NB0_345.out _ | refine IsS150.far ?_ NB0_349.out _) | exact HI0.out), by repeat (first | (with_reducible first | exact HB.out | apply below_alloc | apply pw_below_drewN | apply below_drew1 | refine below_set ?_ (IsS150.ge HI0.out) | refine below_set ?_ GE345.out | refine below_set ?_ GE349.out) | exact HB.out), zk HK⟩

end Go.Proofs.Ytkandhljbbolnaa.Q
