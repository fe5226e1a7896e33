-- written by px.py and merge.py (programs of this claim's), over the kit's print. Not trusted: Lean checks it.
import Derived.Test.YtfcpbgedgedalaaQ0
import Derived.Test.YtfcpbgedgedalaaM0FnThenTurn
import Derived.Test.YtfcpbgedgedalaaM1FnThenTurn
import Derived.Test.YtfcpbgedgedalaaM2FnThenTurn
namespace Go.Proofs.Ytfcpbgedgedalaa.Q
open Go.RowKit Go.Proofs.YtfcpbgedgedalaaL.PrintWords Go.Proofs.YtfcpbgedgedalaaL.PrintLast Go.Proofs.YtfcpbgedgedalaaL.PrintMore
attribute [local go_sem] max2_int min2_int max_two min_two max_three min_three max_four min_four   -- for this text's walks alone
set_option linter.unusedVariables false
set_option linter.unusedSimpArgs false

/-! ### spec_TurnBack: function 91 -/
def spec_TurnBack.l0 : Nat → List (S107) → List (S107) → Int → Option ((List (S107)))
 | 0, _, _, _ => none
 | k + 1, x0, x3, x4 => if x4 < (x0.length : Int) then (if 0 ≤ x4 then (if x3.length < 4398046511104 then (spec_TurnBack.l0 k x0 (x3 ++ [(⟨(rd_T107 x0 x4).f1, (rd_T107 x0 x4).f0⟩ : S107)]) (wrap64 (x4 + 1))) else (none)) else (none)) else (some x3)
def spec_TurnBack.f (k : Nat) (l0 : List (S107)) : Option ((List (S107))) := (spec_validTurns.f k l0).bind fun t873 => (if t873 = true then (spec_TurnBack.l0 k l0 (([] : List (S107))) 0) else (some ([] : List (S107))))
theorem spec_TurnBack.mono_l : ∀ k, (∀ y0 y1 y2, LeO (spec_TurnBack.l0 k y0 y1 y2) (spec_TurnBack.l0 (k + 1) y0 y1 y2))
 | 0 => fun _ _ _ r h => by simp [spec_TurnBack.l0] at h
 | k + 1 => by
  have ih0 := spec_TurnBack.mono_l k
  ·intro y0 y1 y2; unfold spec_TurnBack.l0
   repeat' first
   | (with_reducible exact ih0 _ _ _)
   | (with_reducible exact spec_validTurns.mono _ _)
   | (with_reducible exact LeO.refl _)
   | (with_reducible exact LeO.none _)
   | (with_reducible refine LeO.ite ?_ ?_)
   | (with_reducible refine LeO.bind ?_ (fun _ => ?_))
   | exact ih0 _ _ _
   | exact spec_validTurns.mono _ _
   | exact LeO.none _
   | refine LeO.ite ?_ ?_
   | refine LeO.bind ?_ (fun _ => ?_)
theorem spec_TurnBack.mono : ∀ a0 k, LeO (spec_TurnBack.f k a0) (spec_TurnBack.f (k + 1) a0) := by
 intro a0 k; have ih0 := spec_TurnBack.mono_l k; unfold spec_TurnBack.f
 repeat' first
   | (with_reducible exact ih0 _ _ _)
   | (with_reducible exact spec_validTurns.mono _ _)
   | (with_reducible exact LeO.refl _)
   | (with_reducible exact LeO.none _)
   | (with_reducible refine LeO.ite ?_ ?_)
   | (with_reducible refine LeO.bind ?_ (fun _ => ?_))
   | exact ih0 _ _ _
   | exact spec_validTurns.mono _ _
   | exact LeO.none _
   | refine LeO.ite ?_ ?_
   | refine LeO.bind ?_ (fun _ => ?_)
def spec_TurnBack.T7 : Bool × List (List Nat × List Nat) := (true, [([], []), ([], []), ([], []), ([1, 2], [1, 2]), ([3], [3]), ([4], [4]), ([], []), ([], []), ([6, 7], [6, 7]), ([8], [8]), ([9], [9]), ([5, 10], [5, 10]), ([11], [11]), ([0, 12], [0, 12]), ([13, 13, 0, 1, 2, 3, 4, 5, 6, 7, 8, 9, 10, 11, 12, 13], [0, 13])])
def spec_TurnBack.B7 : List Nat := [0, 0, 0, 6, 14, 30, 0, 0, 192, 448, 960, 2046, 4094, 8191, 16383]
theorem spec_TurnBack.tab7 : rtab .any (opsOf Try.f91 7) = spec_TurnBack.T7 := by kernel_rfl
theorem spec_TurnBack.bits7 : waitsOk spec_TurnBack.T7.2 spec_TurnBack.B7 = true := by kernel_rfl
set_option maxHeartbeats 8000000 in
set_option maxRecDepth 100000 in
theorem spec_TurnBack.calls (k : Nat) (A0 : Option Addr) (c0 : Nat) (l0 : List (S107)) (r : List (S107)) (w : World) (hr0 : Kd.C k107 w A0 l0.length l0) (hc0 : l0.length ≤ c0) (h : spec_TurnBack.f k l0 = some r) :
  Calls Try.prog 91 #[.slice A0 l0.length c0] w fun e w' => ∃ v0_ : Value, e = .returned (v0_) ∧ Kd.R k107 107 w' w.heap.size (fun _ => True) v0_ r ∧ Below w.heap.size w w' := by
 have hu107 := Try.underlying107; have HR0 := Aside0.mk hr0; have HC0 := Aside0.mk hc0; clear hr0 hc0; have HB := Aside0.mk (Below.refl w.heap.size w); have H : ((spec_validTurns.f k l0).bind fun t873 => (if t873 = true then (spec_TurnBack.l0 k l0 (([] : List (S107))) 0) else (some ([] : List (S107))))) = some r := h; clear h; replace H := Option.bind_eq_some_iff.mp H; obtain ⟨t873, A20, H⟩ := H
 (try dsimp only at H)
 have A2 := Aside0.mk A20; clear A20
 by_cases c3 : t873 = true
 ·subst c3; rw [if_pos rfl] at H; obtain ⟨y874, hy874⟩ : ∃ y_ : List (S107), y_ = (([] : List (S107))) := ⟨_, rfl⟩
  replace H : (spec_TurnBack.l0 k l0 y874 0) = some r := by first | (rw [hy874]; with_reducible exact H) | (have H2_ := (Option.bind_some _ _).symm.trans H; rw [hy874]; with_reducible exact H2_) | (have H2_ := (Option.bind_some _ _).symm.trans H; with_reducible exact H2_) | with_reducible exact H | (rw [hy874]; exact H) | exact H
  have Ny874 := Aside0.mk hy874; clear hy874; have H' := Aside0.mk H; clear H; go_enter Try.func91, Try.ntmps91; go_wp2_with (first | ((with_reducible refine gate_callee (f := 78) rfl ?_); refine goesL_ (some 6) rfl rfl Try.func78 (by kernel_rfl) rfl #[.slice A0 l0.length c0] rfl zl ?_; (with_reducible refine (spec_validTurns.calls k _ _ l0 true _ ?side1 ?side2 A2.out).mono ?_); (case side1 => repeat (first | exact HR0.out | (with_reducible refine Kd.C_alloc ?_ _) | (with_reducible refine Kd.C_drewN ?_ _) | (with_reducible refine Kd.C_drew ?_))); (case side2 => exact HC0.out); rintro e w' ⟨rfl, ⟨nd, rfl⟩⟩; refine ⟨_, rfl, ?_⟩) | ((with_reducible refine gate_dst (N := 8) rfl ?_); refine Kd.R_lit k107 _ 107 ?hg (N := 8) ?hd (xs := ([] : List (S107))) (inner := []) (ok := fun _ => True) (okp := fun _ => True) ?hr ?hp (fun _ hk => hk) trivial (Below.refl _ _) (Nat.le_refl _) (by simp) ?_; (case hd => rfl); (case hg => rfl); (case hr => first | (go_simp; done) | (go_simp; rfl)); (case hp => exact (Reps.none _ _)); intro v875 w4 ho5 hb hg_ hnew_; clear hg_ hnew_; (first | rw [← Ny874.out] at ho5 | (simp only [Int.reduceToNat] at ho5; rw [← Ny874.out] at ho5)); have HO876 := Aside0.mk (Kd.R_lower ho5 (below_size (zB HB))); replace HB := Aside0.mk (below_step (zB HB) hb); clear hb ho5)); go_loopg [3, 4] k (fun kq v3 v4 w' => ∃ (x3_1 : List (S107)) (x4_1 : Int), v4 = .int .i64 x4_1 ∧ Aside0 (spec_TurnBack.l0 kq l0 x3_1 x4_1 = some r) ∧ Aside0 (kq ≤ k) ∧ Aside0 (Kd.R k107 107 w' w.heap.size (fun _ => True) v3 x3_1) ∧ Aside0 (Below w.heap.size w w'))
  case atStart => exact ⟨(y874), (0), zr, H', ⟨Nat.le_refl _⟩, ⟨zo HO876⟩, ⟨zB HB⟩⟩
  case round =>
   clear H'; (try clear p2); (try clear c3); obtain ⟨x3_1, x4_1, rfl, HA, HK1, HO_3, HB⟩ := hrel
   cases gk with
   | zero => exact absurd HA.out (by simp [spec_TurnBack.l0])
   | succ k1 =>
    have H := HA.out; clear HA; simp only [spec_TurnBack.l0] at H
    by_cases c6 : x4_1 < (l0.length : Int)
    ·rw [if_pos c6] at H; have c6b0 : decide (x4_1 < (l0.length : Int)) = true := decide_eq_true c6; clear c6
     by_cases c7 : 0 ≤ x4_1
     ·rw [if_pos c7] at H; have c7b0 : decide (0 ≤ x4_1) = true := decide_eq_true c7; clear c7
      by_cases c8 : x3_1.length < 4398046511104
      ·rw [if_pos c8] at H; have LMc8 := Aside0.mk c8; clear c8; obtain ⟨y879, hy879⟩ : ∃ y_ : List (S107), y_ = (x3_1 ++ [(⟨(rd_T107 l0 x4_1).f1, (rd_T107 l0 x4_1).f0⟩ : S107)]) := ⟨_, rfl⟩
       replace H : (spec_TurnBack.l0 k1 l0 y879 (wrap64 (x4_1 + 1))) = some r := by first | (rw [hy879]; with_reducible exact H) | (have H2_ := (Option.bind_some _ _).symm.trans H; rw [hy879]; with_reducible exact H2_) | (have H2_ := (Option.bind_some _ _).symm.trans H; with_reducible exact H2_) | with_reducible exact H | (rw [hy879]; exact H) | exact H
       have Ny879 := Aside0.mk hy879; clear hy879; have H' := Aside0.mk H; clear H
       try go_wp2
       replace HO_3 := Aside0.mk (Kd.R_drew HO_3.out); replace HB := Aside0.mk (below_drew1 HB.out); have p877 : 0 ≤ (x4_1 : Int) := of_decide_eq_true za; have q877 : x4_1 < (l0.length : Int) := of_decide_eq_true za; obtain ⟨ad877, e877, hx877_0, hx877_1⟩ := at_T107 HR0.out x4_1 p877 q877; have hw877_1 := hx877_1; have hw877_0 := hx877_0
       cases e877
       replace hx877_0 := (HB.out.cell (World.block_lt_of_cell? w _ hx877_0)).trans hx877_0; replace hx877_1 := (HB.out.cell (World.block_lt_of_cell? w _ hx877_1)).trans hx877_1; replace p877 := eq_true p877; replace q877 := eq_true q877; have p878 : 0 ≤ (x4_1 : Int) := of_decide_eq_true za; have q878 : x4_1 < (l0.length : Int) := of_decide_eq_true za; obtain ⟨ad878, e878, hx878_0, hx878_1⟩ := at_T107 HR0.out x4_1 p878 q878; have hw878_1 := hx878_1; have hw878_0 := hx878_0; obtain rfl : ad877 = ad878 := (by injection e878)
       replace hx878_0 := (HB.out.cell (World.block_lt_of_cell? w _ hx878_0)).trans hx878_0; replace hx878_1 := (HB.out.cell (World.block_lt_of_cell? w _ hx878_1)).trans hx878_1; replace p878 := eq_true p878; replace q878 := eq_true q878; refine start_ (n := 15) (S := fun w' => w'.cell? (ad877.add ((x4_1).toNat * 2)) = some (.string ((rd_T107 l0 x4_1).f0)) ∧ w'.cell? ⟨(ad877.add ((x4_1).toNat * 2)).block, (ad877.add ((x4_1).toNat * 2)).off + 1, none⟩ = some (.string ((rd_T107 l0 x4_1).f1)) ∧ w'.cell? (ad877.add ((x4_1).toNat * 2)) = some (.string ((rd_T107 l0 x4_1).f0)) ∧ w'.cell? ⟨(ad877.add ((x4_1).toNat * 2)).block, (ad877.add ((x4_1).toNat * 2)).off + 1, none⟩ = some (.string ((rd_T107 l0 x4_1).f1))) (ds := []) #[false, false, false, false, false, false, false, false, false, false, false, false, false, false, false] (by kernel_rfl) rfl rfl ⟨((HB.out.cell (World.block_lt_of_cell? w _ hw877_0)).trans hw877_0), ((HB.out.cell (World.block_lt_of_cell? w _ hw877_1)).trans hw877_1), ((HB.out.cell (World.block_lt_of_cell? w _ hw878_0)).trans hw878_0), ((HB.out.cell (World.block_lt_of_cell? w _ hw878_1)).trans hw878_1)⟩ (fun hHeld => ?_); refine with_tabW spec_TurnBack.tab7 spec_TurnBack.bits7 (fun HT_ HW_ => ?_); generalize wr.drew = w9 at HO_3 HB hx877_0 hx877_1 hx878_0 hx878_1 hHeld ⊢; refine pure_ (i := 0) (N := some 15) (v := ?_) (a' := ?_) #[true, false, false, false, false, false, false, false, false, false, false, false, false, false, false] rfl rfl (any_of HT_.out (by kernel_rfl)) (fun _ _ _ h => h) (Or.inl ⟨by rfl, ?_⟩) ?_ ?_; rotate_left
       ·intro w'; go_simp; with_reducible rfl
       rotate_left
       ·simp only [Act.put, List.setIfInBounds_toArray, List.set_cons_zero, List.set_cons_succ, i64_w, i32_w]; rfl
       refine pure_ (i := 1) (N := some 16) (v := ?_) (a' := ?_) #[true, true, false, false, false, false, false, false, false, false, false, false, false, false, false] rfl rfl (any_of HT_.out (by kernel_rfl)) (fun _ _ _ h => h) (Or.inl ⟨by rfl, ?_⟩) ?_ ?_; rotate_left
       ·intro w'; go_simp; with_reducible rfl
       rotate_left
       ·simp only [Act.put, List.setIfInBounds_toArray, List.set_cons_zero, List.set_cons_succ, i64_w, i32_w]; rfl
       refine pure_ (i := 2) (N := some 17) (v := ?_) (a' := ?_) #[true, true, true, false, false, false, false, false, false, false, false, false, false, false, false] rfl rfl (any_of HT_.out (by kernel_rfl)) (fun _ _ _ h => h) (Or.inl ⟨by rfl, ?_⟩) ?_ ?_; rotate_left
       ·intro w'; go_simp; with_reducible rfl
       rotate_left
       ·simp only [Act.put, List.setIfInBounds_toArray, List.set_cons_zero, List.set_cons_succ, i64_w, i32_w]; rfl
       refine pure_ (i := 3) (N := some 18) (v := ?_) (a' := ?_) #[true, true, true, true, false, false, false, false, false, false, false, false, false, false, false] rfl rfl (any_of HT_.out (by kernel_rfl)) (fun _ _ _ h => h) (Or.inl ⟨by rfl, ?_⟩) ?_ ?_; rotate_left
       ·intro w'; go_simp; with_reducible rfl
       rotate_left
       ·simp only [Act.put, List.setIfInBounds_toArray, List.set_cons_zero, List.set_cons_succ, i64_w, i32_w]; rfl
       refine pure_ (i := 4) (N := some 19) (v := ?_) (a' := ?_) #[true, true, true, true, true, false, false, false, false, false, false, false, false, false, false] rfl rfl (any_of HT_.out (by kernel_rfl)) (fun _ _ _ h => h) (Or.inl ⟨by rfl, ?_⟩) ?_ ?_; rotate_left
       ·intro w'; go_simp; with_reducible rfl
       rotate_left
       ·simp only [Act.put, List.setIfInBounds_toArray, List.set_cons_zero, List.set_cons_succ, i64_w, i32_w]; rfl
       refine pure_ (i := 6) (N := some 21) (v := ?_) (a' := ?_) #[true, true, true, true, true, false, true, false, false, false, false, false, false, false, false] rfl rfl (any_of HT_.out (by kernel_rfl)) (fun _ _ _ h => h) (Or.inl ⟨by rfl, ?_⟩) ?_ ?_; rotate_left
       ·intro w'; go_simp; with_reducible rfl
       rotate_left
       ·simp only [Act.put, List.setIfInBounds_toArray, List.set_cons_zero, List.set_cons_succ, i64_w, i32_w]; rfl
       refine pure_ (i := 7) (N := some 22) (v := ?_) (a' := ?_) #[true, true, true, true, true, false, true, true, false, false, false, false, false, false, false] rfl rfl (any_of HT_.out (by kernel_rfl)) (fun _ _ _ h => h) (Or.inl ⟨by rfl, ?_⟩) ?_ ?_; rotate_left
       ·intro w'; go_simp; with_reducible rfl
       rotate_left
       ·simp only [Act.put, List.setIfInBounds_toArray, List.set_cons_zero, List.set_cons_succ, i64_w, i32_w]; rfl
       refine pure_ (i := 8) (N := some 23) (v := ?_) (a' := ?_) #[true, true, true, true, true, false, true, true, true, false, false, false, false, false, false] rfl rfl (any_of HT_.out (by kernel_rfl)) (fun _ _ _ h => h) (Or.inl ⟨by rfl, ?_⟩) ?_ ?_; rotate_left
       ·intro w'; go_simp; with_reducible rfl
       rotate_left
       ·simp only [Act.put, List.setIfInBounds_toArray, List.set_cons_zero, List.set_cons_succ, i64_w, i32_w]; rfl
       refine pure_ (i := 9) (N := some 24) (v := ?_) (a' := ?_) #[true, true, true, true, true, false, true, true, true, true, false, false, false, false, false] rfl rfl (any_of HT_.out (by kernel_rfl)) (fun _ _ _ h => h) (Or.inl ⟨by rfl, ?_⟩) ?_ ?_; rotate_left
       ·intro w'; go_simp; with_reducible rfl
       rotate_left
       ·simp only [Act.put, List.setIfInBounds_toArray, List.set_cons_zero, List.set_cons_succ, i64_w, i32_w]; rfl
       refine take_ (i := 5) (N := some 20) (v := ?_) (a' := ?_) #[true, true, true, true, true, true, true, true, true, true, false, false, false, false, false] rfl rfl (take_ofW HT_.out HW_.out (by kernel_rfl)) (fun _ _ _ h => h) (Or.inl ⟨by rfl, ?_⟩) hHeld ?_ ?_; rotate_left
       ·rintro w' ⟨s0, s1, s2, s3⟩; go_simp; with_reducible rfl
       rotate_left
       ·simp only [Act.put, List.setIfInBounds_toArray, List.set_cons_zero, List.set_cons_succ, i64_w, i32_w]; rfl
       refine take_ (i := 10) (N := some 25) (v := ?_) (a' := ?_) #[true, true, true, true, true, true, true, true, true, true, true, false, false, false, false] rfl rfl (take_ofW HT_.out HW_.out (by kernel_rfl)) (fun _ _ _ h => h) (Or.inl ⟨by rfl, ?_⟩) hHeld ?_ ?_; rotate_left
       ·rintro w' ⟨s0, s1, s2, s3⟩; go_simp; with_reducible rfl
       rotate_left
       ·simp only [Act.put, List.setIfInBounds_toArray, List.set_cons_zero, List.set_cons_succ, i64_w, i32_w]; rfl
       refine pure_ (i := 11) (N := some 26) (v := ?_) (a' := ?_) #[true, true, true, true, true, true, true, true, true, true, true, true, false, false, false] rfl rfl (any_of HT_.out (by kernel_rfl)) (fun _ _ _ h => h) (Or.inl ⟨by rfl, ?_⟩) ?_ ?_; rotate_left
       ·intro w'; go_simp; with_reducible rfl
       rotate_left
       ·simp only [Act.put, List.setIfInBounds_toArray, List.set_cons_zero, List.set_cons_succ, i64_w, i32_w]; rfl
       refine one_ (i := 12) (N := some 27) #[true, true, true, true, true, true, true, true, true, true, true, true, true, false, false] rfl rfl (one_of HT_.out (by kernel_rfl)) (by decide) (fun K hK => ?_); refine value_ (w1 := ?_) (v := ?_) (by rfl) rfl ?_ ?_; rotate_left 2
       ·go_simp; constructor
        ·rfl
        ·rfl
       refine hK.out _ _ ⟨(World.cell?_alloc_lt _ _ _ (World.block_lt_of_cell? _ _ (((HB.out.cell (World.block_lt_of_cell? w _ hw877_0)).trans hw877_0)))).trans (((HB.out.cell (World.block_lt_of_cell? w _ hw877_0)).trans hw877_0)), (World.cell?_alloc_lt _ _ _ (World.block_lt_of_cell? _ _ (((HB.out.cell (World.block_lt_of_cell? w _ hw877_1)).trans hw877_1)))).trans (((HB.out.cell (World.block_lt_of_cell? w _ hw877_1)).trans hw877_1)), (World.cell?_alloc_lt _ _ _ (World.block_lt_of_cell? _ _ (((HB.out.cell (World.block_lt_of_cell? w _ hw878_0)).trans hw878_0)))).trans (((HB.out.cell (World.block_lt_of_cell? w _ hw878_0)).trans hw878_0)), (World.cell?_alloc_lt _ _ _ (World.block_lt_of_cell? _ _ (((HB.out.cell (World.block_lt_of_cell? w _ hw878_1)).trans hw878_1)))).trans (((HB.out.cell (World.block_lt_of_cell? w _ hw878_1)).trans hw878_1))⟩ (fun hHeld => ?_); clear hK K; refine norm_ (a' := ?_) ?_ ?_; rotate_left
       ·show Act.put _ (some 27) _ = _
        simp only [Act.put, List.setIfInBounds_toArray, List.set_cons_zero, List.set_cons_succ, i64_w, i32_w]; rfl
       refine one_ (i := 13) (N := some 28) #[true, true, true, true, true, true, true, true, true, true, true, true, true, true, false] rfl rfl (one_of HT_.out (by kernel_rfl)) (by decide) (fun K hK => ?_); refine Kd.R_append_step k107 (w0 := w) w.heap.size (by rfl) (.tmp 15) (.tmp 27) 55 107 (.agg #[(.string ⟨#[]⟩), (.string ⟨#[]⟩)]) 32 rfl Try.underlying55 info107 rfl (by decide) (by omega) u3 x3_1 (⟨(rd_T107 l0 x4_1).f1, (rd_T107 l0 x4_1).f0⟩ : S107) [.string ((rd_T107 l0 x4_1).f1), .string ((rd_T107 l0 x4_1).f0)] (fun _ => True) (fun _ => False) rfl rfl ?aP (fun _ hk => hk.elim) ?aF ?aO ?aB ?aS ?aL ?_
       (case aP => exact k107_mkM _ _ _ (⟨(rd_T107 l0 x4_1).f1, (rd_T107 l0 x4_1).f0⟩ : S107))
       (case aB => exact (zB HB))
       (case aF => exact (fun _ _ => trivial))
       (case aO => exact (zo HO_3))
       (case aS => exact (below_size (zB HB)))
       (case aL => have := LMc8.out; omega)
       intro v880 w10 ho hb hg hat; rw [← Ny879.out] at ho; have n0_ := Aside0.mk (hb); have n1_ := Aside0.mk (ho); clear HB; clear HO_3; have HB := n0_; have HO881 := n1_; clear n0_ n1_; clear ho hb hg hat; refine hK.out _ _ ⟨((HB.out.cell (World.block_lt_of_cell? w _ hw877_0)).trans hw877_0), ((HB.out.cell (World.block_lt_of_cell? w _ hw877_1)).trans hw877_1), ((HB.out.cell (World.block_lt_of_cell? w _ hw878_0)).trans hw878_0), ((HB.out.cell (World.block_lt_of_cell? w _ hw878_1)).trans hw878_1)⟩ (fun hHeld => ?_); clear hK K; refine norm_ (a' := ?_) ?_ ?_; rotate_left
       ·show Act.put _ (some 28) _ = _
        simp only [Act.put, List.setIfInBounds_toArray, List.set_cons_zero, List.set_cons_succ, i64_w, i32_w]; rfl
       refine pure_ (i := 14) (N := some 3) (v := ?_) (a' := ?_) #[true, true, true, true, true, true, true, true, true, true, true, true, true, true, true] rfl rfl (any_of HT_.out (by kernel_rfl)) (fun _ _ _ h => h) (Or.inl ⟨by rfl, ?_⟩) ?_ ?_; rotate_left
       ·intro w'; go_simp; with_reducible rfl
       rotate_left
       ·simp only [Act.put, List.setIfInBounds_toArray, List.set_cons_zero, List.set_cons_succ, i64_w, i32_w]; rfl
       refine done_ (done_of HT_.out (by kernel_rfl)) ?_
       try go_wp2
       go_roundg k1
       case measure => have := HK1.out; omega
       case rel => exact ⟨(y879), (wrap64 (x4_1 + 1)), zr, H', ⟨by have := HK1.out; omega⟩, ⟨zo HO881⟩, ⟨zB HB⟩⟩
      ·rw [if_neg c8] at H; exact absurd H (by simp)
     ·rw [if_neg c7] at H; exact absurd H (by simp)
    ·rw [if_neg c6] at H; have c6b0 : decide (x4_1 < (l0.length : Int)) = false := decide_eq_false c6; clear c6; obtain rfl := Option.some.inj H; go_wp2; go_ret; exact ⟨_, by first | rfl | (simp [errW_none, errW_some] <;> rfl) | (simp [*, errW_none, errW_some] <;> rfl), by (with_reducible repeat (first | apply Kd.R_alloc | apply Kd.R_drewN | apply Kd.R_drew)); exact HO_3.out, zB HB⟩
 ·replace c3 := Bool.eq_false_iff.mpr c3; subst c3; rw [if_neg (show ¬ (false = true) by decide)] at H; obtain rfl := Option.some.inj H; go_enter Try.func91, Try.ntmps91; go_wp2_with (first | ((with_reducible refine gate_callee (f := 78) rfl ?_); refine goesL_ (some 6) rfl rfl Try.func78 (by kernel_rfl) rfl #[.slice A0 l0.length c0] rfl zl ?_; (with_reducible refine (spec_validTurns.calls k _ _ l0 false _ ?side1 ?side2 A2.out).mono ?_); (case side1 => repeat (first | exact HR0.out | (with_reducible refine Kd.C_alloc ?_ _) | (with_reducible refine Kd.C_drewN ?_ _) | (with_reducible refine Kd.C_drew ?_))); (case side2 => exact HC0.out); rintro e w' ⟨rfl, ⟨nd, rfl⟩⟩; refine ⟨_, rfl, ?_⟩)); go_ret; exact ⟨_, by first | rfl | (simp [errW_none, errW_some] <;> rfl) | (simp [*, errW_none, errW_some] <;> rfl), by first | exact Kd.R_nil _ _ _ _ _ | exact Kd.N_nil _ _ _ _ _ | exact Kd.V_nil _ _ _ _ _ | exact Kd.Q_nil _ _ _ _ _ | exact Kd.S_nil _ _ _ _ _, zB HB⟩

end Go.Proofs.Ytfcpbgedgedalaa.Q

namespace Go.Proofs.Ytfcpbgedgedalaa.Q
open Go.RowKit Go.Proofs.YtfcpbgedgedalaaL.PrintWords Go.Proofs.YtfcpbgedgedalaaL.PrintLast Go.Proofs.YtfcpbgedgedalaaL.PrintMore
attribute [local go_sem] max2_int min2_int max_two min_two max_three min_three max_four min_four   -- for this text's walks alone
set_option linter.unusedVariables false
set_option linter.unusedSimpArgs false

theorem zi129_86 {w0 W W' : World} {g : Nat} {f0 f0' : List Int} {f1 f1' : Int} (h : Aside0 (IsS129 w0 W g f0 f1)) (i : IsS129 w0 W g f0 f1 → IsS129 w0 W' g f0' f1' := by intro hh_; repeat (first | (with_reducible first | exact hh_ | apply IsS129.alloc | apply IsS129.drewN | apply IsS129.drew | apply IsS129.set_1 | refine IsS129.far ?_ (Aside0.out (by assumption)) _) | exact hh_)) : IsS129 w0 W' g f0' f1' := i h.out
theorem zj129_86 {B : Nat} {w W W' : World} (h : Aside0 (Below B w W)) (i : Below B w W → Below B w W' := by intro hh_; repeat (first | (with_reducible first | exact hh_ | apply below_alloc | apply pw_below_drewN | apply below_drew1 | refine below_set ?_ (IsS129.ge (Aside0.out (by assumption))) | refine below_set ?_ (Aside0.out (by assumption))) | exact hh_)) : Below B w W' := i h.out
/-! ### spec_DrawThenTurn: function 40 -/
def spec_DrawThenTurn.j0 : Nat → List (S107) → Bool → List Int → Int → Option ((List (S107)) × (List (S107)))
 | 0, _, _, _, _ => none
 | k + 1, x5, x16, x885000, x885001 => if x16 = true then ((spec_TurnBack.f k x5).bind fun t892 => (some (x5, t892))) else ((spec_someTurns.f k x885000 x885001).bind fun bt895 => (some (x5, bt895.1)))
def spec_DrawThenTurn.f (k : Nat) (l0 : List Int) : Option ((List (S107)) × (List (S107))) := (spec_newReader.f l0).bind fun bt882 => ((spec_someTurns.f k bt882.1 bt882.2).bind fun bt885 => ((spec_reader_pick.f k bt882.1 bt885.2 4).bind fun bt889 => (if bt889.1 = 0 then ((spec_validTurns.f k bt885.1).bind fun t891 => (spec_DrawThenTurn.j0 k bt885.1 t891 bt882.1 bt889.2)) else (spec_DrawThenTurn.j0 k bt885.1 false bt882.1 bt889.2))))
theorem spec_DrawThenTurn.mono_l : ∀ k, (∀ y0 y1 y2 y3, LeO (spec_DrawThenTurn.j0 k y0 y1 y2 y3) (spec_DrawThenTurn.j0 (k + 1) y0 y1 y2 y3))
 | 0 => fun _ _ _ _ r h => by simp [spec_DrawThenTurn.j0] at h
 | k + 1 => by
  have ih0 := spec_DrawThenTurn.mono_l k
  ·intro y0 y1 y2 y3; unfold spec_DrawThenTurn.j0
   repeat' first
   | (with_reducible exact ih0 _ _ _ _)
   | (with_reducible exact spec_TurnBack.mono _ _)
   | (with_reducible exact spec_reader_pick.mono _ _ _ _)
   | (with_reducible exact spec_someTurns.mono _ _ _)
   | (with_reducible exact spec_validTurns.mono _ _)
   | (with_reducible exact LeO.refl _)
   | (with_reducible exact LeO.none _)
   | (with_reducible refine LeO.ite ?_ ?_)
   | (with_reducible refine LeO.bind ?_ (fun _ => ?_))
   | exact ih0 _ _ _ _
   | exact spec_TurnBack.mono _ _
   | exact spec_reader_pick.mono _ _ _ _
   | exact spec_someTurns.mono _ _ _
   | exact spec_validTurns.mono _ _
   | exact LeO.none _
   | refine LeO.ite ?_ ?_
   | refine LeO.bind ?_ (fun _ => ?_)
theorem spec_DrawThenTurn.mono : ∀ a0 k, LeO (spec_DrawThenTurn.f k a0) (spec_DrawThenTurn.f (k + 1) a0) := by
 intro a0 k; have ih0 := spec_DrawThenTurn.mono_l k; unfold spec_DrawThenTurn.f
 repeat' first
   | (with_reducible exact ih0 _ _ _ _)
   | (with_reducible exact spec_TurnBack.mono _ _)
   | (with_reducible exact spec_reader_pick.mono _ _ _ _)
   | (with_reducible exact spec_someTurns.mono _ _ _)
   | (with_reducible exact spec_validTurns.mono _ _)
   | (with_reducible exact LeO.refl _)
   | (with_reducible exact LeO.none _)
   | (with_reducible refine LeO.ite ?_ ?_)
   | (with_reducible refine LeO.bind ?_ (fun _ => ?_))
   | exact ih0 _ _ _ _
   | exact spec_TurnBack.mono _ _
   | exact spec_reader_pick.mono _ _ _ _
   | exact spec_someTurns.mono _ _ _
   | exact spec_validTurns.mono _ _
   | exact LeO.none _
   | refine LeO.ite ?_ ?_
   | refine LeO.bind ?_ (fun _ => ?_)
set_option maxHeartbeats 8000000 in
set_option maxRecDepth 100000 in
theorem spec_DrawThenTurn.calls (k : Nat) (A0 : Option Addr) (c0 : Nat) (l0 : List Int) (r1 : List (S107)) (r2 : List (S107)) (w : World) (hr0 : Kd.C (Kd.int .u8) w A0 l0.length l0) (hc0 : l0.length ≤ c0) (h : spec_DrawThenTurn.f k l0 = some (r1, r2)) :
  Calls Try.prog 40 #[.slice A0 l0.length c0] w fun e w' => ∃ v0_ v1_ : Value, e = .returned (.tuple #[v0_, v1_]) ∧ Kd.R k107 107 w' w.heap.size (fun k_ => some k_ ≠ (v1_ : Value).ownBlock) v0_ r1 ∧ Kd.R k107 107 w' w.heap.size (fun k_ => some k_ ≠ (v0_ : Value).ownBlock) v1_ r2 ∧ Below w.heap.size w w' := by
 have HR0 := Aside0.mk hr0; have HC0 := Aside0.mk hc0; clear hr0 hc0; have HB := Aside0.mk (Below.refl w.heap.size w); have H : ((spec_newReader.f l0).bind fun bt882 => ((spec_someTurns.f k bt882.1 bt882.2).bind fun bt885 => ((spec_reader_pick.f k bt882.1 bt885.2 4).bind fun bt889 => (if bt889.1 = 0 then ((spec_validTurns.f k bt885.1).bind fun t891 => (spec_DrawThenTurn.j0 k bt885.1 t891 bt882.1 bt889.2)) else (spec_DrawThenTurn.j0 k bt885.1 false bt882.1 bt889.2))))) = some (r1, r2) := h; clear h; replace H := Option.bind_eq_some_iff.mp H; obtain ⟨⟨t882, t883⟩, A20, H⟩ := H
 (try dsimp only at H)
 have A2 := Aside0.mk A20; clear A20; replace H := Option.bind_eq_some_iff.mp H; obtain ⟨⟨t885, t888⟩, A30, H⟩ := H
 (try dsimp only at H)
 have A3 := Aside0.mk A30; clear A30; have HC4 := Aside0.mk H; clear H; go_enter Try.func40, Try.ntmps40; go_upto_region 3 with (first | ((with_reducible refine gate_callee (f := 53) rfl ?_); refine goesL_ (some 7) rfl rfl Try.func53 (by kernel_rfl) rfl #[.slice A0 l0.length c0] rfl zl ?_; (with_reducible refine (spec_newReader.calls _ _ l0 t882 t883 w _ ?side1 ?side2 ?side3 A2.out).mono ?_); (case side1 => exact zB HB); (case side2 => exact HR0.out); (case side3 => exact HC0.out); rintro e w5 ⟨g884, rfl, hi, hb, hb2⟩; refine ⟨_, rfl, ?_⟩; replace HB := Aside0.mk (hb); have HI884 := Aside0.mk (hi); (try clear hb); (try clear hb2); (try clear hk); (try clear hi)) | ((with_reducible refine gate_callee (f := 89) rfl ?_); refine goesL_ (some 9) rfl rfl Try.func89 (by kernel_rfl) rfl #[.pointer (some ⟨g884, 0, none⟩)] rfl zl ?_; (with_reducible refine (spec_someTurns.calls k g884 t882 t883 t885 t888 w _ ?side1 ?side2 A3.out).mono ?_); (case side1 => exact zi129_86 HI884); (case side2 => exact zj129_86 HB); rintro e w6 ⟨v886, rfl, ho0, hi, hb, hk⟩; refine ⟨_, rfl, ?_⟩; have HO887 := Aside0.mk (Kd.R_lower ho0 (below_size (zj129_86 HB))); replace HB := Aside0.mk (hb); replace HI884 := Aside0.mk (hi); (try clear hb); (try clear hb2); (try clear hk); (try clear hi); (try clear ho0)))
 (try simp only [Act.put, List.setIfInBounds_toArray, List.set_cons_zero, List.set_cons_succ])
 go_cut [16] (fun v16 wc => ∃ (kq : Nat) (x16_3 : Bool) (x885001_3 : Int), v16 = .bool x16_3 ∧ Aside0 (spec_DrawThenTurn.j0 kq t885 x16_3 t882 x885001_3 = some (r1, r2)) ∧ Aside0 (kq ≤ k) ∧ Aside0 (Kd.R k107 107 wc w.heap.size (fun _ => True) v886 t885) ∧ Aside0 (IsS129 w wc g884 t882 x885001_3) ∧ Aside0 (Below w.heap.size w wc))
 case first =>
  have H := HC4.out; clear HC4; replace H := Option.bind_eq_some_iff.mp H; obtain ⟨⟨t889, t890⟩, A70, H⟩ := H
  (try dsimp only at H)
  have A7 := Aside0.mk A70; clear A70
  by_cases c8 : t889 = 0
  ·rw [if_pos c8] at H; have c8b0 : (t889 == 0) = true := beq_iff_eq.mpr c8; have c8b1 : (t889 != 0) = false := bne_eq_false_iff_eq.mpr c8; clear c8
   (first | rw [c8b0] | (simp only [i64_w, i32_w]; rw [c8b0]) | skip)
   replace H := Option.bind_eq_some_iff.mp H; obtain ⟨t891, A90, H⟩ := H
   (try dsimp only at H)
   have A9 := Aside0.mk A90; clear A90; have H' := Aside0.mk H; clear H; go_wp2_with (first | ((with_reducible refine gate_callee (f := 90) rfl ?_); refine goesL_ (some 11) rfl rfl Try.func90 (by kernel_rfl) rfl #[.pointer (some ⟨g884, 0, none⟩), .int .i64 4] rfl zl ?_; (with_reducible refine (spec_reader_pick.calls k g884 t882 t888 4 t889 t890 w _ ?side1 ?side2 A7.out).mono ?_); (case side1 => exact zi129_86 HI884); (case side2 => exact zj129_86 HB); rintro e w10 ⟨rfl, hi, hb, hk⟩; refine ⟨_, rfl, ?_⟩; replace HO887 := Aside0.mk (Kd.R_mono (Kd.R_keep (IsS129.apart (show IsS129 w _ g884 t882 t888 from zi129_86 HI884) (zo HO887) (by decide)) hk (fun _ h => h.2)) (fun _ h => h.1)); replace HB := Aside0.mk (hb); replace HI884 := Aside0.mk (hi); (try clear hb); (try clear hb2); (try clear hk); (try clear hi); obtain ⟨Ao11, co11, eo11⟩ := Kd.R_slice HO887.out; subst eo11) | (go_at_call 78; (with_reducible refine (spec_validTurns.calls k _ _ t885 t891 _ ?side1 ?side2 A9.out).mono ?_); (case side1 => repeat (first | exact (Kd.R_reads' HO887.out).2.2 | (with_reducible refine Kd.C_alloc ?_ _) | (with_reducible refine Kd.C_drewN ?_ _) | (with_reducible refine Kd.C_drew ?_))); (case side2 => exact (Kd.R_reads' HO887.out).2.1); rintro e w' ⟨rfl, ⟨nd, rfl⟩⟩)); go_meet
   case rel => exact ⟨_, (t891), (t890), zr, H', ⟨by first | omega | exact Nat.le_refl _⟩, ⟨zo HO887⟩, ⟨by repeat (first | (with_reducible first | exact HI884.out | apply IsS129.alloc | apply IsS129.drewN | apply IsS129.drew | apply IsS129.set_1) | exact HI884.out)⟩, ⟨zj129_86 HB⟩⟩
  ·rw [if_neg c8] at H; have c8b0 : (t889 == 0) = false := beq_eq_false_iff_ne.mpr c8; have c8b1 : (t889 != 0) = true := bne_iff_ne.mpr c8
   (first | rw [c8b0] | (simp only [i64_w, i32_w]; rw [c8b0]) | skip)
   have H' := Aside0.mk H; clear H; go_wp2_with (first | ((with_reducible refine gate_callee (f := 90) rfl ?_); refine goesL_ (some 11) rfl rfl Try.func90 (by kernel_rfl) rfl #[.pointer (some ⟨g884, 0, none⟩), .int .i64 4] rfl zl ?_; (with_reducible refine (spec_reader_pick.calls k g884 t882 t888 4 t889 t890 w _ ?side1 ?side2 A7.out).mono ?_); (case side1 => exact zi129_86 HI884); (case side2 => exact zj129_86 HB); rintro e w12 ⟨rfl, hi, hb, hk⟩; refine ⟨_, rfl, ?_⟩; replace HO887 := Aside0.mk (Kd.R_mono (Kd.R_keep (IsS129.apart (show IsS129 w _ g884 t882 t888 from zi129_86 HI884) (zo HO887) (by decide)) hk (fun _ h => h.2)) (fun _ h => h.1)); replace HB := Aside0.mk (hb); replace HI884 := Aside0.mk (hi); (try clear hb); (try clear hb2); (try clear hk); (try clear hi))); go_meet
   case rel => exact ⟨_, (false), (t890), zr, H', ⟨by first | omega | exact Nat.le_refl _⟩, ⟨zo HO887⟩, ⟨by repeat (first | (with_reducible first | exact HI884.out | apply IsS129.alloc | apply IsS129.drewN | apply IsS129.drew | apply IsS129.set_1) | exact HI884.out)⟩, ⟨zj129_86 HB⟩⟩
 case rest =>
  clear HC4; (try clear p2); (try clear c4); (try clear c5); (try clear c8); (try clear c8b0); (try clear c8b1); (try clear c9); obtain ⟨kq, x16_3, x885001_3, rfl, HA, HJ3, HO_5, HI884, HB⟩ := hcut
  cases kq with
  | zero => exact absurd HA.out (by simp [spec_DrawThenTurn.j0])
  | succ kj3 =>
   have H := HA.out; clear HA; simp only [spec_DrawThenTurn.j0] at H
   by_cases c13 : x16_3 = true
   ·subst c13; rw [if_pos rfl] at H; replace H := Option.bind_eq_some_iff.mp H; obtain ⟨t892, A140, H⟩ := H
    (try dsimp only at H)
    have A14 := Aside0.mk A140; clear A140; simp only [Option.some.injEq, Prod.mk.injEq] at H; obtain ⟨rfl, rfl⟩ := H; obtain ⟨Ao15, co15, eo15⟩ := Kd.R_slice HO_5.out; subst eo15; go_wp2_with (first | ((with_reducible refine gate_callee (f := 91) rfl ?_); refine goesL_ (some 19) rfl rfl Try.func91 (by kernel_rfl) rfl #[.slice Ao15 t885.length co15] rfl zl ?_; (with_reducible refine (spec_TurnBack.calls kj3 _ _ t885 t892 _ ?side1 ?side2 A14.out).mono ?_); (case side1 => repeat (first | exact (Kd.R_reads' HO_5.out).2.2 | (with_reducible refine Kd.C_alloc ?_ _) | (with_reducible refine Kd.C_drewN ?_ _) | (with_reducible refine Kd.C_drew ?_))); (case side2 => exact (Kd.R_reads' HO_5.out).2.1); rintro e w16 ⟨v893, rfl, ho0, hb⟩; refine ⟨_, rfl, ?_⟩; have HO894 := Aside0.mk (Kd.R_lower (Kd.R_new' ho0 (Kd.R_lt (zo HO_5))) (below_size (zj129_86 HB))); replace HO_5 := Aside0.mk (Kd.R_elder' (zo HO_5) (Kd.R_base ho0) hb); replace HB := Aside0.mk (below_step (zj129_86 HB) hb); replace HI884 := Aside0.mk (IsS129.below (zi129_86 HI884) hb); (try clear hb); (try clear hb2); (try clear hk); (try clear hi); (try clear ho0))); go_ret2; exact ⟨_, _, by first | rfl | (simp [errW_none, errW_some] <;> rfl) | (simp [*, errW_none, errW_some] <;> rfl), by (with_reducible repeat (first | apply Kd.R_alloc | apply Kd.R_drewN | apply Kd.R_drew)); exact Kd.R_mono HO_5.out (fun _ hk => hk.2), by (with_reducible repeat (first | apply Kd.R_alloc | apply Kd.R_drewN | apply Kd.R_drew)); exact Kd.R_mono HO894.out (fun _ hk => hk.2), by repeat (first | (with_reducible first | exact HB.out | apply below_alloc | apply pw_below_drewN | apply below_drew1 | refine below_set ?_ (IsS129.ge HI884.out)) | exact HB.out)⟩
   ·replace c13 := Bool.eq_false_iff.mpr c13; subst c13; rw [if_neg (show ¬ (false = true) by decide)] at H; replace H := Option.bind_eq_some_iff.mp H; obtain ⟨⟨t895, t898⟩, A170, H⟩ := H
    (try dsimp only at H)
    have A17 := Aside0.mk A170; clear A170; simp only [Option.some.injEq, Prod.mk.injEq] at H; obtain ⟨rfl, rfl⟩ := H; go_wp2_with (first | ((with_reducible refine gate_callee (f := 89) rfl ?_); refine goesL_ (some 22) rfl rfl Try.func89 (by kernel_rfl) rfl #[.pointer (some ⟨g884, 0, none⟩)] rfl zl ?_; (with_reducible refine (spec_someTurns.calls kj3 g884 t882 x885001_3 t895 t898 w _ ?side1 ?side2 A17.out).mono ?_); (case side1 => exact zi129_86 HI884); (case side2 => exact zj129_86 HB); rintro e w18 ⟨v896, rfl, ho0, hi, hb, hk⟩; refine ⟨_, rfl, ?_⟩; have HO897 := Aside0.mk (Kd.R_lower (Kd.R_new' ho0 (Kd.R_lt (zo HO_5))) (below_size (zj129_86 HB))); replace HO_5 := Aside0.mk (Kd.R_mono (Kd.R_told (Kd.R_oldK (IsS129.apart (show IsS129 w _ g884 t882 x885001_3 from zi129_86 HI884) (zo HO_5) (by decide)) hk) (Kd.R_base ho0)) (fun _ h_ => h_.1)); replace HB := Aside0.mk (hb); replace HI884 := Aside0.mk (hi); (try clear hb); (try clear hb2); (try clear hk); (try clear hi); (try clear ho0))); go_ret2; exact ⟨_, _, by first | rfl | (simp [errW_none, errW_some] <;> rfl) | (simp [*, errW_none, errW_some] <;> rfl), by (with_reducible repeat (first | apply Kd.R_alloc | apply Kd.R_drewN | apply Kd.R_drew)); exact Kd.R_mono HO_5.out (fun _ hk => hk.2), by (with_reducible repeat (first | apply Kd.R_alloc | apply Kd.R_drewN | apply Kd.R_drew)); exact Kd.R_mono HO897.out (fun _ hk => hk.2), by repeat (first | (with_reducible first | exact HB.out | apply below_alloc | apply pw_below_drewN | apply below_drew1 | refine below_set ?_ (IsS129.ge HI884.out)) | exact HB.out)⟩

end Go.Proofs.Ytfcpbgedgedalaa.Q

namespace Go.Proofs.Ytfcpbgedgedalaa.Q
open Go.RowKit Go.Proofs.YtfcpbgedgedalaaL.PrintWords Go.Proofs.YtfcpbgedgedalaaL.PrintLast Go.Proofs.YtfcpbgedgedalaaL.PrintMore
attribute [local go_sem] max2_int min2_int max_two min_two max_three min_three max_four min_four   -- for this text's walks alone
set_option linter.unusedVariables false
set_option linter.unusedSimpArgs false

theorem eqA107 (d : Nat) (w : World) (x0 y0 : ByteArray) (x1 y1 : ByteArray) :
  (Op.equalIn (d + 2) 107 (.agg #[.string x0, .string x1]) (.agg #[.string y0, .string y1])).run Try.prog w = .ok (x0.toList == y0.toList && (x1.toList == y1.toList)) w := by
 refine eqA_of Try.underlying107 (by kernel_rfl) ?_; refine eqf_cons (by rfl) (by go_simp; rfl) (by go_simp; rfl) (by go_simp) ?_; exact eqf_last (by rfl) (by go_simp; rfl) (by go_simp; rfl) (by go_simp)
end Go.Proofs.Ytfcpbgedgedalaa.Q

namespace Go.Proofs.Ytfcpbgedgedalaa.Q
open Go.RowKit Go.Proofs.YtfcpbgedgedalaaL.PrintWords Go.Proofs.YtfcpbgedgedalaaL.PrintLast Go.Proofs.YtfcpbgedgedalaaL.PrintMore
attribute [local go_sem] max2_int min2_int max_two min_two max_three min_three max_four min_four   -- for this text's walks alone
set_option linter.unusedVariables false
set_option linter.unusedSimpArgs false

attribute [local go_sem high] eqA107
/-! ### laws_equalTurns: function 41 -/
def laws_equalTurns.l0 : Nat → List (S107) → List (S107) → Int → Option (Bool)
 | 0, _, _, _ => none
 | k + 1, x0, x1, x5 => if x5 < (x0.length : Int) then (if 0 ≤ x5 then (if x5 < (x1.length : Int) then (if (!((((rd_T107 x0 x5).f0).toList) == (((rd_T107 x1 x5).f0).toList)) || (!((((rd_T107 x0 x5).f1).toList) == (((rd_T107 x1 x5).f1).toList)))) = true then (some false) else (laws_equalTurns.l0 k x0 x1 (wrap64 (x5 + 1)))) else (none)) else (none)) else (some true)
def laws_equalTurns.f (k : Nat) (l0 : List (S107)) (l1 : List (S107)) : Option (Bool) := if (l0.length : Int) = (l1.length : Int) then (laws_equalTurns.l0 k l0 l1 0) else (some false)
theorem laws_equalTurns.mono_l : ∀ k, (∀ y0 y1 y2, LeO (laws_equalTurns.l0 k y0 y1 y2) (laws_equalTurns.l0 (k + 1) y0 y1 y2))
 | 0 => fun _ _ _ r h => by simp [laws_equalTurns.l0] at h
 | k + 1 => by
  have ih0 := laws_equalTurns.mono_l k
  ·intro y0 y1 y2; unfold laws_equalTurns.l0
   repeat' first
   | (with_reducible exact ih0 _ _ _)
   | (with_reducible exact LeO.refl _)
   | (with_reducible exact LeO.none _)
   | (with_reducible refine LeO.ite ?_ ?_)
   | (with_reducible refine LeO.bind ?_ (fun _ => ?_))
   | exact ih0 _ _ _
   | exact LeO.none _
   | refine LeO.ite ?_ ?_
   | refine LeO.bind ?_ (fun _ => ?_)
theorem laws_equalTurns.mono : ∀ a0 a1 k, LeO (laws_equalTurns.f k a0 a1) (laws_equalTurns.f (k + 1) a0 a1) := by
 intro a0 a1 k; have ih0 := laws_equalTurns.mono_l k; unfold laws_equalTurns.f
 repeat' first
   | (with_reducible exact ih0 _ _ _)
   | (with_reducible exact LeO.refl _)
   | (with_reducible exact LeO.none _)
   | (with_reducible refine LeO.ite ?_ ?_)
   | (with_reducible refine LeO.bind ?_ (fun _ => ?_))
   | exact ih0 _ _ _
   | exact LeO.none _
   | refine LeO.ite ?_ ?_
   | refine LeO.bind ?_ (fun _ => ?_)
set_option maxHeartbeats 8000000 in
set_option maxRecDepth 100000 in
theorem laws_equalTurns.calls (k : Nat) (A0 : Option Addr) (c0 : Nat) (l0 : List (S107)) (A1 : Option Addr) (c1 : Nat) (l1 : List (S107)) (r : Bool) (w : World) (hr0 : Kd.C k107 w A0 l0.length l0) (hc0 : l0.length ≤ c0) (hr1 : Kd.C k107 w A1 l1.length l1) (hc1 : l1.length ≤ c1) (h : laws_equalTurns.f k l0 l1 = some r) :
  Calls Try.prog 41 #[.slice A0 l0.length c0, .slice A1 l1.length c1] w fun e w' => e = .returned (.bool r) ∧ Drawn0 w w' := by
 have hu107 := Try.underlying107; have HR0 := Aside0.mk hr0; have HC0 := Aside0.mk hc0; clear hr0 hc0; have HR1 := Aside0.mk hr1; have HC1 := Aside0.mk hc1; clear hr1 hc1; have H : (if (l0.length : Int) = (l1.length : Int) then (laws_equalTurns.l0 k l0 l1 0) else (some false)) = some r := h; clear h
 by_cases c3 : (l0.length : Int) = (l1.length : Int)
 ·rw [if_pos c3] at H; have c3b0 : ((l0.length : Int) == (l1.length : Int)) = true := beq_iff_eq.mpr c3; have c3b1 : ((l0.length : Int) != (l1.length : Int)) = false := bne_eq_false_iff_eq.mpr c3; have c3b2 : (l0.length == l1.length) = true := by first | simpa using c3 | (simp at c3 ⊢; omega)
  clear c3; have H' := Aside0.mk H; clear H; go_enter Try.func41, Try.ntmps41; go_wp2
  repeat (go_quiet (fail); try go_wp2)
  go_loopg [5] k (fun kq v5 w' => ∃ (x5_1 : Int), v5 = .int .i64 x5_1 ∧ Aside0 (laws_equalTurns.l0 kq l0 l1 x5_1 = some r) ∧ Aside0 (kq ≤ k) ∧ Drawn0 w w')
  case atStart => exact ⟨(0), zr, H', ⟨Nat.le_refl _⟩, by repeat (first | exact Drawn0.refl _ | apply Drawn0.step)⟩
  case round =>
   clear H'; (try clear c1); (try clear p2); (try clear c3); (try clear c3b0); (try clear c3b1); (try clear c3b2); obtain ⟨x5_1, rfl, HA, HK1, ⟨m1, rfl⟩⟩ := hrel
   cases gk with
   | zero => exact absurd HA.out (by simp [laws_equalTurns.l0])
   | succ k1 =>
    have H := HA.out; clear HA; simp only [laws_equalTurns.l0] at H
    by_cases c4 : x5_1 < (l0.length : Int)
    ·rw [if_pos c4] at H; have c4b0 : decide (x5_1 < (l0.length : Int)) = true := decide_eq_true c4; clear c4
     by_cases c5 : 0 ≤ x5_1
     ·rw [if_pos c5] at H; have c5b0 : decide (0 ≤ x5_1) = true := decide_eq_true c5; clear c5
      by_cases c6 : x5_1 < (l1.length : Int)
      ·rw [if_pos c6] at H; have c6b0 : decide (x5_1 < (l1.length : Int)) = true := decide_eq_true c6; clear c6
       by_cases c7 : (!((((rd_T107 l0 x5_1).f0).toList) == (((rd_T107 l1 x5_1).f0).toList)) || (!((((rd_T107 l0 x5_1).f1).toList) == (((rd_T107 l1 x5_1).f1).toList)))) = true
       ·rw [if_pos c7] at H; have c7b0 : (!((((rd_T107 l0 x5_1).f0).toList) == (((rd_T107 l1 x5_1).f0).toList)) || (!((((rd_T107 l0 x5_1).f1).toList) == (((rd_T107 l1 x5_1).f1).toList)))) = true := c7; clear c7; obtain rfl := Option.some.inj H; have p899 : 0 ≤ (x5_1 : Int) := of_decide_eq_true za; have q899 : x5_1 < (l0.length : Int) := of_decide_eq_true za; obtain ⟨ad899, e899, hx899_0, hx899_1⟩ := at_T107 HR0.out x5_1 p899 q899
        cases e899
        replace p899 := eq_true p899; replace q899 := eq_true q899; have p900 : 0 ≤ (x5_1 : Int) := of_decide_eq_true za; have q900 : x5_1 < (l1.length : Int) := of_decide_eq_true za; obtain ⟨ad900, e900, hx900_0, hx900_1⟩ := at_T107 HR1.out x5_1 p900 q900
        cases e900
        replace p900 := eq_true p900; replace q900 := eq_true q900; go_wp2
        repeat (go_quiet (fail); try go_wp2)
        go_ret; exact ⟨by first | rfl | (simp; done) | (simp [*]; done), by repeat (first | exact Drawn0.refl _ | apply Drawn0.step)⟩
       ·rw [if_neg c7] at H; have c7b0 : (!((((rd_T107 l0 x5_1).f0).toList) == (((rd_T107 l1 x5_1).f0).toList)) || (!((((rd_T107 l0 x5_1).f1).toList) == (((rd_T107 l1 x5_1).f1).toList)))) = false := by simpa using c7
        clear c7; have H' := Aside0.mk H; clear H; have p899 : 0 ≤ (x5_1 : Int) := of_decide_eq_true za; have q899 : x5_1 < (l0.length : Int) := of_decide_eq_true za; obtain ⟨ad899, e899, hx899_0, hx899_1⟩ := at_T107 HR0.out x5_1 p899 q899
        cases e899
        replace p899 := eq_true p899; replace q899 := eq_true q899; have p900 : 0 ≤ (x5_1 : Int) := of_decide_eq_true za; have q900 : x5_1 < (l1.length : Int) := of_decide_eq_true za; obtain ⟨ad900, e900, hx900_0, hx900_1⟩ := at_T107 HR1.out x5_1 p900 q900
        cases e900
        replace p900 := eq_true p900; replace q900 := eq_true q900; go_wp2
        repeat (go_quiet (fail); try go_wp2)
        go_roundg k1
        case measure => have := HK1.out; omega
        case rel => exact ⟨(wrap64 (x5_1 + 1)), zr, H', ⟨by have := HK1.out; omega⟩, by repeat (first | exact Drawn0.refl _ | apply Drawn0.step)⟩
      ·rw [if_neg c6] at H; exact absurd H (by simp)
     ·rw [if_neg c5] at H; exact absurd H (by simp)
    ·rw [if_neg c4] at H; have c4b0 : decide (x5_1 < (l0.length : Int)) = false := decide_eq_false c4; clear c4; obtain rfl := Option.some.inj H; go_wp2
     repeat (go_quiet (fail); try go_wp2)
     go_ret; exact ⟨by first | rfl | (simp; done) | (simp [*]; done), by repeat (first | exact Drawn0.refl _ | apply Drawn0.step)⟩
 ·rw [if_neg c3] at H; have c3b0 : ((l0.length : Int) == (l1.length : Int)) = false := beq_eq_false_iff_ne.mpr c3; have c3b1 : ((l0.length : Int) != (l1.length : Int)) = true := bne_iff_ne.mpr c3; have c3b2 : (l0.length == l1.length) = false := by first | simpa using c3 | (simp at c3 ⊢; omega)
  obtain rfl := Option.some.inj H; go_enter Try.func41, Try.ntmps41; go_wp2
  repeat (go_quiet (fail); try go_wp2)
  go_ret; exact ⟨by first | rfl | (simp; done) | (simp [*]; done), by repeat (first | exact Drawn0.refl _ | apply Drawn0.step)⟩

end Go.Proofs.Ytfcpbgedgedalaa.Q

namespace Go.Proofs.Ytfcpbgedgedalaa.Q
open Go.RowKit Go.Proofs.YtfcpbgedgedalaaL.PrintWords Go.Proofs.YtfcpbgedgedalaaL.PrintLast Go.Proofs.YtfcpbgedgedalaaL.PrintMore
attribute [local go_sem] max2_int min2_int max_two min_two max_three min_three max_four min_four   -- for this text's walks alone
set_option linter.unusedVariables false
set_option linter.unusedSimpArgs false

/-! ### impl_TurnBack: function 42 -/
def impl_TurnBack.l0 : Nat → List (S107) → List (S107) → Int → Int → Option ((List (S107)))
 | 0, _, _, _, _ => none
 | k + 1, x3, x12, x13, x14 => if x14 < x13 then (if 0 ≤ x14 then (if x14 < (x12.length : Int) then (if x14 < (x3.length : Int) then (impl_TurnBack.l0 k (x3.set (x14 : Int).toNat (⟨(rd_T107 x12 x14).f1, (rd_T107 x12 x14).f0⟩ : S107)) x12 x13 (wrap64 (x14 + 1))) else (none)) else (none)) else (none)) else (some x3)
def impl_TurnBack.f (k : Nat) (l0 : List (S107)) : Option ((List (S107))) := (impl_ValidTurns.f l0).bind fun t901 => (if t901 = true then (if 0 ≤ (l0.length : Int) then (if ((l0.length : Int) : Int).toNat ≤ 8796093022208 then (impl_TurnBack.l0 k (List.replicate ((l0.length : Int) : Int).toNat z107) l0 (l0.length : Int) 0) else (none)) else (none)) else (some ([] : List (S107))))
theorem impl_TurnBack.mono_l : ∀ k, (∀ y0 y1 y2 y3, LeO (impl_TurnBack.l0 k y0 y1 y2 y3) (impl_TurnBack.l0 (k + 1) y0 y1 y2 y3))
 | 0 => fun _ _ _ _ r h => by simp [impl_TurnBack.l0] at h
 | k + 1 => by
  have ih0 := impl_TurnBack.mono_l k
  ·intro y0 y1 y2 y3; unfold impl_TurnBack.l0
   repeat' first
   | (with_reducible exact ih0 _ _ _ _)
   | (with_reducible exact LeO.refl _)
   | (with_reducible exact LeO.none _)
   | (with_reducible refine LeO.ite ?_ ?_)
   | (with_reducible refine LeO.bind ?_ (fun _ => ?_))
   | exact ih0 _ _ _ _
   | exact LeO.none _
   | refine LeO.ite ?_ ?_
   | refine LeO.bind ?_ (fun _ => ?_)
theorem impl_TurnBack.mono : ∀ a0 k, LeO (impl_TurnBack.f k a0) (impl_TurnBack.f (k + 1) a0) := by
 intro a0 k; have ih0 := impl_TurnBack.mono_l k; unfold impl_TurnBack.f
 repeat' first
   | (with_reducible exact ih0 _ _ _ _)
   | (with_reducible exact LeO.refl _)
   | (with_reducible exact LeO.none _)
   | (with_reducible refine LeO.ite ?_ ?_)
   | (with_reducible refine LeO.bind ?_ (fun _ => ?_))
   | exact ih0 _ _ _ _
   | exact LeO.none _
   | refine LeO.ite ?_ ?_
   | refine LeO.bind ?_ (fun _ => ?_)
set_option maxHeartbeats 8000000 in
set_option maxRecDepth 100000 in
theorem impl_TurnBack.calls (k : Nat) (A0 : Option Addr) (c0 : Nat) (l0 : List (S107)) (r : List (S107)) (w : World) (hr0 : Kd.C k107 w A0 l0.length l0) (hc0 : l0.length ≤ c0) (h : impl_TurnBack.f k l0 = some r) :
  Calls Try.prog 42 #[.slice A0 l0.length c0] w fun e w' => ∃ v0_ : Value, e = .returned (v0_) ∧ Kd.R k107 107 w' w.heap.size (fun _ => True) v0_ r ∧ Below w.heap.size w w' := by
 have hu107 := Try.underlying107; have HR0 := Aside0.mk hr0; have HC0 := Aside0.mk hc0; clear hr0 hc0; have HB := Aside0.mk (Below.refl w.heap.size w); have H : ((impl_ValidTurns.f l0).bind fun t901 => (if t901 = true then (if 0 ≤ (l0.length : Int) then (if ((l0.length : Int) : Int).toNat ≤ 8796093022208 then (impl_TurnBack.l0 k (List.replicate ((l0.length : Int) : Int).toNat z107) l0 (l0.length : Int) 0) else (none)) else (none)) else (some ([] : List (S107))))) = some r := h; clear h; replace H := Option.bind_eq_some_iff.mp H; obtain ⟨t901, A20, H⟩ := H
 (try dsimp only at H)
 have A2 := Aside0.mk A20; clear A20
 by_cases c3 : t901 = true
 ·subst c3; rw [if_pos rfl] at H
  by_cases c4 : 0 ≤ (l0.length : Int)
  ·rw [if_pos c4] at H; have c4b0 := eq_true c4; have c4b1 : decide (0 ≤ (l0.length : Int)) = true := decide_eq_true c4; clear c4
   by_cases c5 : ((l0.length : Int) : Int).toNat ≤ 8796093022208
   ·rw [if_pos c5] at H; have c5b0 := eq_true c5; have c5b1 : decide (((l0.length : Int) : Int).toNat ≤ 8796093022208) = true := decide_eq_true c5; clear c5; obtain ⟨y902, hy902⟩ : ∃ y_ : List (S107), y_ = (List.replicate ((l0.length : Int) : Int).toNat z107) := ⟨_, rfl⟩
    replace H : (impl_TurnBack.l0 k y902 l0 (l0.length : Int) 0) = some r := by first | (rw [hy902]; with_reducible exact H) | (have H2_ := (Option.bind_some _ _).symm.trans H; rw [hy902]; with_reducible exact H2_) | (have H2_ := (Option.bind_some _ _).symm.trans H; with_reducible exact H2_) | with_reducible exact H | (rw [hy902]; exact H) | exact H
    have Ny902 := Aside0.mk hy902; clear hy902; have H' := Aside0.mk H; clear H; go_enter Try.func42, Try.ntmps42; go_wp2_with (first | ((with_reducible refine gate_callee (f := 46) rfl ?_); refine goesL_ (some 7) rfl rfl Try.func46 (by kernel_rfl) rfl #[.slice A0 l0.length c0] rfl zl ?_; (with_reducible refine (impl_ValidTurns.calls _ _ l0 true _ ?side1 ?side2 A2.out).mono ?_); (case side1 => repeat (first | exact HR0.out | (with_reducible refine Kd.C_alloc ?_ _) | (with_reducible refine Kd.C_drewN ?_ _) | (with_reducible refine Kd.C_drew ?_))); (case side2 => exact HC0.out); rintro e w6 ⟨rfl, hb⟩; refine ⟨_, rfl, ?_⟩; replace HB := Aside0.mk (below_step (zB HB) hb); (try clear hb); (try clear hb2); (try clear hk); (try clear hi)) | ((with_reducible refine gate_dst (N := 11) rfl ?_); refine Kd.R_make k107 _ 107 rfl (N := 11) rfl 55 _ _ rfl (l0.length : Int) rfl rfl Try.underlying55 (.agg #[(.string ⟨#[]⟩), (.string ⟨#[]⟩)]) 32 info107 rfl (by decide) (by omega) z107 (ok := fun _ => True) (okp := fun _ => True) (k107_mkM _ _ _ z107 ) (fun _ hk => hk) trivial (of_decide_eq_true za) (Nat.le_trans (Nat.mul_le_mul_right _ (of_decide_eq_true za : (l0.length : Int).toNat ≤ 8796093022208)) (by omega)) (Below.refl _ _) (Nat.le_refl _) ?_; intro v903 w7 ho8 hb hg_ hnew_; clear hg_ hnew_; (first | rw [← Ny902.out] at ho8 | (simp only [Int.reduceToNat] at ho8; rw [← Ny902.out] at ho8)); have HO904 := Aside0.mk (Kd.R_lower ho8 (below_size (zB HB))); replace HB := Aside0.mk (below_step (zB HB) hb); clear hb ho8)); go_loopg [14] k (fun kq v14 w' => ∃ (x3_1 : List (S107)) (x14_1 : Int), v14 = .int .i64 x14_1 ∧ Aside0 (impl_TurnBack.l0 kq x3_1 l0 (l0.length : Int) x14_1 = some r) ∧ Aside0 (kq ≤ k) ∧ Aside0 (Kd.R k107 107 w' w.heap.size (fun _ => True) v903 x3_1) ∧ Aside0 (Below w.heap.size w w'))
    case atStart => exact ⟨(y902), (0), zr, H', ⟨Nat.le_refl _⟩, ⟨zo HO904⟩, ⟨zB HB⟩⟩
    case round =>
     clear H'; (try clear p2); (try clear c3); (try clear c4); (try clear c4b0); (try clear c4b1); (try clear c5); (try clear c5b0); (try clear c5b1); obtain ⟨x3_1, x14_1, rfl, HA, HK1, HO_3, HB⟩ := hrel
     cases gk with
     | zero => exact absurd HA.out (by simp [impl_TurnBack.l0])
     | succ k1 =>
      have H := HA.out; clear HA; simp only [impl_TurnBack.l0] at H
      by_cases c9 : x14_1 < (l0.length : Int)
      ·rw [if_pos c9] at H; have c9b0 : decide (x14_1 < (l0.length : Int)) = true := decide_eq_true c9; clear c9
       by_cases c10 : 0 ≤ x14_1
       ·rw [if_pos c10] at H; have c10b0 : decide (0 ≤ x14_1) = true := decide_eq_true c10; clear c10
        by_cases c11 : x14_1 < (l0.length : Int)
        ·rw [if_pos c11] at H; have c11b0 : decide (x14_1 < (l0.length : Int)) = true := decide_eq_true c11; clear c11
         by_cases c12 : x14_1 < (x3_1.length : Int)
         ·rw [if_pos c12] at H; have c12b0 : decide (x14_1 < (x3_1.length : Int)) = true := decide_eq_true c12; clear c12; obtain ⟨y907, hy907⟩ : ∃ y_ : List (S107), y_ = (x3_1.set (x14_1 : Int).toNat (⟨(rd_T107 l0 x14_1).f1, (rd_T107 l0 x14_1).f0⟩ : S107)) := ⟨_, rfl⟩
          replace H : (impl_TurnBack.l0 k1 y907 l0 (l0.length : Int) (wrap64 (x14_1 + 1))) = some r := by first | (rw [hy907]; with_reducible exact H) | (have H2_ := (Option.bind_some _ _).symm.trans H; rw [hy907]; with_reducible exact H2_) | (have H2_ := (Option.bind_some _ _).symm.trans H; with_reducible exact H2_) | with_reducible exact H | (rw [hy907]; exact H) | exact H
          have Ny907 := Aside0.mk hy907; clear hy907; have H' := Aside0.mk H; clear H; have p905 : 0 ≤ (x14_1 : Int) := of_decide_eq_true za; have q905 : x14_1 < (l0.length : Int) := of_decide_eq_true za; obtain ⟨ad905, e905, hx905_0, hx905_1⟩ := at_T107 HR0.out x14_1 p905 q905
          cases e905
          replace hx905_0 := (HB.out.cell (World.block_lt_of_cell? w _ hx905_0)).trans hx905_0; replace hx905_1 := (HB.out.cell (World.block_lt_of_cell? w _ hx905_1)).trans hx905_1; replace p905 := eq_true p905; replace q905 := eq_true q905; go_wp2_with (first | ((with_reducible refine gate_dst (N := 5) rfl ?_); refine zx (N := 5) (cs := #[.string (⟨#[]⟩ : ByteArray), .string (⟨#[]⟩ : ByteArray)]) (t := 107) ?_; intro gb906 hg w14 hbox hb; replace HO_3 := Aside0.mk (Kd.R_below (Kd.R_elderB (zo HO_3) gb906 (Nat.le_of_eq hg.symm)) hb); have BK906 := Aside0.mk (hbox); have GW906 := Aside0.mk ((by rw [hg]; exact (below_size (zB HB)) : w.heap.size ≤ gb906)); have GE906 := GW906; replace HB := Aside0.mk (below_step (zB HB) hb); clear hb hbox hg; have hcz15_0 : w14.cell? ⟨gb906, 0, none⟩ = some (.string (⟨#[]⟩ : ByteArray)) := (blk_cell BK906.out 0).trans rfl; have hcz15_1 : w14.cell? ⟨gb906, 1, none⟩ = some (.string (⟨#[]⟩ : ByteArray)) := (blk_cell BK906.out 1).trans rfl; have hfz15_0 := blk_frozen BK906.out 0; have hfz15_1 := blk_frozen BK906.out 1) | ((with_reducible refine gate_store (t := 107) (p := 5) rfl ?_); refine store_event (t := 107) (p := 5) (v := ?vo_w16) (w1 := ((w14.setCell ⟨gb906, 0, none⟩ (.string ((rd_T107 l0 x14_1).f0))).setCell ⟨gb906, 1, none⟩ (.string ((rd_T107 l0 x14_1).f1)))) ?hg ?ho ?hn ?hr ?_; (case ho => rfl); (case hg => rfl); (case hn => rfl); (case hr => first | (go_simp; done) | (go_simp; rfl)); intro w16 hw; have n0_ : Aside0 (Kd.R k107 107 w16 w.heap.size (fun k_ => k_ ≠ gb906) v903 x3_1) := ⟨(by rw [hw]; exact (by (with_reducible repeat (first | apply Kd.R_alloc | apply Kd.R_drewN | apply Kd.R_drew)); exact Kd.R_mono (Kd.R_far (p := ⟨gb906, 1, none⟩) (Kd.R_far (p := ⟨gb906, 0, none⟩) (Kd.R_mono HO_3.out (fun k_ hk => (⟨hk, hk.2⟩ : _ ∧ k_ ≠ gb906))) (fun _ hk => hk.2) (.string ((rd_T107 l0 x14_1).f0))) (fun _ hk => hk.2) (.string ((rd_T107 l0 x14_1).f1))) (fun _ hk => hk.1.2)))⟩; have n1_ : Aside0 (w16.heap[gb906]? = some (.cells #[.string ((rd_T107 l0 x14_1).f0), .string ((rd_T107 l0 x14_1).f1)] 107 (0, 0))) := ⟨(by rw [hw]; exact (by (with_reducible repeat (first | refine blk_drewN ?_ _ | refine blk_drew ?_ | refine blk_alloc ?_ _)); refine blk_put (cs := #[.string ((rd_T107 l0 x14_1).f0), .string (⟨#[]⟩ : ByteArray)]) ?_ 1 _ rfl; (with_reducible repeat (first | refine blk_drewN ?_ _ | refine blk_drew ?_ | refine blk_alloc ?_ _)); refine blk_put (cs := #[.string (⟨#[]⟩ : ByteArray), .string (⟨#[]⟩ : ByteArray)]) ?_ 0 _ rfl; (with_reducible repeat (first | refine blk_drewN ?_ _ | refine blk_drew ?_ | refine blk_alloc ?_ _)); exact BK906.out))⟩; have n2_ : Aside0 (Below w.heap.size w w16) := ⟨(by rw [hw]; exact (zB HB))⟩; clear hw; clear HO_3; clear BK906; clear HB; have HO_3 := n0_; have BK906 := n1_; have HB := n2_; clear n0_ n1_ n2_; have hcz17_0 : w16.cell? ⟨gb906, 0, none⟩ = some (.string ((rd_T107 l0 x14_1).f0)) := (blk_cell BK906.out 0).trans rfl; have hcz17_1 : w16.cell? ⟨gb906, 1, none⟩ = some (.string ((rd_T107 l0 x14_1).f1)) := (blk_cell BK906.out 1).trans rfl; have hfz17_0 := blk_frozen BK906.out 0; have hfz17_1 := blk_frozen BK906.out 1; have p13 : 0 ≤ (x14_1 : Int) := of_decide_eq_true za; have q13 : (x14_1 : Int) < ((x3_1.length : Int) : Int) := of_decide_eq_true za; obtain ⟨go13, co13, eo13, gb13, gl13, cl13, HG13⟩ := Kd.R_form HO_3.out (by omega); (first | cases eo13 | (injection eo13 with ea_ en_ ec_; (first | subst ea_ | (injection ea_ with ea_; subst ea_)); subst ec_; clear en_)); have GB13 := Aside0.mk gb13; have GG13 := Aside0.mk HG13; clear gb13 gl13 HG13; obtain ⟨ce13, hcl13, hM13, hcc13, hfr13⟩ := Kd.R_elem HO_3.out z107 (x14_1 : Int) p13 q13; obtain rfl := k107_openM hM13; have hx13_0 : w16.cell? ⟨go13, (x14_1 : Int).toNat * 2, none⟩ = some (.string ((rd_T107 x3_1 x14_1).f0)) := hcc13 0 _ rfl; have hx13_1 : w16.cell? ⟨go13, (x14_1 : Int).toNat * 2 + 1, none⟩ = some (.string ((rd_T107 x3_1 x14_1).f1)) := hcc13 1 _ rfl; have hf13_0 : w16.frozen? ⟨go13, (x14_1 : Int).toNat * 2, none⟩ = false := hfr13 0; have hf13_1 : w16.frozen? ⟨go13, (x14_1 : Int).toNat * 2 + 1, none⟩ = false := hfr13 1; clear hcl13 hcc13 hfr13 hM13; replace p13 := eq_true p13; replace q13 := eq_true q13; have HX18 := Aside0.mk (show Kd.R k107 107 w16 w.heap.size (fun k_ => k_ ≠ gb906) (.slice (some ⟨go13, 0, none⟩) x3_1.length co13) x3_1 from (zo HO_3)); obtain ⟨ce18, hcl18, hM18, hcc18, hfr18⟩ := Kd.R_elem HX18.out z107 (x14_1 : Int) (of_decide_eq_true za) (by have h_ : (x14_1 : Int) < ((x3_1.length : Int) : Int) := of_decide_eq_true za; first | exact h_ | (have e_ := (Kd.R_reads' HO_3.out).1; omega) | simpa using h_); obtain rfl := k107_openM hM18; have HP18 := Kd.R_seg HX18.out (x14_1 : Int) (of_decide_eq_true za) (by have h_ : (x14_1 : Int) < ((x3_1.length : Int) : Int) := of_decide_eq_true za; first | exact h_ | (have e_ := (Kd.R_reads' HO_3.out).1; omega) | simpa using h_) (seg := [.string ((rd_T107 l0 x14_1).f1), .string ((rd_T107 l0 x14_1).f0)]) (j := 0) hcl18 hcc18 (show 2 ≤ 2 from by decide) (x' := (⟨(rd_T107 l0 x14_1).f1, (rd_T107 l0 x14_1).f0⟩ : S107)) (k107_mkM _ _ _ (⟨(rd_T107 l0 x14_1).f1, (rd_T107 l0 x14_1).f0⟩ : S107) ) (fun _ hk => hk); have hx18_0 := hcc18 0 _ rfl; (try simp only [show (k107).sz = 2 from rfl, Nat.mul_one, Nat.add_zero] at hx18_0); have hf18_0 := hfr18 0; (try simp only [show (k107).sz = 2 from rfl, Nat.mul_one, Nat.add_zero] at hf18_0); have hx18_1 := hcc18 1 _ rfl; (try simp only [show (k107).sz = 2 from rfl, Nat.mul_one, Nat.add_zero] at hx18_1); have hf18_1 := hfr18 1; (try simp only [show (k107).sz = 2 from rfl, Nat.mul_one, Nat.add_zero] at hf18_1); clear hcl18 hcc18 hfr18 hM18) | ((with_reducible refine gate_store (t := 107) (p := 26) rfl ?_); refine store_event (t := 107) (p := 26) (v := ?vo_w19) (w1 := ((w16.setCell ⟨go13, (x14_1 : Int).toNat * 2, none⟩ (.string ((rd_T107 l0 x14_1).f1))).setCell ⟨go13, (x14_1 : Int).toNat * 2 + 1, none⟩ (.string ((rd_T107 l0 x14_1).f0)))) ?hg ?ho ?hn ?hr ?_; (case ho => rfl); (case hg => rfl); (case hn => rfl); (case hr => first | (go_simp; done) | (go_simp; rfl)); intro w19 hw; have hg : w16.grownBy w19 (some go13) := (by rw [hw]; exact HP18.2); have hp_ : Kd.R k107 107 w19 w.heap.size (fun k_ => k_ ≠ gb906) (.slice (some ⟨go13, 0, none⟩) x3_1.length co13) y907 := (by rw [hw, Ny907.out]; exact HP18.1); clear HP18; replace BK906 := Aside0.mk (blk_grown (g := gb906) (o := .cells #[.string ((rd_T107 l0 x14_1).f0), .string ((rd_T107 l0 x14_1).f1)] 107 (0, 0)) (zb BK906) hg (Kd.R_away HO_3.out (fun _ hk => hk))); replace HO_3 := Aside0.mk (hp_); replace HB := Aside0.mk ((by rw [hw]; exact below_set (below_set (HB.out) GB13.out) GB13.out : Below w.heap.size w w19)); clear hg hw hp_)); go_roundg k1
          case measure => have := HK1.out; omega
          case rel => exact ⟨(y907), (wrap64 (x14_1 + 1)), zr, H', ⟨by have := HK1.out; omega⟩, ⟨by (with_reducible repeat (first | apply Kd.R_alloc | apply Kd.R_drewN | apply Kd.R_drew)); exact Kd.R_mono HO_3.out (fun _ hk => trivial)⟩, ⟨zB HB⟩⟩
         ·rw [if_neg c12] at H; exact absurd H (by simp)
        ·rw [if_neg c11] at H; exact absurd H (by simp)
       ·rw [if_neg c10] at H; exact absurd H (by simp)
      ·rw [if_neg c9] at H; have c9b0 : decide (x14_1 < (l0.length : Int)) = false := decide_eq_false c9; clear c9; obtain rfl := Option.some.inj H; go_wp2; go_ret; exact ⟨_, by first | rfl | (simp [errW_none, errW_some] <;> rfl) | (simp [*, errW_none, errW_some] <;> rfl), by (with_reducible repeat (first | apply Kd.R_alloc | apply Kd.R_drewN | apply Kd.R_drew)); exact HO_3.out, zB HB⟩
   ·rw [if_neg c5] at H; exact absurd H (by simp)
  ·rw [if_neg c4] at H; exact absurd H (by simp)
 ·replace c3 := Bool.eq_false_iff.mpr c3; subst c3; rw [if_neg (show ¬ (false = true) by decide)] at H; obtain rfl := Option.some.inj H; go_enter Try.func42, Try.ntmps42; go_wp2_with (first | ((with_reducible refine gate_callee (f := 46) rfl ?_); refine goesL_ (some 7) rfl rfl Try.func46 (by kernel_rfl) rfl #[.slice A0 l0.length c0] rfl zl ?_; (with_reducible refine (impl_ValidTurns.calls _ _ l0 false _ ?side1 ?side2 A2.out).mono ?_); (case side1 => repeat (first | exact HR0.out | (with_reducible refine Kd.C_alloc ?_ _) | (with_reducible refine Kd.C_drewN ?_ _) | (with_reducible refine Kd.C_drew ?_))); (case side2 => exact HC0.out); rintro e w20 ⟨rfl, hb⟩; refine ⟨_, rfl, ?_⟩; replace HB := Aside0.mk (below_step (zB HB) hb); (try clear hb); (try clear hb2); (try clear hk); (try clear hi))); go_ret; exact ⟨_, by first | rfl | (simp [errW_none, errW_some] <;> rfl) | (simp [*, errW_none, errW_some] <;> rfl), by first | exact Kd.R_nil _ _ _ _ _ | exact Kd.N_nil _ _ _ _ _ | exact Kd.V_nil _ _ _ _ _ | exact Kd.Q_nil _ _ _ _ _ | exact Kd.S_nil _ _ _ _ _, zB HB⟩

end Go.Proofs.Ytfcpbgedgedalaa.Q

namespace Go.Proofs.Ytfcpbgedgedalaa.Q
open Go.RowKit Go.Proofs.YtfcpbgedgedalaaL.PrintWords Go.Proofs.YtfcpbgedgedalaaL.PrintLast Go.Proofs.YtfcpbgedgedalaaL.PrintMore
attribute [local go_sem] max2_int min2_int max_two min_two max_three min_three max_four min_four   -- for this text's walks alone
set_option linter.unusedVariables false
set_option linter.unusedSimpArgs false

/-! ### slices.IndexFunc at impl.Pair: function 118 -/
set_option maxHeartbeats 8000000 in
set_option maxRecDepth 100000 in
theorem ix118.calls (p : S33 → Bool) (g : Nat) (lb : Array Value) (eg : ∀ args w, (callFunc g args).run Try.prog w = .ok (.enter g args) w) (A0 : Option Addr) (c0 : Nat) (l0 : List (S33)) (w : World)
  (hp : PxPred Try.prog g lb (fun x : S33 => .agg #[.string x.f0, .int .i64 x.f1]) p w) (hr0 : Kd.C k33 w A0 l0.length l0) :
  Calls Try.prog 118 #[.slice A0 l0.length c0, .func (.func g) #[] lb] w fun e w' => e = .returned (.int .i64 (pxIdx p l0)) ∧ Below w.heap.size w w' := by
 have HR := Aside0.mk hr0; clear hr0; have hbig : l0.length ≤ 9223372036854775807 := HR.out.2.1; have hu33 := Try.underlying33; go_enter Try.func118, Try.ntmps118; go_wp2; go_loopg [5, 8] l0.length (fun gg _ s8 wr => ∃ kk : Nat, kk ≤ l0.length ∧ l0.length - kk ≤ gg ∧ s8 = .int .i64 kk ∧ Aside0 (Below w.heap.size w wr) ∧ Aside0 (∀ j, j < kk → p (l0.getD j z33) = false))
 case atStart => exact ⟨0, Nat.zero_le _, by omega, rfl, ⟨Below.refl _ w⟩, ⟨fun j hj => absurd hj (Nat.not_lt_zero _)⟩⟩
 case round =>
  obtain ⟨kk, hkk, hg, rfl, BW, A⟩ := hrel
  by_cases hlt : kk < l0.length
  ·have hltz : (kk : Int) < (l0.length : Int) := by omega
   have hz0 : (0 : Int) ≤ (kk : Int) := by omega
   obtain ⟨ad, e, hx0, hx1⟩ := at_T33 (Kd.C_below HR.out BW.out) (kk : Int) hz0 hltz; simp only [Int.toNat_natCast] at hx0 hx1
   cases e
   have hcall := hp wr (rd_T33 l0 (kk : Int)) BW.out; clear hp; have B := Aside0.mk (show rd_T33 l0 (kk : Int) = l0.getD kk z33 from rfl); generalize hy : rd_T33 l0 (kk : Int) = y at hx0 hx1 hcall B; clear hy
   cases hq : p y with
   | true =>
    rw [hq] at hcall; go_wp2_with fail; refine hcall.mono ?_; rintro e w' ⟨rfl, hb'⟩; clear hcall; go_wp2; go_ret; refine ⟨?_, below_then BW.out BW.out.size hb'⟩; rw [pxIdx_hit p l0 z33 kk hlt (by rw [← B.out]; exact hq) A.out]; rfl
   | false =>
    rw [hq] at hcall; go_wp2_with fail; refine hcall.mono ?_; rintro e w' ⟨rfl, hb'⟩; clear hcall; go_wp2; go_roundg (l0.length - (kk + 1))
    case measure => omega
    case rel =>
     refine ⟨kk + 1, by omega, by omega, by go_num, ⟨below_then BW.out BW.out.size hb'⟩, ⟨fun j hj => ?_⟩⟩
     by_cases e : j = kk
     ·subst e; rw [← B.out]; exact hq
     ·exact A.out j (by omega)
  ·have hltz : ¬ (kk : Int) < (l0.length : Int) := by omega
   have : kk = l0.length := by omega
   subst this; go_wp2; go_ret; refine ⟨?_, BW.out⟩; rw [pxIdx_miss p l0 z33 A.out]; rfl
set_option maxHeartbeats 8000000 in
set_option maxRecDepth 100000 in
theorem impl_pairAt.pred119 (a1 : ByteArray) (B : Nat) (w : World) (hc : w.cell? ⟨B, 0, none⟩ = some (.string a1)) :
  PxPred Try.prog 119 #[.pointer (some ⟨B, 0, none⟩)] (fun x : S33 => .agg #[.string x.f0, .int .i64 x.f1]) (fun x : S33 => x.f0.toList == a1.toList) w := by
 intro W x hb; have hc' := px_cell hb hc; have hB' : B < W.heap.size := World.block_lt_of_cell? W _ hc'; clear hc
 show Calls Try.prog 119 #[.agg #[.string x.f0, .int .i64 x.f1], .pointer (some ⟨B, 0, none⟩)] W _
 have hu33 := Try.underlying33; go_enter Try.func119, Try.ntmps119; go_wp2; go_ret; exact ⟨rfl, px_alloc _ _⟩
/-! ### impl_pairAt: function 66 (a contract of our own) -/
def impl_pairAt.f (l0 : List (S33)) (a1 : ByteArray) : Option (Int) := some (pxIdx (fun x : S33 => x.f0.toList == a1.toList) l0)
set_option maxHeartbeats 8000000 in
set_option maxRecDepth 100000 in
theorem impl_pairAt.calls (A0 : Option Addr) (c0 : Nat) (l0 : List (S33)) (a1 : ByteArray) (r : Int) (w : World) (hr0 : Kd.C k33 w A0 l0.length l0) (hc0 : l0.length ≤ c0) (h : impl_pairAt.f l0 a1 = some r) :
  Calls Try.prog 66 #[.slice A0 l0.length c0, .string a1] w fun e w' => e = .returned (.int .i64 r) ∧ Below w.heap.size w w' := by
 have HR := Aside0.mk hr0; clear hr0; obtain rfl := Option.some.inj h; clear h; have eg := px_enters Try.func119 (by kernel_rfl) rfl; go_enter Try.func66, Try.ntmps66; go_wp2_with fail; refine (ix118.calls (fun x : S33 => x.f0.toList == a1.toList) 119 _ eg A0 c0 l0 _ (impl_pairAt.pred119 a1 w.heap.size _ ?_) ?_).mono ?_
 ·go_simp
 ·exact Kd.C_below HR.out (px_alloc _ _)
 rintro e w' ⟨rfl, hb'⟩; go_wp2; go_ret; exact ⟨rfl, below_then (px_alloc _ _) (by simp) hb'⟩

end Go.Proofs.Ytfcpbgedgedalaa.Q

namespace Go.Proofs.Ytfcpbgedgedalaa.Q
open Go.RowKit Go.Proofs.YtfcpbgedgedalaaL.PrintWords Go.Proofs.YtfcpbgedgedalaaL.PrintLast Go.Proofs.YtfcpbgedgedalaaL.PrintMore
attribute [local go_sem] max2_int min2_int max_two min_two max_three min_three max_four min_four   -- for this text's walks alone
set_option linter.unusedVariables false
set_option linter.unusedSimpArgs false

/-! ### slices.IndexFunc at int: function 142 -/
set_option maxHeartbeats 8000000 in
set_option maxRecDepth 100000 in
theorem ix142.calls (p : Int → Bool) (g : Nat) (lb : Array Value) (eg : ∀ args w, (callFunc g args).run Try.prog w = .ok (.enter g args) w) (A0 : Option Addr) (c0 : Nat) (l0 : List (Int)) (w : World)
  (hp : PxPred Try.prog g lb (fun x : Int => .int .i64 x) p w) (hr0 : Kd.C (Kd.int .i64) w A0 l0.length l0) :
  Calls Try.prog 142 #[.slice A0 l0.length c0, .func (.func g) #[] lb] w fun e w' => e = .returned (.int .i64 (pxIdx p l0)) ∧ Below w.heap.size w w' := by
 have HR := Aside0.mk hr0; clear hr0; have hbig : l0.length ≤ 9223372036854775807 := HR.out.2.1; go_enter Try.func142, Try.ntmps142; go_wp2; go_loopg [5, 8] l0.length (fun gg _ s8 wr => ∃ kk : Nat, kk ≤ l0.length ∧ l0.length - kk ≤ gg ∧ s8 = .int .i64 kk ∧ Aside0 (Below w.heap.size w wr) ∧ Aside0 (∀ j, j < kk → p (l0.getD j 0) = false))
 case atStart => exact ⟨0, Nat.zero_le _, by omega, rfl, ⟨Below.refl _ w⟩, ⟨fun j hj => absurd hj (Nat.not_lt_zero _)⟩⟩
 case round =>
  obtain ⟨kk, hkk, hg, rfl, BW, A⟩ := hrel
  by_cases hlt : kk < l0.length
  ·have hltz : (kk : Int) < (l0.length : Int) := by omega
   have hz0 : (0 : Int) ≤ (kk : Int) := by omega
   obtain ⟨ad, e, hx0⟩ := Kd.at_int (Kd.C_below HR.out BW.out) (kk : Int) hz0 hltz; simp only [Int.toNat_natCast] at hx0
   cases e
   have hcall := hp wr (rd l0 (kk : Int)) BW.out; clear hp; have B := Aside0.mk (show rd l0 (kk : Int) = l0.getD kk 0 from rfl); generalize hy : rd l0 (kk : Int) = y at hx0 hcall B; clear hy
   cases hq : p y with
   | true =>
    rw [hq] at hcall; go_wp2_with fail; refine hcall.mono ?_; rintro e w' ⟨rfl, hb'⟩; clear hcall; go_wp2; go_ret; refine ⟨?_, below_then BW.out BW.out.size hb'⟩; rw [pxIdx_hit p l0 0 kk hlt (by rw [← B.out]; exact hq) A.out]; rfl
   | false =>
    rw [hq] at hcall; go_wp2_with fail; refine hcall.mono ?_; rintro e w' ⟨rfl, hb'⟩; clear hcall; go_wp2; go_roundg (l0.length - (kk + 1))
    case measure => omega
    case rel =>
     refine ⟨kk + 1, by omega, by omega, by go_num, ⟨below_then BW.out BW.out.size hb'⟩, ⟨fun j hj => ?_⟩⟩
     by_cases e : j = kk
     ·subst e; rw [← B.out]; exact hq
     ·exact A.out j (by omega)
  ·have hltz : ¬ (kk : Int) < (l0.length : Int) := by omega
   have : kk = l0.length := by omega
   subst this; go_wp2; go_ret; refine ⟨?_, BW.out⟩; rw [pxIdx_miss p l0 0 A.out]; rfl
/-! ### slices.ContainsFunc at int: function 120 -/
set_option maxHeartbeats 8000000 in
set_option maxRecDepth 100000 in
theorem cf120.calls (p : Int → Bool) (g : Nat) (lb : Array Value) (eg : ∀ args w, (callFunc g args).run Try.prog w = .ok (.enter g args) w) (A0 : Option Addr) (c0 : Nat) (l0 : List (Int)) (w : World)
  (hp : PxPred Try.prog g lb (fun x : Int => .int .i64 x) p w) (hr0 : Kd.C (Kd.int .i64) w A0 l0.length l0) :
  Calls Try.prog 120 #[.slice A0 l0.length c0, .func (.func g) #[] lb] w fun e w' => e = .returned (.bool (l0.any p)) ∧ Below w.heap.size w w' := by
 rw [← pxIdx_any p l0]; go_enter Try.func120, Try.ntmps120; go_wp2_with fail; refine (ix142.calls p g lb eg A0 c0 l0 w hp hr0).mono ?_; rintro e w' ⟨rfl, hb'⟩; clear hp hr0; go_wp2; go_ret; exact ⟨by first | rfl | simp, hb'⟩
theorem impl_isValue.eq (x : Int) : impl_isValue.f x = some (decide (-99 ≤ x) && decide (x ≤ 99)) := by
 unfold impl_isValue.f impl_in.f
 by_cases h : x ≥ -99
 ·have h' : -99 ≤ x := h; simp [h, h']
 ·have h' : ¬ -99 ≤ x := h; simp [h, h']
set_option maxHeartbeats 8000000 in
set_option maxRecDepth 100000 in
theorem impl_areValues.pred121 (w : World) :
  PxPred Try.prog 121 #[] (fun x : Int => .int .i64 x) (fun x : Int => !(decide (-99 ≤ x) && decide (x ≤ 99))) w := by
 intro W x hb
 show Calls Try.prog 121 #[.int .i64 x] W _
 have HV := Aside0.mk (impl_isValue.eq x)
 cases hq : (decide (-99 ≤ x) && decide (x ≤ 99)) <;> (
  have HQ := Aside0.mk hq; clear hq; go_enter Try.func121, Try.ntmps121; go_wp2_with fail; refine (impl_isValue.calls _ _ _ HV.out).mono ?_; rintro e w' ⟨rfl, hd⟩; have hb := hd.below; clear hd; rw [HQ.out]; go_wp2; go_ret
  exact ⟨by first | rfl | (rw [HQ.out]; rfl), hb⟩)
/-! ### impl_areValues: function 67 (a contract of our own) -/
def impl_areValues.f (l0 : List Int) : Option (Bool) := some (!l0.any (fun x : Int => !(decide (-99 ≤ x) && decide (x ≤ 99))))
set_option maxHeartbeats 8000000 in
set_option maxRecDepth 100000 in
theorem impl_areValues.calls (A0 : Option Addr) (c0 : Nat) (l0 : List Int) (r : Bool) (w : World) (hr0 : Kd.C (Kd.int .i64) w A0 l0.length l0) (hc0 : l0.length ≤ c0) (h : impl_areValues.f l0 = some r) :
  Calls Try.prog 67 #[.slice A0 l0.length c0] w fun e w' => e = .returned (.bool r) ∧ Below w.heap.size w w' := by
 have HR := Aside0.mk hr0; clear hr0; obtain rfl := Option.some.inj h; clear h; have eg := px_enters Try.func121 (by kernel_rfl) rfl
 cases hq : l0.any (fun x : Int => !(decide (-99 ≤ x) && decide (x ≤ 99))) <;> (
  have HQ := Aside0.mk hq; clear hq; go_enter Try.func67, Try.ntmps67; go_wp2_with fail; refine (cf120.calls (fun x : Int => !(decide (-99 ≤ x) && decide (x ≤ 99))) 121 _ eg A0 c0 l0 _ (impl_areValues.pred121 _) HR.out).mono ?_; rintro e w' ⟨rfl, hb'⟩; rw [HQ.out]; go_wp2; go_ret
  exact ⟨rfl, hb'⟩)

end Go.Proofs.Ytfcpbgedgedalaa.Q

namespace Go.Proofs.Ytfcpbgedgedalaa.Q
open Go.RowKit Go.Proofs.YtfcpbgedgedalaaL.PrintWords Go.Proofs.YtfcpbgedgedalaaL.PrintLast Go.Proofs.YtfcpbgedgedalaaL.PrintMore
attribute [local go_sem] max2_int min2_int max_two min_two max_three min_three max_four min_four   -- for this text's walks alone
set_option linter.unusedVariables false
set_option linter.unusedSimpArgs false

/-! ### impl_ValidFlat: function 22 -/
def impl_ValidFlat.l0 : Nat → List (S33) → Int → Int → List Int → List (S33) → Option (Bool)
 | 0, _, _, _, _, _ => none
 | k + 1, x6, x7, x8, x281000, x281001 => if x8 < x7 then (if 0 ≤ x8 then (if x8 < (x6.length : Int) then ((impl_Pair_valid.f k ((rd_T33 x6 x8).f0) ((rd_T33 x6 x8).f1)).bind fun t284 => (if t284 = true then (if x8 ≤ (x281001.length : Int) then ((impl_pairAt.f (x281001.take (x8 : Int).toNat) ((rd_T33 x6 x8).f0)).bind fun t289 => (if t289 ≥ 0 then (some false) else (impl_ValidFlat.l0 k x6 x7 (wrap64 (x8 + 1)) x281000 x281001))) else (none)) else (some false))) else (none)) else (none)) else (if (x281000.length : Int) ≤ 8 then (if (x281001.length : Int) ≤ 8 then ((impl_areValues.f x281000).bind fun t281 => (some t281)) else (some false)) else (some false))
def impl_ValidFlat.f (k : Nat) (l0_0 : List Int) (l0_1 : List (S33)) : Option (Bool) := impl_ValidFlat.l0 k l0_1 (l0_1.length : Int) 0 l0_0 l0_1
theorem impl_ValidFlat.mono_l : ∀ k, (∀ y0 y1 y2 y3 y4, LeO (impl_ValidFlat.l0 k y0 y1 y2 y3 y4) (impl_ValidFlat.l0 (k + 1) y0 y1 y2 y3 y4))
 | 0 => fun _ _ _ _ _ r h => by simp [impl_ValidFlat.l0] at h
 | k + 1 => by
  have ih0 := impl_ValidFlat.mono_l k
  ·intro y0 y1 y2 y3 y4; unfold impl_ValidFlat.l0
   repeat' first
   | (with_reducible exact ih0 _ _ _ _ _)
   | (with_reducible exact impl_Pair_valid.mono _ _ _)
   | (with_reducible exact LeO.refl _)
   | (with_reducible exact LeO.none _)
   | (with_reducible refine LeO.ite ?_ ?_)
   | (with_reducible refine LeO.bind ?_ (fun _ => ?_))
   | exact ih0 _ _ _ _ _
   | exact impl_Pair_valid.mono _ _ _
   | exact LeO.none _
   | refine LeO.ite ?_ ?_
   | refine LeO.bind ?_ (fun _ => ?_)
theorem impl_ValidFlat.mono : ∀ a0 a1 k, LeO (impl_ValidFlat.f k a0 a1) (impl_ValidFlat.f (k + 1) a0 a1) := by
 intro a0 a1 k; have ih0 := impl_ValidFlat.mono_l k; unfold impl_ValidFlat.f
 repeat' first
   | (with_reducible exact ih0 _ _ _ _ _)
   | (with_reducible exact impl_Pair_valid.mono _ _ _)
   | (with_reducible exact LeO.refl _)
   | (with_reducible exact LeO.none _)
   | (with_reducible refine LeO.ite ?_ ?_)
   | (with_reducible refine LeO.bind ?_ (fun _ => ?_))
   | exact ih0 _ _ _ _ _
   | exact impl_Pair_valid.mono _ _ _
   | exact LeO.none _
   | refine LeO.ite ?_ ?_
   | refine LeO.bind ?_ (fun _ => ?_)
def impl_ValidFlat.T4 : Bool × List (List Nat × List Nat) := (true, [([], []), ([0], [0]), ([1], [1]), ([2, 1], [2]), ([3], [3]), ([4, 3], [3, 4]), ([3], [3]), ([5, 6, 3], [3, 5, 6]), ([3], [3]), ([8, 3], [3, 8]), ([7, 9, 3, 3], [3, 7, 9]), ([10, 3], [3, 10]), ([3, 11], [3, 11])])
def impl_ValidFlat.B4 : List Nat := [0, 1, 3, 7, 15, 31, 15, 127, 15, 271, 1023, 2047, 4095]
theorem impl_ValidFlat.tab4 : rtab .any (opsOf Try.f22 4) = impl_ValidFlat.T4 := by kernel_rfl
theorem impl_ValidFlat.bits4 : waitsOk impl_ValidFlat.T4.2 impl_ValidFlat.B4 = true := by kernel_rfl
set_option maxHeartbeats 8000000 in
set_option maxRecDepth 100000 in
theorem impl_ValidFlat.calls (k : Nat) (A0_0 : Option Addr) (c0_0 : Nat) (l0_0 : List Int) (A0_1 : Option Addr) (c0_1 : Nat) (l0_1 : List (S33)) (r : Bool) (w : World) (hr0_0 : Kd.C (Kd.int .i64) w A0_0 l0_0.length l0_0) (hc0_0 : l0_0.length ≤ c0_0) (hr0_1 : Kd.C k33 w A0_1 l0_1.length l0_1) (hc0_1 : l0_1.length ≤ c0_1) (h : impl_ValidFlat.f k l0_0 l0_1 = some r) :
  Calls Try.prog 22 #[.agg #[.slice A0_0 l0_0.length c0_0, .slice A0_1 l0_1.length c0_1]] w fun e w' => e = .returned (.bool r) ∧ Below w.heap.size w w' := by
 have hu26 := Try.underlying26; have hu33 := Try.underlying33; have HR0_0 := Aside0.mk hr0_0; have HC0_0 := Aside0.mk hc0_0; clear hr0_0 hc0_0; have HR0_1 := Aside0.mk hr0_1; have HC0_1 := Aside0.mk hc0_1; clear hr0_1 hc0_1; have HB := Aside0.mk (Below.refl w.heap.size w); have H : (impl_ValidFlat.l0 k l0_1 (l0_1.length : Int) 0 l0_0 l0_1) = some r := h; clear h; have H' := Aside0.mk H; clear H; go_enter Try.func22, Try.ntmps22; go_wp2_with (first | ((with_reducible refine gate_dst (N := 1) rfl ?_); refine zx (N := 1) (cs := #[.slice A0_0 l0_0.length c0_0, .slice A0_1 l0_1.length c0_1]) (t := 26) ?_; intro gb280 hg w2 hbox hb; have BK280 := Aside0.mk (hbox); have GW280 := Aside0.mk ((by rw [hg]; exact (below_size (zB HB)) : w.heap.size ≤ gb280)); have GE280 := GW280; replace HB := Aside0.mk (below_step (zB HB) hb); clear hb hbox hg; have hcz3_0 : w2.cell? ⟨gb280, 0, none⟩ = some (.slice A0_0 l0_0.length c0_0) := (blk_cell BK280.out 0).trans rfl; have hcz3_1 : w2.cell? ⟨gb280, 1, none⟩ = some (.slice A0_1 l0_1.length c0_1) := (blk_cell BK280.out 1).trans rfl; have hfz3_0 := blk_frozen BK280.out 0; have hfz3_1 := blk_frozen BK280.out 1)); go_loopg [8] k (fun kq v8 w' => ∃ (x8_1 : Int), v8 = .int .i64 x8_1 ∧ Aside0 (impl_ValidFlat.l0 kq l0_1 (l0_1.length : Int) x8_1 l0_0 l0_1 = some r) ∧ Aside0 (kq ≤ k) ∧ Aside0 (w'.heap[gb280]? = some (.cells #[(.slice A0_0 l0_0.length c0_0), (.slice A0_1 l0_1.length c0_1)] 26 (0, 0))) ∧ Aside0 (Below w.heap.size w w'))
 case atStart => exact ⟨(0), zr, H', ⟨Nat.le_refl _⟩, ⟨zb BK280⟩, ⟨zB HB⟩⟩
 case round =>
  clear H'; (try clear c2); (try clear p2); (try clear hcz3_0); (try clear hcz3_1); (try clear hfz3_0); (try clear hfz3_1); obtain ⟨x8_1, rfl, HA, HK1, BK280, HB⟩ := hrel
  cases gk with
  | zero => exact absurd HA.out (by simp [impl_ValidFlat.l0])
  | succ k1 =>
   have H := HA.out; clear HA; simp only [impl_ValidFlat.l0] at H
   by_cases c4 : x8_1 < (l0_1.length : Int)
   ·rw [if_pos c4] at H; have c4b0 : decide (x8_1 < (l0_1.length : Int)) = true := decide_eq_true c4; clear c4
    by_cases c5 : 0 ≤ x8_1
    ·rw [if_pos c5] at H; have c5b0 : decide (0 ≤ x8_1) = true := decide_eq_true c5; clear c5
     by_cases c6 : x8_1 < (l0_1.length : Int)
     ·rw [if_pos c6] at H; have c6b0 : decide (x8_1 < (l0_1.length : Int)) = true := decide_eq_true c6; clear c6; replace H := Option.bind_eq_some_iff.mp H; obtain ⟨t284, A70, H⟩ := H
      (try dsimp only at H)
      have A7 := Aside0.mk A70; clear A70
      by_cases c8 : t284 = true
      ·subst c8; rw [if_pos rfl] at H; have c9b0 := eq_true (of_decide_eq_true za : 0 ≤ x8_1)
       by_cases c10 : x8_1 ≤ (l0_1.length : Int)
       ·rw [if_pos c10] at H; have c10b0 := eq_true c10; have c10b1 : decide (x8_1 ≤ (l0_1.length : Int)) = true := decide_eq_true c10; clear c10; obtain ⟨y285, hy285⟩ : ∃ y_ : List (S33), y_ = (l0_1.take (x8_1 : Int).toNat) := ⟨_, rfl⟩
        replace H : ((impl_pairAt.f y285 ((rd_T33 l0_1 x8_1).f0)).bind fun t289 => (if t289 ≥ 0 then (some false) else (impl_ValidFlat.l0 k1 l0_1 (l0_1.length : Int) (wrap64 (x8_1 + 1)) l0_0 l0_1))) = some r := by first | (rw [hy285]; with_reducible exact H) | (have H2_ := (Option.bind_some _ _).symm.trans H; rw [hy285]; with_reducible exact H2_) | (have H2_ := (Option.bind_some _ _).symm.trans H; with_reducible exact H2_) | with_reducible exact H | (rw [hy285]; exact H) | exact H
        have Ny285 := Aside0.mk hy285; clear hy285; replace H := Option.bind_eq_some_iff.mp H; obtain ⟨t289, A110, H⟩ := H
        (try dsimp only at H)
        have A11 := Aside0.mk A110; clear A110
        by_cases c12 : t289 ≥ 0
        ·rw [if_pos c12] at H; have c12b0 : decide (0 ≤ t289) = true := decide_eq_true c12; clear c12; obtain rfl := Option.some.inj H; have p282 : 0 ≤ (x8_1 : Int) := of_decide_eq_true za; have q282 : x8_1 < (l0_1.length : Int) := of_decide_eq_true za; obtain ⟨ad282, e282, hx282_0, hx282_1⟩ := at_T33 HR0_1.out x8_1 p282 q282
         cases e282
         replace hx282_0 := (HB.out.cell (World.block_lt_of_cell? w _ hx282_0)).trans hx282_0; replace hx282_1 := (HB.out.cell (World.block_lt_of_cell? w _ hx282_1)).trans hx282_1; replace p282 := eq_true p282; replace q282 := eq_true q282
         try go_wp2_with (first | ((with_reducible refine gate_dst (N := 4) rfl ?_); refine zx (N := 4) (cs := #[.string (⟨#[]⟩ : ByteArray), .int .i64 0]) (t := 33) ?_; intro gb283 hg w13 hbox hb; have BK283 := Aside0.mk (hbox); have GW283 := Aside0.mk ((by rw [hg]; exact (below_size (zB HB)) : w.heap.size ≤ gb283)); have GE283 := GW283; replace HB := Aside0.mk (below_step (zB HB) hb); have NB280_283 := Aside0.mk ((by rw [hg]; exact Nat.ne_of_lt (blk_lt (g := gb280) (o := .cells #[.slice A0_0 l0_0.length c0_0, .slice (some ad282) l0_1.length c0_1] 26 (0, 0)) (zb BK280)) : gb280 ≠ gb283)); have NB283_280 := Aside0.mk NB280_283.out.symm; replace BK280 := Aside0.mk (blk_below (g := gb280) (o := .cells #[.slice A0_0 l0_0.length c0_0, .slice (some ad282) l0_1.length c0_1] 26 (0, 0)) (zb BK280) hb); clear hb hbox hg; have hnb14 := NB283_280.out; have hnc14 := NB280_283.out; have hcz15_0 : w13.cell? ⟨gb283, 0, none⟩ = some (.string (⟨#[]⟩ : ByteArray)) := (blk_cell BK283.out 0).trans rfl; have hcz15_1 : w13.cell? ⟨gb283, 1, none⟩ = some (.int .i64 0) := (blk_cell BK283.out 1).trans rfl; have hfz15_0 := blk_frozen BK283.out 0; have hfz15_1 := blk_frozen BK283.out 1))
         have n0_ : Aside0 (((w13.setCell ⟨gb283, 0, none⟩ (.string ((rd_T33 l0_1 x8_1).f0))).setCell ⟨gb283, 1, none⟩ (.int .i64 ((rd_T33 l0_1 x8_1).f1))).heap[gb280]? = some (.cells #[.slice A0_0 l0_0.length c0_0, .slice (some ad282) l0_1.length c0_1] 26 (0, 0))) := ⟨zf BK280⟩
         have n1_ : Aside0 (((w13.setCell ⟨gb283, 0, none⟩ (.string ((rd_T33 l0_1 x8_1).f0))).setCell ⟨gb283, 1, none⟩ (.int .i64 ((rd_T33 l0_1 x8_1).f1))).heap[gb283]? = some (.cells #[.string ((rd_T33 l0_1 x8_1).f0), .int .i64 ((rd_T33 l0_1 x8_1).f1)] 33 (0, 0))) := ⟨by (with_reducible repeat (first | refine blk_drewN ?_ _ | refine blk_drew ?_ | refine blk_alloc ?_ _)); refine blk_put (cs := #[.string ((rd_T33 l0_1 x8_1).f0), .int .i64 0]) ?_ 1 _ rfl; (with_reducible repeat (first | refine blk_drewN ?_ _ | refine blk_drew ?_ | refine blk_alloc ?_ _)); refine blk_put (cs := #[.string (⟨#[]⟩ : ByteArray), .int .i64 0]) ?_ 0 _ rfl; (with_reducible repeat (first | refine blk_drewN ?_ _ | refine blk_drew ?_ | refine blk_alloc ?_ _)); exact BK283.out⟩
         have n2_ : Aside0 (Below w.heap.size w ((w13.setCell ⟨gb283, 0, none⟩ (.string ((rd_T33 l0_1 x8_1).f0))).setCell ⟨gb283, 1, none⟩ (.int .i64 ((rd_T33 l0_1 x8_1).f1)))) := ⟨zB HB⟩
         (try clear BK280); (try clear BK283); (try clear HB); generalize ((w13.setCell ⟨gb283, 0, none⟩ (.string ((rd_T33 l0_1 x8_1).f0))).setCell ⟨gb283, 1, none⟩ (.int .i64 ((rd_T33 l0_1 x8_1).f1))) = w16 at n0_ n1_ n2_ ⊢; have BK280 := n0_; have BK283 := n1_; have HB := n2_; clear n0_ n1_ n2_; replace BK280 := Aside0.mk (blk_drew BK280.out); replace BK283 := Aside0.mk (blk_drew BK283.out); replace HB := Aside0.mk (below_drew1 HB.out); refine start_ (n := 13) (S := fun w' => w'.cell? ⟨gb283, 0, none⟩ = some (.string ((rd_T33 l0_1 x8_1).f0)) ∧ w'.cell? ⟨gb283, 1, none⟩ = some (.int .i64 ((rd_T33 l0_1 x8_1).f1)) ∧ w'.cell? ⟨gb280, 0, none⟩ = some (.slice A0_0 l0_0.length c0_0) ∧ w'.cell? ⟨gb280, 1, none⟩ = some (.slice (some ad282) l0_1.length c0_1)) (ds := []) #[false, false, false, false, false, false, false, false, false, false, false, false, false] (by kernel_rfl) rfl rfl ⟨(blk_cell BK283.out 0).trans rfl, (blk_cell BK283.out 1).trans rfl, (blk_cell BK280.out 0).trans rfl, (blk_cell BK280.out 1).trans rfl⟩ (fun hHeld => ?_); refine with_tabW impl_ValidFlat.tab4 impl_ValidFlat.bits4 (fun HT_ HW_ => ?_); generalize w16.drew = w17 at BK280 BK283 HB hHeld ⊢; refine take_ (i := 0) (N := some 13) (v := ?_) (a' := ?_) #[true, false, false, false, false, false, false, false, false, false, false, false, false] rfl rfl (take_ofW HT_.out HW_.out (by kernel_rfl)) (fun _ _ _ h => h) (Or.inl ⟨by rfl, ?_⟩) hHeld ?_ ?_; rotate_left
         ·rintro w' ⟨s0, s1, s2, s3⟩; go_simp; with_reducible rfl
         rotate_left
         ·simp only [Act.put, List.setIfInBounds_toArray, List.set_cons_zero, List.set_cons_succ, i64_w, i32_w]; rfl
         refine one_ (i := 1) (N := some 14) #[true, true, false, false, false, false, false, false, false, false, false, false, false] rfl rfl (one_of HT_.out (by kernel_rfl)) (by decide) (fun K hK => ?_); refine goes_ Try.func65 (by kernel_rfl) rfl #[.agg #[.string ((rd_T33 l0_1 x8_1).f0), .int .i64 ((rd_T33 l0_1 x8_1).f1)]] (by rfl) rfl rfl zl ?_; with_reducible refine (impl_Pair_valid.calls k1 ((rd_T33 l0_1 x8_1).f0) ((rd_T33 l0_1 x8_1).f1) true _ A7.out).mono ?_; rintro e w18 ⟨rfl, hb⟩; refine ⟨_, rfl, ?_⟩; replace BK280 := Aside0.mk (blk_below (g := gb280) (o := .cells #[.slice A0_0 l0_0.length c0_0, .slice (some ad282) l0_1.length c0_1] 26 (0, 0)) (zb BK280) hb); replace BK283 := Aside0.mk (blk_below (g := gb283) (o := .cells #[.string ((rd_T33 l0_1 x8_1).f0), .int .i64 ((rd_T33 l0_1 x8_1).f1)] 33 (0, 0)) (zb BK283) hb); replace HB := Aside0.mk (below_step (zB HB) hb); (try clear hb); (try clear hb2); (try clear hk); (try clear hi); have q19 : (x8_1 : Int) ≤ ((l0_1.length : Int) : Int) := of_decide_eq_true za; obtain ⟨i019, hi019, _, hsz19, _⟩ := info_parts info33; have hroom19 : l0_1.length ≤ c0_1 := HC0_1.out; have hC19 : Kd.C k33 _ (some ad282) l0_1.length l0_1 := HR0_1.out; have hcut19 := cut_to (P := Try.prog) 24 33 .i64 Try.underlying24 hi019 (some ad282) l0_1.length c0_1 x8_1 (of_decide_eq_true za) q19 hroom19; have hr19 := Kd.C_take (m := (x8_1 : Int).toNat) hC19 (by omega); have hy19 : y285.length = (x8_1 : Int).toNat := (by rw [Ny285.out, List.length_take]; omega)
         rw [← Ny285.out] at hr19; rw [← hy19] at hcut19; have HR288 := Aside0.mk hr19; have HC288 := Aside0.mk (show y285.length ≤ c0_1 from by omega); clear hr19 hC19 hroom19 hi019 hsz19; have KY19 := Aside0.mk hy19; clear hy19; replace q19 := eq_true q19; refine hK.out _ _ ⟨(blk_cell BK283.out 0).trans rfl, (blk_cell BK283.out 1).trans rfl, (blk_cell BK280.out 0).trans rfl, (blk_cell BK280.out 1).trans rfl⟩ (fun hHeld => ?_); clear hK K; refine norm_ (a' := ?_) ?_ ?_; rotate_left
         ·show Act.put _ (some 14) _ = _
          simp only [Act.put, List.setIfInBounds_toArray, List.set_cons_zero, List.set_cons_succ, i64_w, i32_w]; rfl
         refine pure_ (i := 2) (N := some 15) (v := ?_) (a' := ?_) #[true, true, true, false, false, false, false, false, false, false, false, false, false] rfl rfl (any_of HT_.out (by kernel_rfl)) (fun _ _ _ h => h) (Or.inl ⟨by rfl, ?_⟩) ?_ ?_; rotate_left
         ·intro w'; go_simp; with_reducible rfl
         rotate_left
         ·simp only [Act.put, List.setIfInBounds_toArray, List.set_cons_zero, List.set_cons_succ, i64_w, i32_w]; rfl
         refine pure_ (i := 3) (N := some 16) (v := ?_) (a' := ?_) #[true, true, true, true, false, false, false, false, false, false, false, false, false] rfl rfl (any_of HT_.out (by kernel_rfl)) (fun _ _ _ h => h) (Or.inl ⟨by rfl, ?_⟩) ?_ ?_; rotate_left
         ·intro w'; go_simp; with_reducible rfl
         rotate_left
         ·simp only [Act.put, List.setIfInBounds_toArray, List.set_cons_zero, List.set_cons_succ, i64_w, i32_w]; rfl
         refine pure_ (i := 4) (N := some 17) (v := ?_) (a' := ?_) #[true, true, true, true, true, false, false, false, false, false, false, false, false] rfl rfl (any_of HT_.out (by kernel_rfl)) (fun _ _ _ h => h) (Or.inl ⟨by rfl, ?_⟩) ?_ ?_; rotate_left
         ·intro w'; go_simp; with_reducible rfl
         rotate_left
         ·simp only [Act.put, List.setIfInBounds_toArray, List.set_cons_zero, List.set_cons_succ, i64_w, i32_w]; rfl
         refine pure_ (i := 6) (N := some 19) (v := ?_) (a' := ?_) #[true, true, true, true, true, false, true, false, false, false, false, false, false] rfl rfl (any_of HT_.out (by kernel_rfl)) (fun _ _ _ h => h) (Or.inl ⟨by rfl, ?_⟩) ?_ ?_; rotate_left
         ·intro w'; go_simp; with_reducible rfl
         rotate_left
         ·simp only [Act.put, List.setIfInBounds_toArray, List.set_cons_zero, List.set_cons_succ, i64_w, i32_w]; rfl
         refine pure_ (i := 8) (N := some 21) (v := ?_) (a' := ?_) #[true, true, true, true, true, false, true, false, true, false, false, false, false] rfl rfl (any_of HT_.out (by kernel_rfl)) (fun _ _ _ h => h) (Or.inl ⟨by rfl, ?_⟩) ?_ ?_; rotate_left
         ·intro w'; go_simp; with_reducible rfl
         rotate_left
         ·simp only [Act.put, List.setIfInBounds_toArray, List.set_cons_zero, List.set_cons_succ, i64_w, i32_w]; rfl
         refine take_ (i := 5) (N := some 18) (v := ?_) (a' := ?_) #[true, true, true, true, true, true, true, false, true, false, false, false, false] rfl rfl (take_ofW HT_.out HW_.out (by kernel_rfl)) (fun _ _ _ h => h) (Or.inl ⟨by rfl, ?_⟩) hHeld ?_ ?_; rotate_left
         ·rintro w' ⟨s0, s1, s2, s3⟩; go_simp; with_reducible rfl
         rotate_left
         ·simp only [Act.put, List.setIfInBounds_toArray, List.set_cons_zero, List.set_cons_succ, i64_w, i32_w]; rfl
         refine pure_ (i := 7) (N := some 20) (v := ?_) (a' := ?_) #[true, true, true, true, true, true, true, true, true, false, false, false, false] rfl rfl (any_of HT_.out (by kernel_rfl)) (fun _ _ _ h => h) (Or.inl ⟨by rfl, ?_⟩) ?_ ?_; rotate_left
         ·intro w'; go_simp; with_reducible rfl
         rotate_left
         ·simp only [Act.put, List.setIfInBounds_toArray, List.set_cons_zero, List.set_cons_succ, i64_w, i32_w]; rfl
         refine take_ (i := 9) (N := some 22) (v := ?_) (a' := ?_) #[true, true, true, true, true, true, true, true, true, true, false, false, false] rfl rfl (take_ofW HT_.out HW_.out (by kernel_rfl)) (fun _ _ _ h => h) (Or.inl ⟨by rfl, ?_⟩) hHeld ?_ ?_; rotate_left
         ·rintro w' ⟨s0, s1, s2, s3⟩; go_simp; with_reducible rfl
         rotate_left
         ·simp only [Act.put, List.setIfInBounds_toArray, List.set_cons_zero, List.set_cons_succ, i64_w, i32_w]; rfl
         refine one_ (i := 10) (N := some 23) #[true, true, true, true, true, true, true, true, true, true, true, false, false] rfl rfl (one_of HT_.out (by kernel_rfl)) (by decide) (fun K hK => ?_); refine goes_ Try.func66 (by kernel_rfl) rfl #[.slice (some ad282) y285.length c0_1, .string ((rd_T33 l0_1 x8_1).f0)] (by rfl) rfl rfl zl ?_; with_reducible refine (impl_pairAt.calls _ _ y285 ((rd_T33 l0_1 x8_1).f0) t289 _ ?side1 ?side2 A11.out).mono ?_
         (case side1 => repeat (first | exact (Kd.C_below HR288.out HB.out) | (with_reducible refine Kd.C_alloc ?_ _) | (with_reducible refine Kd.C_drewN ?_ _) | (with_reducible refine Kd.C_drew ?_)))
         (case side2 => exact HC288.out)
         rintro e w20 ⟨rfl, hb⟩; refine ⟨_, rfl, ?_⟩; replace BK280 := Aside0.mk (blk_below (g := gb280) (o := .cells #[.slice A0_0 l0_0.length c0_0, .slice (some ad282) l0_1.length c0_1] 26 (0, 0)) (zb BK280) hb); replace BK283 := Aside0.mk (blk_below (g := gb283) (o := .cells #[.string ((rd_T33 l0_1 x8_1).f0), .int .i64 ((rd_T33 l0_1 x8_1).f1)] 33 (0, 0)) (zb BK283) hb); replace HB := Aside0.mk (below_step (zB HB) hb); (try clear hb); (try clear hb2); (try clear hk); (try clear hi); refine hK.out _ _ ⟨(blk_cell BK283.out 0).trans rfl, (blk_cell BK283.out 1).trans rfl, (blk_cell BK280.out 0).trans rfl, (blk_cell BK280.out 1).trans rfl⟩ (fun hHeld => ?_); clear hK K; refine norm_ (a' := ?_) ?_ ?_; rotate_left
         ·show Act.put _ (some 23) _ = _
          simp only [Act.put, List.setIfInBounds_toArray, List.set_cons_zero, List.set_cons_succ, i64_w, i32_w]; rfl
         refine pure_ (i := 11) (N := some 24) (v := ?_) (a' := ?_) #[true, true, true, true, true, true, true, true, true, true, true, true, false] rfl rfl (any_of HT_.out (by kernel_rfl)) (fun _ _ _ h => h) (Or.inl ⟨by rfl, ?_⟩) ?_ ?_; rotate_left
         ·intro w'; go_simp; with_reducible rfl
         rotate_left
         ·simp only [Act.put, List.setIfInBounds_toArray, List.set_cons_zero, List.set_cons_succ, i64_w, i32_w]; rfl
         refine pure_ (i := 12) (N := some 25) (v := ?_) (a' := ?_) #[true, true, true, true, true, true, true, true, true, true, true, true, true] rfl rfl (any_of HT_.out (by kernel_rfl)) (fun _ _ _ h => h) (Or.inl ⟨by rfl, ?_⟩) ?_ ?_; rotate_left
         ·intro w'; go_simp; with_reducible rfl
         rotate_left
         ·simp only [Act.put, List.setIfInBounds_toArray, List.set_cons_zero, List.set_cons_succ, i64_w, i32_w]; rfl
         refine done_ (done_of HT_.out (by kernel_rfl)) ?_
         try go_wp2
         go_ret; exact ⟨by first | rfl | (simp [errW_none, errW_some] <;> rfl) | (simp [*, errW_none, errW_some] <;> rfl), zB HB⟩
        ·rw [if_neg c12] at H; have c12b0 : decide (0 ≤ t289) = false := decide_eq_false c12; clear c12; have H' := Aside0.mk H; clear H; have p282 : 0 ≤ (x8_1 : Int) := of_decide_eq_true za; have q282 : x8_1 < (l0_1.length : Int) := of_decide_eq_true za; obtain ⟨ad282, e282, hx282_0, hx282_1⟩ := at_T33 HR0_1.out x8_1 p282 q282
         cases e282
         replace hx282_0 := (HB.out.cell (World.block_lt_of_cell? w _ hx282_0)).trans hx282_0; replace hx282_1 := (HB.out.cell (World.block_lt_of_cell? w _ hx282_1)).trans hx282_1; replace p282 := eq_true p282; replace q282 := eq_true q282
         try go_wp2_with (first | ((with_reducible refine gate_dst (N := 4) rfl ?_); refine zx (N := 4) (cs := #[.string (⟨#[]⟩ : ByteArray), .int .i64 0]) (t := 33) ?_; intro gb283 hg w21 hbox hb; have BK283 := Aside0.mk (hbox); have GW283 := Aside0.mk ((by rw [hg]; exact (below_size (zB HB)) : w.heap.size ≤ gb283)); have GE283 := GW283; replace HB := Aside0.mk (below_step (zB HB) hb); have NB280_283 := Aside0.mk ((by rw [hg]; exact Nat.ne_of_lt (blk_lt (g := gb280) (o := .cells #[.slice A0_0 l0_0.length c0_0, .slice (some ad282) l0_1.length c0_1] 26 (0, 0)) (zb BK280)) : gb280 ≠ gb283)); have NB283_280 := Aside0.mk NB280_283.out.symm; replace BK280 := Aside0.mk (blk_below (g := gb280) (o := .cells #[.slice A0_0 l0_0.length c0_0, .slice (some ad282) l0_1.length c0_1] 26 (0, 0)) (zb BK280) hb); clear hb hbox hg; have hnb22 := NB283_280.out; have hnc22 := NB280_283.out; have hcz23_0 : w21.cell? ⟨gb283, 0, none⟩ = some (.string (⟨#[]⟩ : ByteArray)) := (blk_cell BK283.out 0).trans rfl; have hcz23_1 : w21.cell? ⟨gb283, 1, none⟩ = some (.int .i64 0) := (blk_cell BK283.out 1).trans rfl; have hfz23_0 := blk_frozen BK283.out 0; have hfz23_1 := blk_frozen BK283.out 1))
         have n0_ : Aside0 (((w21.setCell ⟨gb283, 0, none⟩ (.string ((rd_T33 l0_1 x8_1).f0))).setCell ⟨gb283, 1, none⟩ (.int .i64 ((rd_T33 l0_1 x8_1).f1))).heap[gb280]? = some (.cells #[.slice A0_0 l0_0.length c0_0, .slice (some ad282) l0_1.length c0_1] 26 (0, 0))) := ⟨zf BK280⟩
         have n1_ : Aside0 (((w21.setCell ⟨gb283, 0, none⟩ (.string ((rd_T33 l0_1 x8_1).f0))).setCell ⟨gb283, 1, none⟩ (.int .i64 ((rd_T33 l0_1 x8_1).f1))).heap[gb283]? = some (.cells #[.string ((rd_T33 l0_1 x8_1).f0), .int .i64 ((rd_T33 l0_1 x8_1).f1)] 33 (0, 0))) := ⟨by (with_reducible repeat (first | refine blk_drewN ?_ _ | refine blk_drew ?_ | refine blk_alloc ?_ _)); refine blk_put (cs := #[.string ((rd_T33 l0_1 x8_1).f0), .int .i64 0]) ?_ 1 _ rfl; (with_reducible repeat (first | refine blk_drewN ?_ _ | refine blk_drew ?_ | refine blk_alloc ?_ _)); refine blk_put (cs := #[.string (⟨#[]⟩ : ByteArray), .int .i64 0]) ?_ 0 _ rfl; (with_reducible repeat (first | refine blk_drewN ?_ _ | refine blk_drew ?_ | refine blk_alloc ?_ _)); exact BK283.out⟩
         have n2_ : Aside0 (Below w.heap.size w ((w21.setCell ⟨gb283, 0, none⟩ (.string ((rd_T33 l0_1 x8_1).f0))).setCell ⟨gb283, 1, none⟩ (.int .i64 ((rd_T33 l0_1 x8_1).f1)))) := ⟨zB HB⟩
         (try clear BK280); (try clear BK283); (try clear HB); generalize ((w21.setCell ⟨gb283, 0, none⟩ (.string ((rd_T33 l0_1 x8_1).f0))).setCell ⟨gb283, 1, none⟩ (.int .i64 ((rd_T33 l0_1 x8_1).f1))) = w24 at n0_ n1_ n2_ ⊢; have BK280 := n0_; have BK283 := n1_; have HB := n2_; clear n0_ n1_ n2_; replace BK280 := Aside0.mk (blk_drew BK280.out); replace BK283 := Aside0.mk (blk_drew BK283.out); replace HB := Aside0.mk (below_drew1 HB.out); refine start_ (n := 13) (S := fun w' => w'.cell? ⟨gb283, 0, none⟩ = some (.string ((rd_T33 l0_1 x8_1).f0)) ∧ w'.cell? ⟨gb283, 1, none⟩ = some (.int .i64 ((rd_T33 l0_1 x8_1).f1)) ∧ w'.cell? ⟨gb280, 0, none⟩ = some (.slice A0_0 l0_0.length c0_0) ∧ w'.cell? ⟨gb280, 1, none⟩ = some (.slice (some ad282) l0_1.length c0_1)) (ds := []) #[false, false, false, false, false, false, false, false, false, false, false, false, false] (by kernel_rfl) rfl rfl ⟨(blk_cell BK283.out 0).trans rfl, (blk_cell BK283.out 1).trans rfl, (blk_cell BK280.out 0).trans rfl, (blk_cell BK280.out 1).trans rfl⟩ (fun hHeld => ?_); refine with_tabW impl_ValidFlat.tab4 impl_ValidFlat.bits4 (fun HT_ HW_ => ?_); generalize w24.drew = w25 at BK280 BK283 HB hHeld ⊢; refine take_ (i := 0) (N := some 13) (v := ?_) (a' := ?_) #[true, false, false, false, false, false, false, false, false, false, false, false, false] rfl rfl (take_ofW HT_.out HW_.out (by kernel_rfl)) (fun _ _ _ h => h) (Or.inl ⟨by rfl, ?_⟩) hHeld ?_ ?_; rotate_left
         ·rintro w' ⟨s0, s1, s2, s3⟩; go_simp; with_reducible rfl
         rotate_left
         ·simp only [Act.put, List.setIfInBounds_toArray, List.set_cons_zero, List.set_cons_succ, i64_w, i32_w]; rfl
         refine one_ (i := 1) (N := some 14) #[true, true, false, false, false, false, false, false, false, false, false, false, false] rfl rfl (one_of HT_.out (by kernel_rfl)) (by decide) (fun K hK => ?_); refine goes_ Try.func65 (by kernel_rfl) rfl #[.agg #[.string ((rd_T33 l0_1 x8_1).f0), .int .i64 ((rd_T33 l0_1 x8_1).f1)]] (by rfl) rfl rfl zl ?_; with_reducible refine (impl_Pair_valid.calls k1 ((rd_T33 l0_1 x8_1).f0) ((rd_T33 l0_1 x8_1).f1) true _ A7.out).mono ?_; rintro e w26 ⟨rfl, hb⟩; refine ⟨_, rfl, ?_⟩; replace BK280 := Aside0.mk (blk_below (g := gb280) (o := .cells #[.slice A0_0 l0_0.length c0_0, .slice (some ad282) l0_1.length c0_1] 26 (0, 0)) (zb BK280) hb); replace BK283 := Aside0.mk (blk_below (g := gb283) (o := .cells #[.string ((rd_T33 l0_1 x8_1).f0), .int .i64 ((rd_T33 l0_1 x8_1).f1)] 33 (0, 0)) (zb BK283) hb); replace HB := Aside0.mk (below_step (zB HB) hb); (try clear hb); (try clear hb2); (try clear hk); (try clear hi); have q27 : (x8_1 : Int) ≤ ((l0_1.length : Int) : Int) := of_decide_eq_true za; obtain ⟨i027, hi027, _, hsz27, _⟩ := info_parts info33; have hroom27 : l0_1.length ≤ c0_1 := HC0_1.out; have hC27 : Kd.C k33 _ (some ad282) l0_1.length l0_1 := HR0_1.out; have hcut27 := cut_to (P := Try.prog) 24 33 .i64 Try.underlying24 hi027 (some ad282) l0_1.length c0_1 x8_1 (of_decide_eq_true za) q27 hroom27; have hr27 := Kd.C_take (m := (x8_1 : Int).toNat) hC27 (by omega); have hy27 : y285.length = (x8_1 : Int).toNat := (by rw [Ny285.out, List.length_take]; omega)
         rw [← Ny285.out] at hr27; rw [← hy27] at hcut27; have HR288 := Aside0.mk hr27; have HC288 := Aside0.mk (show y285.length ≤ c0_1 from by omega); clear hr27 hC27 hroom27 hi027 hsz27; have KY27 := Aside0.mk hy27; clear hy27; replace q27 := eq_true q27; refine hK.out _ _ ⟨(blk_cell BK283.out 0).trans rfl, (blk_cell BK283.out 1).trans rfl, (blk_cell BK280.out 0).trans rfl, (blk_cell BK280.out 1).trans rfl⟩ (fun hHeld => ?_); clear hK K; refine norm_ (a' := ?_) ?_ ?_; rotate_left
         ·show Act.put _ (some 14) _ = _
          simp only [Act.put, List.setIfInBounds_toArray, List.set_cons_zero, List.set_cons_succ, i64_w, i32_w]; rfl
         refine pure_ (i := 2) (N := some 15) (v := ?_) (a' := ?_) #[true, true, true, false, false, false, false, false, false, false, false, false, false] rfl rfl (any_of HT_.out (by kernel_rfl)) (fun _ _ _ h => h) (Or.inl ⟨by rfl, ?_⟩) ?_ ?_; rotate_left
         ·intro w'; go_simp; with_reducible rfl
         rotate_left
         ·simp only [Act.put, List.setIfInBounds_toArray, List.set_cons_zero, List.set_cons_succ, i64_w, i32_w]; rfl
         refine pure_ (i := 3) (N := some 16) (v := ?_) (a' := ?_) #[true, true, true, true, false, false, false, false, false, false, false, false, false] rfl rfl (any_of HT_.out (by kernel_rfl)) (fun _ _ _ h => h) (Or.inl ⟨by rfl, ?_⟩) ?_ ?_; rotate_left
         ·intro w'; go_simp; with_reducible rfl
         rotate_left
         ·simp only [Act.put, List.setIfInBounds_toArray, List.set_cons_zero, List.set_cons_succ, i64_w, i32_w]; rfl
         refine pure_ (i := 4) (N := some 17) (v := ?_) (a' := ?_) #[true, true, true, true, true, false, false, false, false, false, false, false, false] rfl rfl (any_of HT_.out (by kernel_rfl)) (fun _ _ _ h => h) (Or.inl ⟨by rfl, ?_⟩) ?_ ?_; rotate_left
         ·intro w'; go_simp; with_reducible rfl
         rotate_left
         ·simp only [Act.put, List.setIfInBounds_toArray, List.set_cons_zero, List.set_cons_succ, i64_w, i32_w]; rfl
         refine pure_ (i := 6) (N := some 19) (v := ?_) (a' := ?_) #[true, true, true, true, true, false, true, false, false, false, false, false, false] rfl rfl (any_of HT_.out (by kernel_rfl)) (fun _ _ _ h => h) (Or.inl ⟨by rfl, ?_⟩) ?_ ?_; rotate_left
         ·intro w'; go_simp; with_reducible rfl
         rotate_left
         ·simp only [Act.put, List.setIfInBounds_toArray, List.set_cons_zero, List.set_cons_succ, i64_w, i32_w]; rfl
         refine pure_ (i := 8) (N := some 21) (v := ?_) (a' := ?_) #[true, true, true, true, true, false, true, false, true, false, false, false, false] rfl rfl (any_of HT_.out (by kernel_rfl)) (fun _ _ _ h => h) (Or.inl ⟨by rfl, ?_⟩) ?_ ?_; rotate_left
         ·intro w'; go_simp; with_reducible rfl
         rotate_left
         ·simp only [Act.put, List.setIfInBounds_toArray, List.set_cons_zero, List.set_cons_succ, i64_w, i32_w]; rfl
         refine take_ (i := 5) (N := some 18) (v := ?_) (a' := ?_) #[true, true, true, true, true, true, true, false, true, false, false, false, false] rfl rfl (take_ofW HT_.out HW_.out (by kernel_rfl)) (fun _ _ _ h => h) (Or.inl ⟨by rfl, ?_⟩) hHeld ?_ ?_; rotate_left
         ·rintro w' ⟨s0, s1, s2, s3⟩; go_simp; with_reducible rfl
         rotate_left
         ·simp only [Act.put, List.setIfInBounds_toArray, List.set_cons_zero, List.set_cons_succ, i64_w, i32_w]; rfl
         refine pure_ (i := 7) (N := some 20) (v := ?_) (a' := ?_) #[true, true, true, true, true, true, true, true, true, false, false, false, false] rfl rfl (any_of HT_.out (by kernel_rfl)) (fun _ _ _ h => h) (Or.inl ⟨by rfl, ?_⟩) ?_ ?_; rotate_left
         ·intro w'; go_simp; with_reducible rfl
         rotate_left
         ·simp only [Act.put, List.setIfInBounds_toArray, List.set_cons_zero, List.set_cons_succ, i64_w, i32_w]; rfl
         refine take_ (i := 9) (N := some 22) (v := ?_) (a' := ?_) #[true, true, true, true, true, true, true, true, true, true, false, false, false] rfl rfl (take_ofW HT_.out HW_.out (by kernel_rfl)) (fun _ _ _ h => h) (Or.inl ⟨by rfl, ?_⟩) hHeld ?_ ?_; rotate_left
         ·rintro w' ⟨s0, s1, s2, s3⟩; go_simp; with_reducible rfl
         rotate_left
         ·simp only [Act.put, List.setIfInBounds_toArray, List.set_cons_zero, List.set_cons_succ, i64_w, i32_w]; rfl
         refine one_ (i := 10) (N := some 23) #[true, true, true, true, true, true, true, true, true, true, true, false, false] rfl rfl (one_of HT_.out (by kernel_rfl)) (by decide) (fun K hK => ?_); refine goes_ Try.func66 (by kernel_rfl) rfl #[.slice (some ad282) y285.length c0_1, .string ((rd_T33 l0_1 x8_1).f0)] (by rfl) rfl rfl zl ?_; with_reducible refine (impl_pairAt.calls _ _ y285 ((rd_T33 l0_1 x8_1).f0) t289 _ ?side1 ?side2 A11.out).mono ?_
         (case side1 => repeat (first | exact (Kd.C_below HR288.out HB.out) | (with_reducible refine Kd.C_alloc ?_ _) | (with_reducible refine Kd.C_drewN ?_ _) | (with_reducible refine Kd.C_drew ?_)))
         (case side2 => exact HC288.out)
         rintro e w28 ⟨rfl, hb⟩; refine ⟨_, rfl, ?_⟩; replace BK280 := Aside0.mk (blk_below (g := gb280) (o := .cells #[.slice A0_0 l0_0.length c0_0, .slice (some ad282) l0_1.length c0_1] 26 (0, 0)) (zb BK280) hb); replace BK283 := Aside0.mk (blk_below (g := gb283) (o := .cells #[.string ((rd_T33 l0_1 x8_1).f0), .int .i64 ((rd_T33 l0_1 x8_1).f1)] 33 (0, 0)) (zb BK283) hb); replace HB := Aside0.mk (below_step (zB HB) hb); (try clear hb); (try clear hb2); (try clear hk); (try clear hi); refine hK.out _ _ ⟨(blk_cell BK283.out 0).trans rfl, (blk_cell BK283.out 1).trans rfl, (blk_cell BK280.out 0).trans rfl, (blk_cell BK280.out 1).trans rfl⟩ (fun hHeld => ?_); clear hK K; refine norm_ (a' := ?_) ?_ ?_; rotate_left
         ·show Act.put _ (some 23) _ = _
          simp only [Act.put, List.setIfInBounds_toArray, List.set_cons_zero, List.set_cons_succ, i64_w, i32_w]; rfl
         refine pure_ (i := 11) (N := some 24) (v := ?_) (a' := ?_) #[true, true, true, true, true, true, true, true, true, true, true, true, false] rfl rfl (any_of HT_.out (by kernel_rfl)) (fun _ _ _ h => h) (Or.inl ⟨by rfl, ?_⟩) ?_ ?_; rotate_left
         ·intro w'; go_simp; with_reducible rfl
         rotate_left
         ·simp only [Act.put, List.setIfInBounds_toArray, List.set_cons_zero, List.set_cons_succ, i64_w, i32_w]; rfl
         refine pure_ (i := 12) (N := some 25) (v := ?_) (a' := ?_) #[true, true, true, true, true, true, true, true, true, true, true, true, true] rfl rfl (any_of HT_.out (by kernel_rfl)) (fun _ _ _ h => h) (Or.inl ⟨by rfl, ?_⟩) ?_ ?_; rotate_left
         ·intro w'; go_simp; with_reducible rfl
         rotate_left
         ·simp only [Act.put, List.setIfInBounds_toArray, List.set_cons_zero, List.set_cons_succ, i64_w, i32_w]; rfl
         refine done_ (done_of HT_.out (by kernel_rfl)) ?_
         try go_wp2
         go_roundg k1
         case measure => have := HK1.out; omega
         case rel => exact ⟨(wrap64 (x8_1 + 1)), zr, H', ⟨by have := HK1.out; omega⟩, ⟨zb BK280⟩, ⟨zB HB⟩⟩
       ·rw [if_neg c10] at H; exact absurd H (by simp)
      ·replace c8 := Bool.eq_false_iff.mpr c8; subst c8; rw [if_neg (show ¬ (false = true) by decide)] at H; obtain rfl := Option.some.inj H; have p282 : 0 ≤ (x8_1 : Int) := of_decide_eq_true za; have q282 : x8_1 < (l0_1.length : Int) := of_decide_eq_true za; obtain ⟨ad282, e282, hx282_0, hx282_1⟩ := at_T33 HR0_1.out x8_1 p282 q282
       cases e282
       replace hx282_0 := (HB.out.cell (World.block_lt_of_cell? w _ hx282_0)).trans hx282_0; replace hx282_1 := (HB.out.cell (World.block_lt_of_cell? w _ hx282_1)).trans hx282_1; replace p282 := eq_true p282; replace q282 := eq_true q282
       try go_wp2_with (first | ((with_reducible refine gate_dst (N := 4) rfl ?_); refine zx (N := 4) (cs := #[.string (⟨#[]⟩ : ByteArray), .int .i64 0]) (t := 33) ?_; intro gb283 hg w29 hbox hb; have BK283 := Aside0.mk (hbox); have GW283 := Aside0.mk ((by rw [hg]; exact (below_size (zB HB)) : w.heap.size ≤ gb283)); have GE283 := GW283; replace HB := Aside0.mk (below_step (zB HB) hb); have NB280_283 := Aside0.mk ((by rw [hg]; exact Nat.ne_of_lt (blk_lt (g := gb280) (o := .cells #[.slice A0_0 l0_0.length c0_0, .slice (some ad282) l0_1.length c0_1] 26 (0, 0)) (zb BK280)) : gb280 ≠ gb283)); have NB283_280 := Aside0.mk NB280_283.out.symm; replace BK280 := Aside0.mk (blk_below (g := gb280) (o := .cells #[.slice A0_0 l0_0.length c0_0, .slice (some ad282) l0_1.length c0_1] 26 (0, 0)) (zb BK280) hb); clear hb hbox hg; have hnb30 := NB283_280.out; have hnc30 := NB280_283.out; have hcz31_0 : w29.cell? ⟨gb283, 0, none⟩ = some (.string (⟨#[]⟩ : ByteArray)) := (blk_cell BK283.out 0).trans rfl; have hcz31_1 : w29.cell? ⟨gb283, 1, none⟩ = some (.int .i64 0) := (blk_cell BK283.out 1).trans rfl; have hfz31_0 := blk_frozen BK283.out 0; have hfz31_1 := blk_frozen BK283.out 1))
       have n0_ : Aside0 (((w29.setCell ⟨gb283, 0, none⟩ (.string ((rd_T33 l0_1 x8_1).f0))).setCell ⟨gb283, 1, none⟩ (.int .i64 ((rd_T33 l0_1 x8_1).f1))).heap[gb280]? = some (.cells #[.slice A0_0 l0_0.length c0_0, .slice (some ad282) l0_1.length c0_1] 26 (0, 0))) := ⟨zf BK280⟩
       have n1_ : Aside0 (((w29.setCell ⟨gb283, 0, none⟩ (.string ((rd_T33 l0_1 x8_1).f0))).setCell ⟨gb283, 1, none⟩ (.int .i64 ((rd_T33 l0_1 x8_1).f1))).heap[gb283]? = some (.cells #[.string ((rd_T33 l0_1 x8_1).f0), .int .i64 ((rd_T33 l0_1 x8_1).f1)] 33 (0, 0))) := ⟨by (with_reducible repeat (first | refine blk_drewN ?_ _ | refine blk_drew ?_ | refine blk_alloc ?_ _)); refine blk_put (cs := #[.string ((rd_T33 l0_1 x8_1).f0), .int .i64 0]) ?_ 1 _ rfl; (with_reducible repeat (first | refine blk_drewN ?_ _ | refine blk_drew ?_ | refine blk_alloc ?_ _)); refine blk_put (cs := #[.string (⟨#[]⟩ : ByteArray), .int .i64 0]) ?_ 0 _ rfl; (with_reducible repeat (first | refine blk_drewN ?_ _ | refine blk_drew ?_ | refine blk_alloc ?_ _)); exact BK283.out⟩
       have n2_ : Aside0 (Below w.heap.size w ((w29.setCell ⟨gb283, 0, none⟩ (.string ((rd_T33 l0_1 x8_1).f0))).setCell ⟨gb283, 1, none⟩ (.int .i64 ((rd_T33 l0_1 x8_1).f1)))) := ⟨zB HB⟩
       (try clear BK280); (try clear BK283); (try clear HB); generalize ((w29.setCell ⟨gb283, 0, none⟩ (.string ((rd_T33 l0_1 x8_1).f0))).setCell ⟨gb283, 1, none⟩ (.int .i64 ((rd_T33 l0_1 x8_1).f1))) = w32 at n0_ n1_ n2_ ⊢; have BK280 := n0_; have BK283 := n1_; have HB := n2_; clear n0_ n1_ n2_; replace BK280 := Aside0.mk (blk_drew BK280.out); replace BK283 := Aside0.mk (blk_drew BK283.out); replace HB := Aside0.mk (below_drew1 HB.out); refine start_ (n := 13) (S := fun w' => w'.cell? ⟨gb283, 0, none⟩ = some (.string ((rd_T33 l0_1 x8_1).f0)) ∧ w'.cell? ⟨gb283, 1, none⟩ = some (.int .i64 ((rd_T33 l0_1 x8_1).f1))) (ds := []) #[false, false, false, false, false, false, false, false, false, false, false, false, false] (by kernel_rfl) rfl rfl ⟨(blk_cell BK283.out 0).trans rfl, (blk_cell BK283.out 1).trans rfl⟩ (fun hHeld => ?_); refine with_tabW impl_ValidFlat.tab4 impl_ValidFlat.bits4 (fun HT_ HW_ => ?_); generalize w32.drew = w33 at BK280 BK283 HB hHeld ⊢; refine take_ (i := 0) (N := some 13) (v := ?_) (a' := ?_) #[true, false, false, false, false, false, false, false, false, false, false, false, false] rfl rfl (take_ofW HT_.out HW_.out (by kernel_rfl)) (fun _ _ _ h => h) (Or.inl ⟨by rfl, ?_⟩) hHeld ?_ ?_; rotate_left
       ·rintro w' ⟨s0, s1⟩; go_simp; with_reducible rfl
       rotate_left
       ·simp only [Act.put, List.setIfInBounds_toArray, List.set_cons_zero, List.set_cons_succ, i64_w, i32_w]; rfl
       refine one_ (i := 1) (N := some 14) #[true, true, false, false, false, false, false, false, false, false, false, false, false] rfl rfl (one_of HT_.out (by kernel_rfl)) (by decide) (fun K hK => ?_); refine goes_ Try.func65 (by kernel_rfl) rfl #[.agg #[.string ((rd_T33 l0_1 x8_1).f0), .int .i64 ((rd_T33 l0_1 x8_1).f1)]] (by rfl) rfl rfl zl ?_; with_reducible refine (impl_Pair_valid.calls k1 ((rd_T33 l0_1 x8_1).f0) ((rd_T33 l0_1 x8_1).f1) false _ A7.out).mono ?_; rintro e w34 ⟨rfl, hb⟩; refine ⟨_, rfl, ?_⟩; replace BK280 := Aside0.mk (blk_below (g := gb280) (o := .cells #[.slice A0_0 l0_0.length c0_0, .slice (some ad282) l0_1.length c0_1] 26 (0, 0)) (zb BK280) hb); replace BK283 := Aside0.mk (blk_below (g := gb283) (o := .cells #[.string ((rd_T33 l0_1 x8_1).f0), .int .i64 ((rd_T33 l0_1 x8_1).f1)] 33 (0, 0)) (zb BK283) hb); replace HB := Aside0.mk (below_step (zB HB) hb); (try clear hb); (try clear hb2); (try clear hk); (try clear hi); refine hK.out _ _ ⟨(blk_cell BK283.out 0).trans rfl, (blk_cell BK283.out 1).trans rfl⟩ (fun hHeld => ?_); clear hK K; refine norm_ (a' := ?_) ?_ ?_; rotate_left
       ·show Act.put _ (some 14) _ = _
        simp only [Act.put, List.setIfInBounds_toArray, List.set_cons_zero, List.set_cons_succ, i64_w, i32_w]; rfl
       refine pure_ (i := 2) (N := some 15) (v := ?_) (a' := ?_) #[true, true, true, false, false, false, false, false, false, false, false, false, false] rfl rfl (any_of HT_.out (by kernel_rfl)) (fun _ _ _ h => h) (Or.inl ⟨by rfl, ?_⟩) ?_ ?_; rotate_left
       ·intro w'; go_simp; with_reducible rfl
       rotate_left
       ·simp only [Act.put, List.setIfInBounds_toArray, List.set_cons_zero, List.set_cons_succ, i64_w, i32_w]; rfl
       refine pure_ (i := 3) (N := some 16) (v := ?_) (a' := ?_) #[true, true, true, true, false, false, false, false, false, false, false, false, false] rfl rfl (any_of HT_.out (by kernel_rfl)) (fun _ _ _ h => h) (Or.inl ⟨by rfl, ?_⟩) ?_ ?_; rotate_left
       ·intro w'; go_simp; with_reducible rfl
       rotate_left
       ·simp only [Act.put, List.setIfInBounds_toArray, List.set_cons_zero, List.set_cons_succ, i64_w, i32_w]; rfl
       refine pure_ (i := 4) (N := some 17) (v := undef) (a' := ?_) #[true, true, true, true, true, false, false, false, false, false, false, false, false] rfl rfl (any_of HT_.out (by kernel_rfl)) (fun _ _ _ h => h) (Or.inr ⟨by rfl, rfl⟩) ?_ ?_; rotate_left
       ·simp only [Act.put, List.setIfInBounds_toArray, List.set_cons_zero, List.set_cons_succ, i64_w, i32_w]; rfl
       refine pure_ (i := 5) (N := some 18) (v := undef) (a' := ?_) #[true, true, true, true, true, true, false, false, false, false, false, false, false] rfl rfl (any_of HT_.out (by kernel_rfl)) (fun _ _ _ h => h) (Or.inr ⟨by rfl, rfl⟩) ?_ ?_; rotate_left
       ·simp only [Act.put, List.setIfInBounds_toArray, List.set_cons_zero, List.set_cons_succ, i64_w, i32_w]; rfl
       refine pure_ (i := 6) (N := some 19) (v := undef) (a' := ?_) #[true, true, true, true, true, true, true, false, false, false, false, false, false] rfl rfl (any_of HT_.out (by kernel_rfl)) (fun _ _ _ h => h) (Or.inr ⟨by rfl, rfl⟩) ?_ ?_; rotate_left
       ·simp only [Act.put, List.setIfInBounds_toArray, List.set_cons_zero, List.set_cons_succ, i64_w, i32_w]; rfl
       refine pure_ (i := 7) (N := some 20) (v := undef) (a' := ?_) #[true, true, true, true, true, true, true, true, false, false, false, false, false] rfl rfl (any_of HT_.out (by kernel_rfl)) (fun _ _ _ h => h) (Or.inr ⟨by rfl, rfl⟩) ?_ ?_; rotate_left
       ·simp only [Act.put, List.setIfInBounds_toArray, List.set_cons_zero, List.set_cons_succ, i64_w, i32_w]; rfl
       refine pure_ (i := 8) (N := some 21) (v := undef) (a' := ?_) #[true, true, true, true, true, true, true, true, true, false, false, false, false] rfl rfl (any_of HT_.out (by kernel_rfl)) (fun _ _ _ h => h) (Or.inr ⟨by rfl, rfl⟩) ?_ ?_; rotate_left
       ·simp only [Act.put, List.setIfInBounds_toArray, List.set_cons_zero, List.set_cons_succ, i64_w, i32_w]; rfl
       refine pure_ (i := 9) (N := some 22) (v := undef) (a' := ?_) #[true, true, true, true, true, true, true, true, true, true, false, false, false] rfl rfl (any_of HT_.out (by kernel_rfl)) (fun _ _ _ h => h) (Or.inr ⟨by rfl, rfl⟩) ?_ ?_; rotate_left
       ·simp only [Act.put, List.setIfInBounds_toArray, List.set_cons_zero, List.set_cons_succ, i64_w, i32_w]; rfl
       refine pure_ (i := 10) (N := some 23) (v := undef) (a' := ?_) #[true, true, true, true, true, true, true, true, true, true, true, false, false] rfl rfl (any_of HT_.out (by kernel_rfl)) (fun _ _ _ h => h) (Or.inr ⟨by rfl, rfl⟩) ?_ ?_; rotate_left
       ·simp only [Act.put, List.setIfInBounds_toArray, List.set_cons_zero, List.set_cons_succ, i64_w, i32_w]; rfl
       refine pure_ (i := 11) (N := some 24) (v := undef) (a' := ?_) #[true, true, true, true, true, true, true, true, true, true, true, true, false] rfl rfl (any_of HT_.out (by kernel_rfl)) (fun _ _ _ h => h) (Or.inr ⟨by rfl, rfl⟩) ?_ ?_; rotate_left
       ·simp only [Act.put, List.setIfInBounds_toArray, List.set_cons_zero, List.set_cons_succ, i64_w, i32_w]; rfl
       refine pure_ (i := 12) (N := some 25) (v := ?_) (a' := ?_) #[true, true, true, true, true, true, true, true, true, true, true, true, true] rfl rfl (any_of HT_.out (by kernel_rfl)) (fun _ _ _ h => h) (Or.inl ⟨by rfl, ?_⟩) ?_ ?_; rotate_left
       ·intro w'; go_simp; with_reducible rfl
       rotate_left
       ·simp only [Act.put, List.setIfInBounds_toArray, List.set_cons_zero, List.set_cons_succ, i64_w, i32_w]; rfl
       refine done_ (done_of HT_.out (by kernel_rfl)) ?_
       try go_wp2
       go_ret; exact ⟨by first | rfl | (simp [errW_none, errW_some] <;> rfl) | (simp [*, errW_none, errW_some] <;> rfl), zB HB⟩
     ·rw [if_neg c6] at H; exact absurd H (by simp)
    ·rw [if_neg c5] at H; exact absurd H (by simp)
   ·rw [if_neg c4] at H; have c4b0 : decide (x8_1 < (l0_1.length : Int)) = false := decide_eq_false c4; clear c4
    by_cases c35 : (l0_0.length : Int) ≤ 8
    ·rw [if_pos c35] at H; have c35b0 : decide ((l0_0.length : Int) ≤ 8) = true := decide_eq_true c35; have c35b1 : decide (l0_0.length ≤ 8) = true := decide_eq_true (by omega); clear c35
     by_cases c36 : (l0_1.length : Int) ≤ 8
     ·rw [if_pos c36] at H; have c36b0 : decide ((l0_1.length : Int) ≤ 8) = true := decide_eq_true c36; have c36b1 : decide (l0_1.length ≤ 8) = true := decide_eq_true (by omega); clear c36; replace H := Option.bind_eq_some_iff.mp H; obtain ⟨t281, A370, H⟩ := H
      (try dsimp only at H)
      have A37 := Aside0.mk A370; clear A370; obtain rfl := Option.some.inj H; have hcz38_0 : wr.cell? ⟨gb280, 0, none⟩ = some (.slice A0_0 l0_0.length c0_0) := (blk_cell BK280.out 0).trans rfl; have hcz38_1 : wr.cell? ⟨gb280, 1, none⟩ = some (.slice A0_1 l0_1.length c0_1) := (blk_cell BK280.out 1).trans rfl; have hfz38_0 := blk_frozen BK280.out 0; have hfz38_1 := blk_frozen BK280.out 1; go_wp2_with (first | (go_at_call 67; (with_reducible refine (impl_areValues.calls _ _ l0_0 t281 _ ?side1 ?side2 A37.out).mono ?_); (case side1 => repeat (first | exact (Kd.C_below HR0_0.out HB.out) | (with_reducible refine Kd.C_alloc ?_ _) | (with_reducible refine Kd.C_drewN ?_ _) | (with_reducible refine Kd.C_drew ?_))); (case side2 => exact HC0_0.out); rintro e w39 ⟨rfl, hb⟩; replace BK280 := Aside0.mk (blk_below (g := gb280) (o := .cells #[.slice A0_0 l0_0.length c0_0, .slice A0_1 l0_1.length c0_1] 26 (0, 0)) (zb BK280) hb); replace HB := Aside0.mk (below_step (zB HB) hb); (try clear hb); (try clear hb2); (try clear hk); (try clear hi))); go_ret; exact ⟨by first | rfl | (simp [errW_none, errW_some] <;> rfl) | (simp [*, errW_none, errW_some] <;> rfl), zB HB⟩
     ·rw [if_neg c36] at H; have c36b0 : decide ((l0_1.length : Int) ≤ 8) = false := decide_eq_false c36; have c36b1 : decide (l0_1.length ≤ 8) = false := decide_eq_false (by omega); clear c36; obtain rfl := Option.some.inj H; have hcz40_0 : wr.cell? ⟨gb280, 0, none⟩ = some (.slice A0_0 l0_0.length c0_0) := (blk_cell BK280.out 0).trans rfl; have hcz40_1 : wr.cell? ⟨gb280, 1, none⟩ = some (.slice A0_1 l0_1.length c0_1) := (blk_cell BK280.out 1).trans rfl; have hfz40_0 := blk_frozen BK280.out 0; have hfz40_1 := blk_frozen BK280.out 1; go_wp2; go_ret; exact ⟨by first | rfl | (simp [errW_none, errW_some] <;> rfl) | (simp [*, errW_none, errW_some] <;> rfl), zB HB⟩
    ·rw [if_neg c35] at H; have c35b0 : decide ((l0_0.length : Int) ≤ 8) = false := decide_eq_false c35; have c35b1 : decide (l0_0.length ≤ 8) = false := decide_eq_false (by omega); clear c35; obtain rfl := Option.some.inj H; have hcz41_0 : wr.cell? ⟨gb280, 0, none⟩ = some (.slice A0_0 l0_0.length c0_0) := (blk_cell BK280.out 0).trans rfl; have hcz41_1 : wr.cell? ⟨gb280, 1, none⟩ = some (.slice A0_1 l0_1.length c0_1) := (blk_cell BK280.out 1).trans rfl; have hfz41_0 := blk_frozen BK280.out 0; have hfz41_1 := blk_frozen BK280.out 1; go_wp2; go_ret; exact ⟨by first | rfl | (simp [errW_none, errW_some] <;> rfl) | (simp [*, errW_none, errW_some] <;> rfl), zB HB⟩

end Go.Proofs.Ytfcpbgedgedalaa.Q

namespace Go.Proofs.Ytfcpbgedgedalaa.Q
open Go.RowKit Go.Proofs.YtfcpbgedgedalaaL.PrintWords Go.Proofs.YtfcpbgedgedalaaL.PrintLast Go.Proofs.YtfcpbgedgedalaaL.PrintMore
attribute [local go_sem] max2_int min2_int max_two min_two max_three min_three max_four min_four   -- for this text's walks alone
set_option linter.unusedVariables false
set_option linter.unusedSimpArgs false

/-! ### slices.Grow of nil at int: function 105 -/
set_option maxHeartbeats 8000000 in
set_option maxRecDepth 100000 in
theorem gr105.calls (m : Int) (w : World) (h0 : 0 ≤ m) (hl : m.toNat * 8 ≤ 140737488355328) :
  Calls Try.prog 105 #[.slice none 0 0, .int .i64 m] w fun e w' => ∃ v0_ : Value, e = .returned v0_ ∧ Kd.R (Kd.int .i64) 3 w' w.heap.size (fun _ => True) v0_ [] ∧ Below w.heap.size w w' := by
 have HL := Aside0.mk hl; have hm : m ≤ 140737488355328 := by omega
 clear hl; have h1 : decide (m < 0) = false := by simp; omega
 by_cases hp : 0 < m
 ·go_enter Try.func105, Try.ntmps105; go_wp2_with (first | ((with_reducible refine gate_dst (N := 22) rfl ?_); refine Kd.R_append_zeros (Kd.int .i64) (w0 := w) w.heap.size (by rfl) (.tmp 20) (.tmp 21) 23 3 3 (.int .i64 0) 8 rfl Try.underlying23 Try.underlying3 info3 rfl (by decide) (by decide) (.slice none 0 0) ([] : List (Int)) 0 m (fun _ => True) rfl rfl rfl (fun _ _ => trivial) (Kd.R_nil _ _ _ _ _) h0 (px_refl _) (Nat.le_refl _) ?aL ?_; (case aL => simpa using HL.out); intro v7 w7 ho7 hb7 hg_ hnew_; clear hg_ hnew_; obtain ⟨A7, c7, rfl⟩ := Kd.R_slice ho7; have hn7 := (Kd.R_reads' ho7).2.1; have HO7 := Aside0.mk ho7; have HB7 := Aside0.mk hb7; clear ho7 hb7)); go_ret; exact ⟨_, rfl, by simpa using Kd.R_take (m := 0) HO7.out (Nat.zero_le _), HB7.out⟩
 ·have : m = 0 := by omega
  subst this; go_enter Try.func105, Try.ntmps105; go_wp2; go_ret; exact ⟨_, rfl, Kd.R_nil _ _ _ _ _, px_refl _⟩
/-! ### slices_Concat_int_int: function 54 (a contract of our own) -/
def slices_Concat_int_int.f (l0 : List (List Int)) : Option (List Int) := if l0.flatten.length * 8 ≤ 140737488355328 then some l0.flatten else none
set_option maxHeartbeats 8000000 in
set_option maxRecDepth 100000 in
theorem slices_Concat_int_int.calls (A0 : Option Addr) (c0 : Nat) (l0 : List (List Int)) (r : List Int) (w : World) (hr0 : Kd.C (Kd.slice 3 (Kd.int .i64)) w A0 l0.length l0) (hc0 : l0.length ≤ c0) (h : slices_Concat_int_int.f l0 = some r) :
  Calls Try.prog 54 #[.slice A0 l0.length c0] w fun e w' => ∃ v0_ : Value, e = .returned (v0_) ∧ Kd.R (Kd.int .i64) 3 w' w.heap.size (fun _ => True) v0_ r ∧ Below w.heap.size w w' := by
 have hl : l0.flatten.length * 8 ≤ 140737488355328 := by unfold slices_Concat_int_int.f at h; split at h; assumption; cases h
 have hr : r = l0.flatten := by unfold slices_Concat_int_int.f at h; rw [if_pos hl] at h; exact (Option.some.inj h).symm
 subst hr; clear h; have HR := Aside0.mk hr0; clear hr0; have hbig : l0.length ≤ 9223372036854775807 := HR.out.2.1; have hfb : l0.flatten.length ≤ 140737488355328 := by omega
 go_enter Try.func54, Try.ntmps54; go_wp2; go_loopg [3, 11] l0.length (fun gg v3 v11 wr => ∃ kk : Nat, kk ≤ l0.length ∧ l0.length - kk ≤ gg ∧ v3 = .int .i64 ((l0.take kk).flatten.length : Nat) ∧ v11 = .int .i64 kk ∧ Aside0 (Below w.heap.size w wr))
 case atStart => exact ⟨0, Nat.zero_le _, by omega, by simp, rfl, ⟨px_refl _⟩⟩
 case round =>
  obtain ⟨kk, hkk, hg, rfl, rfl, BW⟩ := hrel
  by_cases hlt : kk < l0.length
  ·have hltz : (kk : Int) < (l0.length : Int) := by omega
   have hz0 : (0 : Int) ≤ (kk : Int) := by omega
   obtain ⟨ad, A1, c1, e, hx0, hl1, hC1⟩ := at_L4 (Kd.C_below HR.out BW.out) (kk : Int) hz0 hltz; simp only [Int.toNat_natCast] at hx0
   cases e
   have hft := px_flat_take l0 kk hlt []; have hle := px_flat_le l0 (kk + 1); rw [hft, List.length_append] at hle; rw [show rd_L4 l0 (kk : Int) = l0.getD kk [] from rfl] at hx0 hl1; have HF := Aside0.mk (show (l0.take (kk + 1)).flatten.length = (l0.take kk).flatten.length + (l0.getD kk []).length by rw [hft, List.length_append]); clear hft hC1; generalize (l0.getD kk []).length = n1 at *; generalize (l0.take kk).flatten.length = n0 at *; have hb1 : (n0 : Int) + (n1 : Int) ≤ 140737488355328 := by omega
   have hb2 : decide ((n0 : Int) + (n1 : Int) < 0) = false := by simp; omega
   go_wp2; go_roundg (l0.length - (kk + 1))
   case measure => omega
   case rel => exact ⟨kk + 1, by omega, by omega, by rw [HF.out]; simp, by go_num, BW⟩
  ·have : kk = l0.length := by omega
   subst this; have HT := Aside0.mk (show (l0.take l0.length).flatten.length = l0.flatten.length by rw [List.take_length]); rw [HT.out]; generalize hfl : l0.flatten.length = fl at *; have HFL := Aside0.mk hfl; clear hfl; have hltz : ¬ (l0.length : Int) < (l0.length : Int) := by omega
   go_wp2_with fail; refine (gr105.calls (fl : Int) _ (by omega) (by simpa using hl)).mono ?_; rintro e w1 ⟨v1, rfl, hv1, hb1⟩; have HO1 := Aside0.mk hv1; have HB1 := Aside0.mk (below_then BW.out BW.out.size hb1); have HO1' := Aside0.mk (Kd.R_lower HO1.out BW.out.size); clear hv1 hb1 HO1; go_wp2; go_loopg [6, 27] l0.length (fun gg v6 v27 wr => ∃ kk : Nat, kk ≤ l0.length ∧ l0.length - kk ≤ gg ∧ v27 = .int .i64 kk ∧ Aside0 (Kd.R (Kd.int .i64) 3 wr w.heap.size (fun _ => True) v6 (l0.take kk).flatten) ∧ Aside0 (Below w.heap.size w wr))
   case atStart => exact ⟨0, Nat.zero_le _, by omega, rfl, ⟨HO1'.out⟩, HB1⟩
   case round =>
    clear HO1' HB1 BW; obtain ⟨kk, hkk, hg, rfl, HO, BW⟩ := hrel
    by_cases hlt : kk < l0.length
    ·have hltz : (kk : Int) < (l0.length : Int) := by omega
     have hz0 : (0 : Int) ≤ (kk : Int) := by omega
     obtain ⟨ad, A1, c1, e, hx0, hl1, hC1⟩ := at_L4 (Kd.C_below HR.out BW.out) (kk : Int) hz0 hltz; simp only [Int.toNat_natCast] at hx0
     cases e
     have hft := px_flat_take l0 kk hlt []; have hle := px_flat_le l0 (kk + 1); rw [hft, List.length_append] at hle; rw [show rd_L4 l0 (kk : Int) = l0.getD kk [] from rfl] at hx0 hl1 hC1; generalize l0.getD kk [] = y at *; have HF := Aside0.mk hft; have HLe := Aside0.mk hle; have HC1 := Aside0.mk hC1; clear hft hC1 hle; have hFL := HFL.out; clear HFL; go_wp2_with (first | ((with_reducible refine gate_dst (N := 33) rfl ?_); refine Kd.R_append_rows (Kd.int .i64) (Rr := (Kd.int .i64).K wr) (w0 := w) w.heap.size (by rfl) (.tmp 31) (.tmp 32) 23 3 (.int .i64 0) 8 rfl Try.underlying23 info3 rfl (by decide) (by omega) _ (l0.take kk).flatten y _ _ _ (fun _ => True) (fun _ => False) rfl rfl HO.out HC1.out (fun _ _ h => h) (fun _ h => h.elim) (fun _ _ => trivial) BW.out BW.out.size ?aL ?_; (case aL => have := HLe.out; omega); intro v7 w7 ho7 hb7 hg_ hnew_; clear hg_ hnew_; have HO7 := Aside0.mk ho7; have HB7 := Aside0.mk hb7; clear ho7 hb7)); go_roundg (l0.length - (kk + 1))
     case measure => omega
     case rel => exact ⟨kk + 1, by omega, by omega, by go_num, ⟨by rw [HF.out]; exact HO7.out⟩, HB7⟩
    ·have : kk = l0.length := by omega
     subst this; have hltz : ¬ (l0.length : Int) < (l0.length : Int) := by omega
     go_wp2; go_ret; exact ⟨_, rfl, by have h := HO.out; rwa [List.take_length] at h, BW.out⟩

/-! ### slices_Clip_int_int: function 114 (a contract of our own) -/
def slices_Clip_int_int.f (l0 : List (Int)) : Option (List (Int)) := some l0
set_option maxHeartbeats 8000000 in
set_option maxRecDepth 100000 in
theorem slices_Clip_int_int.calls (P0_ : Nat → Prop) (u9000_ : Value) (l0 : List (Int)) (r : List (Int)) (w0 w : World) (hB : Below w0.heap.size w0 w) (ho0 : Kd.R (Kd.int .i64) 3 w w0.heap.size P0_ u9000_ l0) (h : slices_Clip_int_int.f l0 = some r) :
  Calls Try.prog 114 #[u9000_] w fun e w' => ∃ v0_ : Value, e = .returned (v0_) ∧ Kd.R (Kd.int .i64) 3 w' w0.heap.size (fun k_ => (P0_ k_ ∨ w.heap.size ≤ k_)) v0_ r ∧ Below w0.heap.size w0 w' ∧ Kept w w' (fun k_ => P0_ k_) := by
 obtain rfl := Option.some.inj h; clear h; obtain ⟨A0, c0, rfl⟩ := Kd.R_slice ho0; obtain ⟨_, hl, hC⟩ := Kd.R_reads' ho0; have hbig : l0.length ≤ 9223372036854775807 := hC.2.1; have HO := Aside0.mk ho0; have HB := Aside0.mk hB; clear ho0 hB hC; go_enter Try.func114, Try.ntmps114; go_wp2; go_ret; exact ⟨_, rfl, Kd.R_mono (Kd.R_clip HO.out (Nat.le_refl _) hl) (fun _ h => .inl h), HB.out, Kept.refl _ _⟩

end Go.Proofs.Ytfcpbgedgedalaa.Q
