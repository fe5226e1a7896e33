-- written by px.py (a program of this claim's), over the kit's print. Not trusted: Lean checks it.
import Derived.Test.YtfcpbgedgedalaaQ0
import Derived.Test.YtfcpbgedgedalaaQ4
import Derived.Test.YtfcpbgedgedalaaQ9
import Derived.Test.YtfcpbgedgedalaaQ79
namespace Go.Proofs.Ytfcpbgedgedalaa.Q
open Go.RowKit Go.Proofs.YtfcpbgedgedalaaL.PrintWords Go.Proofs.YtfcpbgedgedalaaL.PrintLast Go.Proofs.YtfcpbgedgedalaaL.PrintMore
attribute [local go_sem] max2_int min2_int max_two min_two max_three min_three max_four min_four   -- for this text's walks alone
set_option linter.unusedVariables false
set_option linter.unusedSimpArgs false

theorem zi129_80 {w0 W W' : World} {g : Nat} {f0 f0' : List Int} {f1 f1' : Int} (h : Aside0 (IsS129 w0 W g f0 f1)) (i : IsS129 w0 W g f0 f1 → IsS129 w0 W' g f0' f1' := by intro hh_; repeat (first | (with_reducible first | exact hh_ | apply IsS129.alloc | apply IsS129.drewN | apply IsS129.drew | apply IsS129.set_1 | refine IsS129.far ?_ (Aside0.out (by assumption)) _) | exact hh_)) : IsS129 w0 W' g f0' f1' := i h.out
/-! ### spec_someTurns: function 89 -/
def spec_someTurns.j0 : Nat → List (S107) → Bool → List Int → Int → Option ((List (S107)) × Int)
 | 0, _, _, _, _ => none
 | k + 1, x3, x14, x1000, x1001 => if x14 = true then ((spec_reader_pick.f k x1000 x1001 (x3.length : Int)).bind fun bt822 => ((spec_reader_pick.f k x1000 bt822.2 2).bind fun bt824 => (if bt824.1 = 0 then ((spec_anyName.f k x1000 bt824.2).bind fun bt826 => (if 0 ≤ bt822.1 then (if bt822.1 < (x3.length : Int) then (some ((x3.set (bt822.1 : Int).toNat (⟨(rd_T107 x3 bt822.1).f0, bt826.1⟩ : S107)), bt826.2)) else (none)) else (none))) else ((spec_anyName.f k x1000 bt824.2).bind fun bt829 => (if 0 ≤ bt822.1 then (if bt822.1 < (x3.length : Int) then (some ((x3.set (bt822.1 : Int).toNat (⟨bt829.1, (rd_T107 x3 bt822.1).f1⟩ : S107)), bt829.2)) else (none)) else (none)))))) else (some (x3, x1001))
def spec_someTurns.f (k : Nat) (s0_0 : List Int) (s0_1 : Int) : Option ((List (S107)) × Int) := (spec_goodTurns.f k s0_0 s0_1).bind fun bt816 => (if (bt816.1.length : Int) > 0 then ((spec_reader_pick.f k s0_0 bt816.2 12).bind fun bt820 => (spec_someTurns.j0 k bt816.1 (bt820.1 == 0) s0_0 bt820.2)) else (spec_someTurns.j0 k bt816.1 false s0_0 bt816.2))
theorem spec_someTurns.mono_l : ∀ k, (∀ y0 y1 y2 y3, LeO (spec_someTurns.j0 k y0 y1 y2 y3) (spec_someTurns.j0 (k + 1) y0 y1 y2 y3))
 | 0 => fun _ _ _ _ r h => by simp [spec_someTurns.j0] at h
 | k + 1 => by
  have ih0 := spec_someTurns.mono_l k
  ·intro y0 y1 y2 y3
   unfold spec_someTurns.j0
   repeat' first
   | (with_reducible exact ih0 _ _ _ _)
   | (with_reducible exact spec_anyName.mono _ _ _)
   | (with_reducible exact spec_goodTurns.mono _ _ _)
   | (with_reducible exact spec_reader_pick.mono _ _ _ _)
   | (with_reducible exact LeO.refl _)
   | (with_reducible exact LeO.none _)
   | (with_reducible refine LeO.ite ?_ ?_)
   | (with_reducible refine LeO.bind ?_ (fun _ => ?_))
   | exact ih0 _ _ _ _
   | exact spec_anyName.mono _ _ _
   | exact spec_goodTurns.mono _ _ _
   | exact spec_reader_pick.mono _ _ _ _
   | exact LeO.none _
   | refine LeO.ite ?_ ?_
   | refine LeO.bind ?_ (fun _ => ?_)
theorem spec_someTurns.mono : ∀ a0 a1 k, LeO (spec_someTurns.f k a0 a1) (spec_someTurns.f (k + 1) a0 a1) := by
 intro a0 a1 k
 have ih0 := spec_someTurns.mono_l k
 unfold spec_someTurns.f
 repeat' first
   | (with_reducible exact ih0 _ _ _ _)
   | (with_reducible exact spec_anyName.mono _ _ _)
   | (with_reducible exact spec_goodTurns.mono _ _ _)
   | (with_reducible exact spec_reader_pick.mono _ _ _ _)
   | (with_reducible exact LeO.refl _)
   | (with_reducible exact LeO.none _)
   | (with_reducible refine LeO.ite ?_ ?_)
   | (with_reducible refine LeO.bind ?_ (fun _ => ?_))
   | exact ih0 _ _ _ _
   | exact spec_anyName.mono _ _ _
   | exact spec_goodTurns.mono _ _ _
   | exact spec_reader_pick.mono _ _ _ _
   | exact LeO.none _
   | refine LeO.ite ?_ ?_
   | refine LeO.bind ?_ (fun _ => ?_)
set_option maxHeartbeats 8000000 in
set_option maxRecDepth 100000 in
theorem spec_someTurns.calls (k : Nat) (g : Nat) (s0_0 : List Int) (s0_1 : Int) (r1 : List (S107)) (r2 : Int) (w0 w : World) (hI : IsS129 w0 w g s0_0 s0_1) (hB : Below w0.heap.size w0 w) (h : spec_someTurns.f k s0_0 s0_1 = some (r1, r2)) :
  Calls Try.prog 89 #[.pointer (some ⟨g, 0, none⟩)] w fun e w' => ∃ v0_ : Value, e = .returned (v0_) ∧ Kd.R k107 107 w' w.heap.size (fun _ => True) v0_ r1 ∧ IsS129 w0 w' g s0_0 r2 ∧ Below w0.heap.size w0 w' ∧ KeepBut w w' g none := by
 have HI0 := Aside0.mk hI
 have HK := Aside0.mk (KeepBut.refl w g none)
 have HL := Aside0.mk hB.size
 clear hI
 have HW0 := Aside0.mk hB.size
 have HB := Aside0.mk hB
 clear hB
 have H : ((spec_goodTurns.f k s0_0 s0_1).bind fun bt816 => (if (bt816.1.length : Int) > 0 then ((spec_reader_pick.f k s0_0 bt816.2 12).bind fun bt820 => (spec_someTurns.j0 k bt816.1 (bt820.1 == 0) s0_0 bt820.2)) else (spec_someTurns.j0 k bt816.1 false s0_0 bt816.2))) = some (r1, r2) := h
 clear h
 replace H := Option.bind_eq_some_iff.mp H
 obtain ⟨⟨t816, t819⟩, A20, H⟩ := H
 replace H : (if (t816.length : Int) > 0 then ((spec_reader_pick.f k s0_0 t819 12).bind fun bt820 => (spec_someTurns.j0 k t816 (bt820.1 == 0) s0_0 bt820.2)) else (spec_someTurns.j0 k t816 false s0_0 t819)) = some (r1, r2) := H
 have A2 := Aside0.mk A20
 clear A20
 have HC3 := Aside0.mk H
 clear H
 go_enter Try.func89, Try.ntmps89
 go_upto_region 2 with (first | ((with_reducible refine gate_callee (f := 133) rfl ?_); refine goesL_ (some 6) rfl rfl Try.func133 (by kernel_rfl) rfl #[.pointer (some ⟨g, 0, none⟩)] rfl zl ?_; (with_reducible refine (spec_goodTurns.calls k g s0_0 s0_1 t816 t819 w0 _ ?side1 ?side2 A2.out).mono ?_); (case side1 => repeat (first | (with_reducible first | exact HI0.out | apply IsS129.alloc | apply IsS129.drewN | apply IsS129.drew | apply IsS129.set_1) | exact HI0.out)); (case side2 => repeat (first | (with_reducible first | exact HB.out | apply below_alloc | apply pw_below_drewN | apply below_drew1 | refine below_set ?_ (IsS129.ge HI0.out)) | exact HB.out)); rintro e w4 ⟨v817, rfl, ho0, hi, hb, hk⟩; refine ⟨_, rfl, ?_⟩; have n0_ := Aside0.mk (Kd.R_lower ho0 (keep_size (w := w) (g := g) (row := none) (zk HK))); have n1_ := Aside0.mk (KeepBut.trans (zk HK) hk (.inl rfl)); have n2_ := Aside0.mk (hb); have n3_ := Aside0.mk (hi); clear HK; clear HB; clear HI0; have HO818 := n0_; have HK := n1_; have HB := n2_; have HI0 := n3_; clear n0_ n1_ n2_ n3_; (try clear hb); (try clear hb2); (try clear hk); (try clear hi); (try clear ho0)))
 (try simp only [Act.put, List.setIfInBounds_toArray, List.set_cons_zero, List.set_cons_succ])
 go_cut [14] (fun v14 wc => ∃ (kq : Nat) (x14_2 : Bool) (x1001_2 : Int), v14 = .bool x14_2 ∧ Aside0 (spec_someTurns.j0 kq t816 x14_2 s0_0 x1001_2 = some (r1, r2)) ∧ Aside0 (kq ≤ k) ∧ Aside0 (Kd.R k107 107 wc w.heap.size (fun _ => True) v817 t816) ∧ Aside0 (IsS129 w0 wc g s0_0 x1001_2) ∧ Aside0 (KeepBut w wc g none) ∧ Aside0 (Below w0.heap.size w0 wc))
 case first =>
  have H := HC3.out
  clear HC3
  by_cases c5 : (t816.length : Int) > 0
  ·rw [if_pos c5] at H
   have c5b0 : decide (0 < (t816.length : Int)) = true := decide_eq_true c5
   have c5b1 : decide (0 < t816.length) = true := decide_eq_true (by omega)
   clear c5
   (first | rw [c5b0] | (simp only [i64_w, i32_w]; rw [c5b0]) | skip)
   replace H := Option.bind_eq_some_iff.mp H
   obtain ⟨⟨t820, t821⟩, A60, H⟩ := H
   replace H : (spec_someTurns.j0 k t816 (t820 == 0) s0_0 t821) = some (r1, r2) := H
   have A6 := Aside0.mk A60
   clear A60
   have H' := Aside0.mk H
   clear H
   obtain ⟨Ao7, co7, eo7⟩ := Kd.R_slice HO818.out
   subst eo7
   go_wp2_with (first | (go_at_call 90; (with_reducible refine (spec_reader_pick.calls k g s0_0 t819 12 t820 t821 w0 _ ?side1 ?side2 A6.out).mono ?_); (case side1 => repeat (first | (with_reducible first | exact HI0.out | apply IsS129.alloc | apply IsS129.drewN | apply IsS129.drew | apply IsS129.set_1) | exact HI0.out)); (case side2 => repeat (first | (with_reducible first | exact HB.out | apply below_alloc | apply pw_below_drewN | apply below_drew1 | refine below_set ?_ (IsS129.ge HI0.out)) | exact HB.out)); rintro e w8 ⟨rfl, hi, hb, hk⟩; have n0_ := Aside0.mk (Kd.R_mono (Kd.R_keep (IsS129.apart (show IsS129 w0 _ g s0_0 t819 from by repeat (first | (with_reducible first | exact HI0.out | apply IsS129.alloc | apply IsS129.drewN | apply IsS129.drew | apply IsS129.set_1) | exact HI0.out)) (zo HO818) (by decide)) hk (fun _ h => h.2)) (fun _ h => h.1)); have n1_ := Aside0.mk (KeepBut.trans (zk HK) hk (.inl rfl)); have n2_ := Aside0.mk (hb); have n3_ := Aside0.mk (hi); clear HO818; clear HK; clear HB; clear HI0; have HO818 := n0_; have HK := n1_; have HB := n2_; have HI0 := n3_; clear n0_ n1_ n2_ n3_; (try clear hb); (try clear hb2); (try clear hk); (try clear hi)))
   go_meet
   case rel => exact ⟨_, ((t820 == 0)), (t821), zr, H', ⟨by first | omega | exact Nat.le_refl _⟩, ⟨by (with_reducible repeat (first | apply Kd.R_alloc | apply Kd.R_drewN | apply Kd.R_drew)); exact HO818.out⟩, ⟨by repeat (first | (with_reducible first | exact HI0.out | apply IsS129.alloc | apply IsS129.drewN | apply IsS129.drew | apply IsS129.set_1) | exact HI0.out)⟩, ⟨by repeat (first | (with_reducible first | exact HK.out | apply KeepBut.set_ | apply keep_drewN | apply keep_drew | apply keep_alloc) | exact HK.out)⟩, ⟨by repeat (first | (with_reducible first | exact HB.out | apply below_alloc | apply pw_below_drewN | apply below_drew1 | refine below_set ?_ (IsS129.ge HI0.out)) | exact HB.out)⟩⟩
  ·rw [if_neg c5] at H
   have c5b0 : decide (0 < (t816.length : Int)) = false := decide_eq_false c5
   have c5b1 : decide (0 < t816.length) = false := decide_eq_false (by omega)
   clear c5
   (first | rw [c5b0] | (simp only [i64_w, i32_w]; rw [c5b0]) | skip)
   have H' := Aside0.mk H
   clear H
   obtain ⟨Ao9, co9, eo9⟩ := Kd.R_slice HO818.out
   subst eo9
   go_wp2
   go_meet
   case rel => exact ⟨_, (false), (t819), zr, H', ⟨by first | omega | exact Nat.le_refl _⟩, ⟨by (with_reducible repeat (first | apply Kd.R_alloc | apply Kd.R_drewN | apply Kd.R_drew)); exact HO818.out⟩, ⟨by repeat (first | (with_reducible first | exact HI0.out | apply IsS129.alloc | apply IsS129.drewN | apply IsS129.drew | apply IsS129.set_1) | exact HI0.out)⟩, ⟨by repeat (first | (with_reducible first | exact HK.out | apply KeepBut.set_ | apply keep_drewN | apply keep_drew | apply keep_alloc) | exact HK.out)⟩, ⟨by repeat (first | (with_reducible first | exact HB.out | apply below_alloc | apply pw_below_drewN | apply below_drew1 | refine below_set ?_ (IsS129.ge HI0.out)) | exact HB.out)⟩⟩
 case rest =>
  clear HC3
  try clear c1
  try clear p2
  try clear c5
  try clear c5b0
  try clear c5b1
  try clear c8
  obtain ⟨kq, x14_2, x1001_2, rfl, HA, HJ2, HO_3, HI0, HK, HB⟩ := hcut
  cases kq with
  | zero => exact absurd HA.out (by simp [spec_someTurns.j0])
  | succ kj2 =>
   have H := HA.out
   clear HA
   simp only [spec_someTurns.j0] at H
   by_cases c10 : x14_2 = true
   ·subst c10
    have H1 : ((spec_reader_pick.f kj2 s0_0 x1001_2 (t816.length : Int)).bind fun bt822 => ((spec_reader_pick.f kj2 s0_0 bt822.2 2).bind fun bt824 => (if bt824.1 = 0 then ((spec_anyName.f kj2 s0_0 bt824.2).bind fun bt826 => (if 0 ≤ bt822.1 then (if bt822.1 < (t816.length : Int) then (some ((t816.set (bt822.1 : Int).toNat (⟨(rd_T107 t816 bt822.1).f0, bt826.1⟩ : S107)), bt826.2)) else (none)) else (none))) else ((spec_anyName.f kj2 s0_0 bt824.2).bind fun bt829 => (if 0 ≤ bt822.1 then (if bt822.1 < (t816.length : Int) then (some ((t816.set (bt822.1 : Int).toNat (⟨bt829.1, (rd_T107 t816 bt822.1).f1⟩ : S107)), bt829.2)) else (none)) else (none)))))) = some (r1, r2) := by rw [if_pos rfl] at H; exact H
    clear H
    have H := H1
    clear H1
    replace H := Option.bind_eq_some_iff.mp H
    obtain ⟨⟨t822, t823⟩, A110, H⟩ := H
    replace H : ((spec_reader_pick.f kj2 s0_0 t823 2).bind fun bt824 => (if bt824.1 = 0 then ((spec_anyName.f kj2 s0_0 bt824.2).bind fun bt826 => (if 0 ≤ t822 then (if t822 < (t816.length : Int) then (some ((t816.set (t822 : Int).toNat (⟨(rd_T107 t816 t822).f0, bt826.1⟩ : S107)), bt826.2)) else (none)) else (none))) else ((spec_anyName.f kj2 s0_0 bt824.2).bind fun bt829 => (if 0 ≤ t822 then (if t822 < (t816.length : Int) then (some ((t816.set (t822 : Int).toNat (⟨bt829.1, (rd_T107 t816 t822).f1⟩ : S107)), bt829.2)) else (none)) else (none))))) = some (r1, r2) := H
    have A11 := Aside0.mk A110
    clear A110
    replace H := Option.bind_eq_some_iff.mp H
    obtain ⟨⟨t824, t825⟩, A120, H⟩ := H
    replace H : (if t824 = 0 then ((spec_anyName.f kj2 s0_0 t825).bind fun bt826 => (if 0 ≤ t822 then (if t822 < (t816.length : Int) then (some ((t816.set (t822 : Int).toNat (⟨(rd_T107 t816 t822).f0, bt826.1⟩ : S107)), bt826.2)) else (none)) else (none))) else ((spec_anyName.f kj2 s0_0 t825).bind fun bt829 => (if 0 ≤ t822 then (if t822 < (t816.length : Int) then (some ((t816.set (t822 : Int).toNat (⟨bt829.1, (rd_T107 t816 t822).f1⟩ : S107)), bt829.2)) else (none)) else (none)))) = some (r1, r2) := H
    have A12 := Aside0.mk A120
    clear A120
    by_cases c13 : t824 = 0
    ·rw [if_pos c13] at H
     have c13b0 : (t824 == 0) = true := beq_iff_eq.mpr c13
     have c13b1 : (t824 != 0) = false := bne_eq_false_iff_eq.mpr c13
     clear c13
     replace H := Option.bind_eq_some_iff.mp H
     obtain ⟨⟨t826, t827⟩, A140, H⟩ := H
     replace H : (if 0 ≤ t822 then (if t822 < (t816.length : Int) then (some ((t816.set (t822 : Int).toNat (⟨(rd_T107 t816 t822).f0, t826⟩ : S107)), t827)) else (none)) else (none)) = some (r1, r2) := H
     have A14 := Aside0.mk A140
     clear A140
     by_cases c15 : 0 ≤ t822
     ·rw [if_pos c15] at H
      have c15b0 : decide (0 ≤ t822) = true := decide_eq_true c15
      clear c15
      by_cases c16 : t822 < (t816.length : Int)
      ·rw [if_pos c16] at H
       have c16b0 : decide (t822 < (t816.length : Int)) = true := decide_eq_true c16
       clear c16
       obtain ⟨y828, hy828⟩ : ∃ y_ : List (S107), y_ = (t816.set (t822 : Int).toNat (⟨(rd_T107 t816 t822).f0, t826⟩ : S107)) := ⟨_, rfl⟩
       replace H : (some (y828, t827)) = some (r1, r2) := by first | (rw [hy828]; with_reducible exact H) | (have H2_ := (Option.bind_some _ _).symm.trans H; rw [hy828]; with_reducible exact H2_) | (have H2_ := (Option.bind_some _ _).symm.trans H; with_reducible exact H2_) | with_reducible exact H | (rw [hy828]; exact H) | exact H
       have Ny828 := Aside0.mk hy828
       clear hy828
       simp only [Option.some.injEq, Prod.mk.injEq] at H
       obtain ⟨rfl, rfl⟩ := H
       obtain ⟨Ao18, co18, eo18⟩ := Kd.R_slice HO_3.out
       subst eo18
       go_wp2_with (first | ((with_reducible refine gate_callee (f := 90) rfl ?_); refine goesL_ (some 18) rfl rfl Try.func90 (by kernel_rfl) rfl #[.pointer (some ⟨g, 0, none⟩), .int .i64 (t816.length : Int)] rfl zl ?_; (with_reducible refine (spec_reader_pick.calls kj2 g s0_0 x1001_2 (t816.length : Int) t822 t823 w0 _ ?side1 ?side2 A11.out).mono ?_); (case side1 => repeat (first | (with_reducible first | exact HI0.out | apply IsS129.alloc | apply IsS129.drewN | apply IsS129.drew | apply IsS129.set_1) | exact HI0.out)); (case side2 => repeat (first | (with_reducible first | exact HB.out | apply below_alloc | apply pw_below_drewN | apply below_drew1 | refine below_set ?_ (IsS129.ge HI0.out)) | exact HB.out)); rintro e w19 ⟨rfl, hi, hb, hk⟩; refine ⟨_, rfl, ?_⟩; have n0_ := Aside0.mk (Kd.R_mono (Kd.R_keep (IsS129.apart (show IsS129 w0 _ g s0_0 x1001_2 from by repeat (first | (with_reducible first | exact HI0.out | apply IsS129.alloc | apply IsS129.drewN | apply IsS129.drew | apply IsS129.set_1) | exact HI0.out)) (zo HO_3) (by decide)) hk (fun _ h => h.2)) (fun _ h => h.1)); have n1_ := Aside0.mk (KeepBut.trans (zk HK) hk (.inl rfl)); have n2_ := Aside0.mk (hb); have n3_ := Aside0.mk (hi); clear HO_3; clear HK; clear HB; clear HI0; have HO_3 := n0_; have HK := n1_; have HB := n2_; have HI0 := n3_; clear n0_ n1_ n2_ n3_; (try clear hb); (try clear hb2); (try clear hk); (try clear hi)) | ((with_reducible refine gate_callee (f := 90) rfl ?_); refine goesL_ (some 20) rfl rfl Try.func90 (by kernel_rfl) rfl #[.pointer (some ⟨g, 0, none⟩), .int .i64 2] rfl zl ?_; (with_reducible refine (spec_reader_pick.calls kj2 g s0_0 t823 2 t824 t825 w0 _ ?side1 ?side2 A12.out).mono ?_); (case side1 => repeat (first | (with_reducible first | exact HI0.out | apply IsS129.alloc | apply IsS129.drewN | apply IsS129.drew | apply IsS129.set_1) | exact HI0.out)); (case side2 => repeat (first | (with_reducible first | exact HB.out | apply below_alloc | apply pw_below_drewN | apply below_drew1 | refine below_set ?_ (IsS129.ge HI0.out)) | exact HB.out)); rintro e w20 ⟨rfl, hi, hb, hk⟩; refine ⟨_, rfl, ?_⟩; have n0_ := Aside0.mk (Kd.R_mono (Kd.R_keep (IsS129.apart (show IsS129 w0 _ g s0_0 t823 from by repeat (first | (with_reducible first | exact HI0.out | apply IsS129.alloc | apply IsS129.drewN | apply IsS129.drew | apply IsS129.set_1) | exact HI0.out)) (zo HO_3) (by decide)) hk (fun _ h => h.2)) (fun _ h => h.1)); have n1_ := Aside0.mk (KeepBut.trans (zk HK) hk (.inl rfl)); have n2_ := Aside0.mk (hb); have n3_ := Aside0.mk (hi); clear HO_3; clear HK; clear HB; clear HI0; have HO_3 := n0_; have HK := n1_; have HB := n2_; have HI0 := n3_; clear n0_ n1_ n2_ n3_; (try clear hb); (try clear hb2); (try clear hk); (try clear hi)) | ((with_reducible refine gate_callee (f := 112) rfl ?_); refine goesL_ (some 25) rfl rfl Try.func112 (by kernel_rfl) rfl #[.pointer (some ⟨g, 0, none⟩)] rfl zl ?_; (with_reducible refine (spec_anyName.calls kj2 g s0_0 t825 t826 t827 w0 _ ?side1 ?side2 A14.out).mono ?_); (case side1 => repeat (first | (with_reducible first | exact HI0.out | apply IsS129.alloc | apply IsS129.drewN | apply IsS129.drew | apply IsS129.set_1) | exact HI0.out)); (case side2 => repeat (first | (with_reducible first | exact HB.out | apply below_alloc | apply pw_below_drewN | apply below_drew1 | refine below_set ?_ (IsS129.ge HI0.out)) | exact HB.out)); rintro e w21 ⟨rfl, hi, hb, hk⟩; refine ⟨_, rfl, ?_⟩; have n0_ := Aside0.mk (Kd.R_mono (Kd.R_keep (IsS129.apart (show IsS129 w0 _ g s0_0 t825 from by repeat (first | (with_reducible first | exact HI0.out | apply IsS129.alloc | apply IsS129.drewN | apply IsS129.drew | apply IsS129.set_1) | exact HI0.out)) (zo HO_3) (by decide)) hk (fun _ h => h.2)) (fun _ h => h.1)); have n1_ := Aside0.mk (KeepBut.trans (zk HK) hk (.inl rfl)); have n2_ := Aside0.mk (hb); have n3_ := Aside0.mk (hi); clear HO_3; clear HK; clear HB; clear HI0; have HO_3 := n0_; have HK := n1_; have HB := n2_; have HI0 := n3_; clear n0_ n1_ n2_ n3_; (try clear hb); (try clear hb2); (try clear hk); (try clear hi); have p17 : 0 ≤ (t822 : Int) := of_decide_eq_true za; have q17 : (t822 : Int) < ((t816.length : Int) : Int) := of_decide_eq_true za; obtain ⟨go17, co17, eo17, gb17, gl17, cl17, HG17⟩ := Kd.R_form HO_3.out (by omega); (first | cases eo17 | (injection eo17 with ea_ en_ ec_; (first | subst ea_ | (injection ea_ with ea_; subst ea_)); subst ec_; clear en_)); have GB17 := Aside0.mk gb17; have GG17 := Aside0.mk HG17; clear gb17 gl17 HG17; obtain ⟨ce17, hcl17, hM17, hcc17, hfr17⟩ := Kd.R_elem HO_3.out z107 (t822 : Int) p17 q17; obtain rfl := k107_openM hM17; have hx17_0 : w21.cell? ⟨go17, (t822 : Int).toNat * 2, none⟩ = some (.string ((rd_T107 t816 t822).f0)) := hcc17 0 _ rfl; have hx17_1 : w21.cell? ⟨go17, (t822 : Int).toNat * 2 + 1, none⟩ = some (.string ((rd_T107 t816 t822).f1)) := hcc17 1 _ rfl; have hf17_0 : w21.frozen? ⟨go17, (t822 : Int).toNat * 2, none⟩ = false := hfr17 0; have hf17_1 : w21.frozen? ⟨go17, (t822 : Int).toNat * 2 + 1, none⟩ = false := hfr17 1; clear hcl17 hcc17 hfr17 hM17; replace p17 := eq_true p17; replace q17 := eq_true q17; have HX22 := Aside0.mk (show Kd.R k107 107 w21 w.heap.size (fun _ => True) (.slice (some ⟨go17, 0, none⟩) t816.length co18) t816 from (zo HO_3)); obtain ⟨ce22, hcl22, hM22, hcc22, hfr22⟩ := Kd.R_elem HX22.out z107 (t822 : Int) (of_decide_eq_true za) (by have h_ : (t822 : Int) < ((t816.length : Int) : Int) := of_decide_eq_true za; first | exact h_ | (have e_ := (Kd.R_reads' HO_3.out).1; omega) | simpa using h_); obtain rfl := k107_openM hM22; have HP22 := Kd.R_seg HX22.out (t822 : Int) (of_decide_eq_true za) (by have h_ : (t822 : Int) < ((t816.length : Int) : Int) := of_decide_eq_true za; first | exact h_ | (have e_ := (Kd.R_reads' HO_3.out).1; omega) | simpa using h_) (seg := [.string t826]) (j := 1) hcl22 hcc22 (show 2 ≤ 2 from by decide) (x' := (⟨(rd_T107 t816 t822).f0, t826⟩ : S107)) (k107_mkM _ _ _ (⟨(rd_T107 t816 t822).f0, t826⟩ : S107) ) (fun _ hk => hk); have hx22_1 := hcc22 1 _ rfl; (try simp only [show (k107).sz = 2 from rfl, Nat.mul_one, Nat.add_zero] at hx22_1); have hf22_1 := hfr22 1; (try simp only [show (k107).sz = 2 from rfl, Nat.mul_one, Nat.add_zero] at hf22_1); clear hcl22 hcc22 hfr22 hM22) | ((with_reducible refine gate_store (t := 9) (p := 27) rfl ?_); refine store_event (t := 9) (p := 27) (v := ?vo_w23) (w1 := (w21.setCell ⟨go17, (t822 : Int).toNat * 2 + 1, none⟩ (.string t826))) ?hg ?ho ?hn ?hr ?_; (case ho => rfl); (case hg => rfl); (case hn => rfl); (case hr => first | (go_simp; done) | (go_simp; rfl)); intro w23 hw; have hg : w21.grownBy w23 (some go17) := (by rw [hw]; exact HP22.2); have hp_ : Kd.R k107 107 w23 w.heap.size (fun _ => True) (.slice (some ⟨go17, 0, none⟩) t816.length co18) y828 := (by rw [hw, Ny828.out]; exact HP22.1); clear HP22; have n0_ := Aside0.mk (hp_); have n1_ := Aside0.mk (IsS129.grown (zi129_80 HI0) hg (IsS129.own_ne HI0.out HO_3.out (by decide))); have n2_ := Aside0.mk ((by rw [hw]; exact below_set (HB.out) (Nat.le_trans HL.out GB17.out) : Below w0.heap.size w0 w23)); have n3_ := Aside0.mk (KeepBut.trans (zk HK) (KeepBut.of_grown hg g) (Kd.R_base2 HO_3.out)); clear HO_3; clear HI0; clear HB; clear HK; have HO_3 := n0_; have HI0 := n1_; have HB := n2_; have HK := n3_; clear n0_ n1_ n2_ n3_; clear hg hw hp_))
       go_ret
       exact ⟨_, by first | rfl | (simp [errW_none, errW_some] <;> rfl) | (simp [*, errW_none, errW_some] <;> rfl), by (with_reducible repeat (first | apply Kd.R_alloc | apply Kd.R_drewN | apply Kd.R_drew)); exact HO_3.out, by repeat (first | (with_reducible first | exact HI0.out | apply IsS129.alloc | apply IsS129.drewN | apply IsS129.drew | apply IsS129.set_1) | exact HI0.out), by repeat (first | (with_reducible first | exact HB.out | apply below_alloc | apply pw_below_drewN | apply below_drew1 | refine below_set ?_ (IsS129.ge HI0.out)) | exact HB.out), by repeat (first | (with_reducible first | exact HK.out | apply KeepBut.set_ | apply keep_drewN | apply keep_drew | apply keep_alloc) | exact HK.out)⟩
      ·rw [if_neg c16] at H
       exact absurd H (by simp)
     ·rw [if_neg c15] at H
      exact absurd H (by simp)
    ·rw [if_neg c13] at H
     have c13b0 : (t824 == 0) = false := beq_eq_false_iff_ne.mpr c13
     have c13b1 : (t824 != 0) = true := bne_iff_ne.mpr c13
     replace H := Option.bind_eq_some_iff.mp H
     obtain ⟨⟨t829, t830⟩, A240, H⟩ := H
     replace H : (if 0 ≤ t822 then (if t822 < (t816.length : Int) then (some ((t816.set (t822 : Int).toNat (⟨t829, (rd_T107 t816 t822).f1⟩ : S107)), t830)) else (none)) else (none)) = some (r1, r2) := H
     have A24 := Aside0.mk A240
     clear A240
     by_cases c25 : 0 ≤ t822
     ·rw [if_pos c25] at H
      have c25b0 : decide (0 ≤ t822) = true := decide_eq_true c25
      clear c25
      by_cases c26 : t822 < (t816.length : Int)
      ·rw [if_pos c26] at H
       have c26b0 : decide (t822 < (t816.length : Int)) = true := decide_eq_true c26
       clear c26
       obtain ⟨y831, hy831⟩ : ∃ y_ : List (S107), y_ = (t816.set (t822 : Int).toNat (⟨t829, (rd_T107 t816 t822).f1⟩ : S107)) := ⟨_, rfl⟩
       replace H : (some (y831, t830)) = some (r1, r2) := by first | (rw [hy831]; with_reducible exact H) | (have H2_ := (Option.bind_some _ _).symm.trans H; rw [hy831]; with_reducible exact H2_) | (have H2_ := (Option.bind_some _ _).symm.trans H; with_reducible exact H2_) | with_reducible exact H | (rw [hy831]; exact H) | exact H
       have Ny831 := Aside0.mk hy831
       clear hy831
       simp only [Option.some.injEq, Prod.mk.injEq] at H
       obtain ⟨rfl, rfl⟩ := H
       obtain ⟨Ao28, co28, eo28⟩ := Kd.R_slice HO_3.out
       subst eo28
       go_wp2_with (first | ((with_reducible refine gate_callee (f := 90) rfl ?_); refine goesL_ (some 18) rfl rfl Try.func90 (by kernel_rfl) rfl #[.pointer (some ⟨g, 0, none⟩), .int .i64 (t816.length : Int)] rfl zl ?_; (with_reducible refine (spec_reader_pick.calls kj2 g s0_0 x1001_2 (t816.length : Int) t822 t823 w0 _ ?side1 ?side2 A11.out).mono ?_); (case side1 => repeat (first | (with_reducible first | exact HI0.out | apply IsS129.alloc | apply IsS129.drewN | apply IsS129.drew | apply IsS129.set_1) | exact HI0.out)); (case side2 => repeat (first | (with_reducible first | exact HB.out | apply below_alloc | apply pw_below_drewN | apply below_drew1 | refine below_set ?_ (IsS129.ge HI0.out)) | exact HB.out)); rintro e w29 ⟨rfl, hi, hb, hk⟩; refine ⟨_, rfl, ?_⟩; have n0_ := Aside0.mk (Kd.R_mono (Kd.R_keep (IsS129.apart (show IsS129 w0 _ g s0_0 x1001_2 from by repeat (first | (with_reducible first | exact HI0.out | apply IsS129.alloc | apply IsS129.drewN | apply IsS129.drew | apply IsS129.set_1) | exact HI0.out)) (zo HO_3) (by decide)) hk (fun _ h => h.2)) (fun _ h => h.1)); have n1_ := Aside0.mk (KeepBut.trans (zk HK) hk (.inl rfl)); have n2_ := Aside0.mk (hb); have n3_ := Aside0.mk (hi); clear HO_3; clear HK; clear HB; clear HI0; have HO_3 := n0_; have HK := n1_; have HB := n2_; have HI0 := n3_; clear n0_ n1_ n2_ n3_; (try clear hb); (try clear hb2); (try clear hk); (try clear hi)) | ((with_reducible refine gate_callee (f := 90) rfl ?_); refine goesL_ (some 20) rfl rfl Try.func90 (by kernel_rfl) rfl #[.pointer (some ⟨g, 0, none⟩), .int .i64 2] rfl zl ?_; (with_reducible refine (spec_reader_pick.calls kj2 g s0_0 t823 2 t824 t825 w0 _ ?side1 ?side2 A12.out).mono ?_); (case side1 => repeat (first | (with_reducible first | exact HI0.out | apply IsS129.alloc | apply IsS129.drewN | apply IsS129.drew | apply IsS129.set_1) | exact HI0.out)); (case side2 => repeat (first | (with_reducible first | exact HB.out | apply below_alloc | apply pw_below_drewN | apply below_drew1 | refine below_set ?_ (IsS129.ge HI0.out)) | exact HB.out)); rintro e w30 ⟨rfl, hi, hb, hk⟩; refine ⟨_, rfl, ?_⟩; have n0_ := Aside0.mk (Kd.R_mono (Kd.R_keep (IsS129.apart (show IsS129 w0 _ g s0_0 t823 from by repeat (first | (with_reducible first | exact HI0.out | apply IsS129.alloc | apply IsS129.drewN | apply IsS129.drew | apply IsS129.set_1) | exact HI0.out)) (zo HO_3) (by decide)) hk (fun _ h => h.2)) (fun _ h => h.1)); have n1_ := Aside0.mk (KeepBut.trans (zk HK) hk (.inl rfl)); have n2_ := Aside0.mk (hb); have n3_ := Aside0.mk (hi); clear HO_3; clear HK; clear HB; clear HI0; have HO_3 := n0_; have HK := n1_; have HB := n2_; have HI0 := n3_; clear n0_ n1_ n2_ n3_; (try clear hb); (try clear hb2); (try clear hk); (try clear hi)) | ((with_reducible refine gate_callee (f := 112) rfl ?_); refine goesL_ (some 31) rfl rfl Try.func112 (by kernel_rfl) rfl #[.pointer (some ⟨g, 0, none⟩)] rfl zl ?_; (with_reducible refine (spec_anyName.calls kj2 g s0_0 t825 t829 t830 w0 _ ?side1 ?side2 A24.out).mono ?_); (case side1 => repeat (first | (with_reducible first | exact HI0.out | apply IsS129.alloc | apply IsS129.drewN | apply IsS129.drew | apply IsS129.set_1) | exact HI0.out)); (case side2 => repeat (first | (with_reducible first | exact HB.out | apply below_alloc | apply pw_below_drewN | apply below_drew1 | refine below_set ?_ (IsS129.ge HI0.out)) | exact HB.out)); rintro e w31 ⟨rfl, hi, hb, hk⟩; refine ⟨_, rfl, ?_⟩; have n0_ := Aside0.mk (Kd.R_mono (Kd.R_keep (IsS129.apart (show IsS129 w0 _ g s0_0 t825 from by repeat (first | (with_reducible first | exact HI0.out | apply IsS129.alloc | apply IsS129.drewN | apply IsS129.drew | apply IsS129.set_1) | exact HI0.out)) (zo HO_3) (by decide)) hk (fun _ h => h.2)) (fun _ h => h.1)); have n1_ := Aside0.mk (KeepBut.trans (zk HK) hk (.inl rfl)); have n2_ := Aside0.mk (hb); have n3_ := Aside0.mk (hi); clear HO_3; clear HK; clear HB; clear HI0; have HO_3 := n0_; have HK := n1_; have HB := n2_; have HI0 := n3_; clear n0_ n1_ n2_ n3_; (try clear hb); (try clear hb2); (try clear hk); (try clear hi); have p27 : 0 ≤ (t822 : Int) := of_decide_eq_true za; have q27 : (t822 : Int) < ((t816.length : Int) : Int) := of_decide_eq_true za; obtain ⟨go27, co27, eo27, gb27, gl27, cl27, HG27⟩ := Kd.R_form HO_3.out (by omega); (first | cases eo27 | (injection eo27 with ea_ en_ ec_; (first | subst ea_ | (injection ea_ with ea_; subst ea_)); subst ec_; clear en_)); have GB27 := Aside0.mk gb27; have GG27 := Aside0.mk HG27; clear gb27 gl27 HG27; obtain ⟨ce27, hcl27, hM27, hcc27, hfr27⟩ := Kd.R_elem HO_3.out z107 (t822 : Int) p27 q27; obtain rfl := k107_openM hM27; have hx27_0 : w31.cell? ⟨go27, (t822 : Int).toNat * 2, none⟩ = some (.string ((rd_T107 t816 t822).f0)) := hcc27 0 _ rfl; have hx27_1 : w31.cell? ⟨go27, (t822 : Int).toNat * 2 + 1, none⟩ = some (.string ((rd_T107 t816 t822).f1)) := hcc27 1 _ rfl; have hf27_0 : w31.frozen? ⟨go27, (t822 : Int).toNat * 2, none⟩ = false := hfr27 0; have hf27_1 : w31.frozen? ⟨go27, (t822 : Int).toNat * 2 + 1, none⟩ = false := hfr27 1; clear hcl27 hcc27 hfr27 hM27; replace p27 := eq_true p27; replace q27 := eq_true q27; have HX32 := Aside0.mk (show Kd.R k107 107 w31 w.heap.size (fun _ => True) (.slice (some ⟨go27, 0, none⟩) t816.length co28) t816 from (zo HO_3)); obtain ⟨ce32, hcl32, hM32, hcc32, hfr32⟩ := Kd.R_elem HX32.out z107 (t822 : Int) (of_decide_eq_true za) (by have h_ : (t822 : Int) < ((t816.length : Int) : Int) := of_decide_eq_true za; first | exact h_ | (have e_ := (Kd.R_reads' HO_3.out).1; omega) | simpa using h_); obtain rfl := k107_openM hM32; have HP32 := Kd.R_seg HX32.out (t822 : Int) (of_decide_eq_true za) (by have h_ : (t822 : Int) < ((t816.length : Int) : Int) := of_decide_eq_true za; first | exact h_ | (have e_ := (Kd.R_reads' HO_3.out).1; omega) | simpa using h_) (seg := [.string t829]) (j := 0) hcl32 hcc32 (show 1 ≤ 2 from by decide) (x' := (⟨t829, (rd_T107 t816 t822).f1⟩ : S107)) (k107_mkM _ _ _ (⟨t829, (rd_T107 t816 t822).f1⟩ : S107) ) (fun _ hk => hk); have hx32_0 := hcc32 0 _ rfl; (try simp only [show (k107).sz = 2 from rfl, Nat.mul_one, Nat.add_zero] at hx32_0); have hf32_0 := hfr32 0; (try simp only [show (k107).sz = 2 from rfl, Nat.mul_one, Nat.add_zero] at hf32_0); clear hcl32 hcc32 hfr32 hM32) | ((with_reducible refine gate_store (t := 9) (p := 33) rfl ?_); refine store_event (t := 9) (p := 33) (v := ?vo_w33) (w1 := (w31.setCell ⟨go27, (t822 : Int).toNat * 2, none⟩ (.string t829))) ?hg ?ho ?hn ?hr ?_; (case ho => rfl); (case hg => rfl); (case hn => rfl); (case hr => first | (go_simp; done) | (go_simp; rfl)); intro w33 hw; have hg : w31.grownBy w33 (some go27) := (by rw [hw]; exact HP32.2); have hp_ : Kd.R k107 107 w33 w.heap.size (fun _ => True) (.slice (some ⟨go27, 0, none⟩) t816.length co28) y831 := (by rw [hw, Ny831.out]; exact HP32.1); clear HP32; have n0_ := Aside0.mk (hp_); have n1_ := Aside0.mk (IsS129.grown (zi129_80 HI0) hg (IsS129.own_ne HI0.out HO_3.out (by decide))); have n2_ := Aside0.mk ((by rw [hw]; exact below_set (HB.out) (Nat.le_trans HL.out GB27.out) : Below w0.heap.size w0 w33)); have n3_ := Aside0.mk (KeepBut.trans (zk HK) (KeepBut.of_grown hg g) (Kd.R_base2 HO_3.out)); clear HO_3; clear HI0; clear HB; clear HK; have HO_3 := n0_; have HI0 := n1_; have HB := n2_; have HK := n3_; clear n0_ n1_ n2_ n3_; clear hg hw hp_))
       go_ret
       exact ⟨_, by first | rfl | (simp [errW_none, errW_some] <;> rfl) | (simp [*, errW_none, errW_some] <;> rfl), by (with_reducible repeat (first | apply Kd.R_alloc | apply Kd.R_drewN | apply Kd.R_drew)); exact HO_3.out, by repeat (first | (with_reducible first | exact HI0.out | apply IsS129.alloc | apply IsS129.drewN | apply IsS129.drew | apply IsS129.set_1) | exact HI0.out), by repeat (first | (with_reducible first | exact HB.out | apply below_alloc | apply pw_below_drewN | apply below_drew1 | refine below_set ?_ (IsS129.ge HI0.out)) | exact HB.out), by repeat (first | (with_reducible first | exact HK.out | apply KeepBut.set_ | apply keep_drewN | apply keep_drew | apply keep_alloc) | exact HK.out)⟩
      ·rw [if_neg c26] at H
       exact absurd H (by simp)
     ·rw [if_neg c25] at H
      exact absurd H (by simp)
   ·replace c10 := Bool.eq_false_iff.mpr c10
    subst c10
    have H1 : (some (t816, x1001_2)) = some (r1, r2) := by rw [if_neg (show ¬ (false = true) by decide)] at H; exact H
    clear H
    have H := H1
    clear H1
    simp only [Option.some.injEq, Prod.mk.injEq] at H
    obtain ⟨rfl, rfl⟩ := H
    go_wp2
    go_ret
    exact ⟨_, by first | rfl | (simp [errW_none, errW_some] <;> rfl) | (simp [*, errW_none, errW_some] <;> rfl), by (with_reducible repeat (first | apply Kd.R_alloc | apply Kd.R_drewN | apply Kd.R_drew)); exact HO_3.out, by repeat (first | (with_reducible first | exact HI0.out | apply IsS129.alloc | apply IsS129.drewN | apply IsS129.drew | apply IsS129.set_1) | exact HI0.out), by repeat (first | (with_reducible first | exact HB.out | apply below_alloc | apply pw_below_drewN | apply below_drew1 | refine below_set ?_ (IsS129.ge HI0.out)) | exact HB.out), by repeat (first | (with_reducible first | exact HK.out | apply KeepBut.set_ | apply keep_drewN | apply keep_drew | apply keep_alloc) | exact HK.out)⟩

end Go.Proofs.Ytfcpbgedgedalaa.Q
