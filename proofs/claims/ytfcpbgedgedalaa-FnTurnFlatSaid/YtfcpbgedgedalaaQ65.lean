-- written by px.py (a program of this claim's), over the kit's print. Not trusted: Lean checks it.
import Derived.Test.YtfcpbgedgedalaaQ0
import Derived.Test.YtfcpbgedgedalaaQ30
import Derived.Test.YtfcpbgedgedalaaQ64
namespace Go.Proofs.Ytfcpbgedgedalaa.Q
open Go.RowKit Go.Proofs.YtfcpbgedgedalaaL.PrintWords Go.Proofs.YtfcpbgedgedalaaL.PrintLast Go.Proofs.YtfcpbgedgedalaaL.PrintMore
attribute [local go_sem] max2_int min2_int max_two min_two max_three min_three max_four min_four   -- for this text's walks alone
set_option linter.unusedVariables false
set_option linter.unusedSimpArgs false

/-! ### spec_validTurns: function 78 -/
mutual
def spec_validTurns.l0 : Nat → List (S107) → Int → Option (Bool)
 | 0, _, _ => none
 | k + 1, x0, x3 => if x3 < (x0.length : Int) then (if 0 ≤ x3 then ((spec_validName.f k ((rd_T107 x0 x3).f0)).bind fun t701 => (if t701 = true then ((spec_turnAt.f k x0 ((rd_T107 x0 x3).f1)).bind fun t703 => (if t703 < 0 then (some false) else (if x3 ≤ (x0.length : Int) then ((spec_turnAt.f k (x0.take (x3 : Int).toNat) ((rd_T107 x0 x3).f0)).bind fun t709 => (if t709 ≥ 0 then (some false) else (spec_validTurns.l1 k x0 x3 0))) else (none)))) else (some false))) else (none)) else (some (decide ((x0.length : Int) ≤ 8)))
def spec_validTurns.l1 : Nat → List (S107) → Int → Int → Option (Bool)
 | 0, _, _, _ => none
 | k + 1, x0, x3, x4 => if x4 < x3 then (if 0 ≤ x4 then (if x4 < (x0.length : Int) then (if 0 ≤ x3 then (if x3 < (x0.length : Int) then (if ((rd_T107 x0 x4).f1).toList = ((rd_T107 x0 x3).f1).toList then (some false) else (spec_validTurns.l1 k x0 x3 (wrap64 (x4 + 1)))) else (none)) else (none)) else (none)) else (none)) else (spec_validTurns.l0 k x0 (wrap64 (x3 + 1)))
end
def spec_validTurns.f (k : Nat) (l0 : List (S107)) : Option (Bool) := spec_validTurns.l0 k l0 0
theorem spec_validTurns.mono_l : ∀ k, (∀ y0 y1, LeO (spec_validTurns.l0 k y0 y1) (spec_validTurns.l0 (k + 1) y0 y1)) ∧ (∀ y0 y1 y2, LeO (spec_validTurns.l1 k y0 y1 y2) (spec_validTurns.l1 (k + 1) y0 y1 y2))
 | 0 => ⟨fun _ _ r h => by simp [spec_validTurns.l0] at h, fun _ _ _ r h => by simp [spec_validTurns.l1] at h⟩
 | k + 1 => by
  obtain ⟨ih0, ih1⟩ := spec_validTurns.mono_l k
  refine ⟨?_, ?_⟩
  ·intro y0 y1
   unfold spec_validTurns.l0
   repeat' first
   | (with_reducible exact ih0 _ _)
   | (with_reducible exact ih1 _ _ _)
   | (with_reducible exact spec_turnAt.mono _ _ _)
   | (with_reducible exact spec_validName.mono _ _)
   | (with_reducible exact LeO.refl _)
   | (with_reducible exact LeO.none _)
   | (with_reducible refine LeO.ite ?_ ?_)
   | (with_reducible refine LeO.bind ?_ (fun _ => ?_))
   | exact ih0 _ _
   | exact ih1 _ _ _
   | exact spec_turnAt.mono _ _ _
   | exact spec_validName.mono _ _
   | exact LeO.none _
   | refine LeO.ite ?_ ?_
   | refine LeO.bind ?_ (fun _ => ?_)
  ·intro y0 y1 y2
   unfold spec_validTurns.l1
   repeat' first
   | (with_reducible exact ih0 _ _)
   | (with_reducible exact ih1 _ _ _)
   | (with_reducible exact spec_turnAt.mono _ _ _)
   | (with_reducible exact spec_validName.mono _ _)
   | (with_reducible exact LeO.refl _)
   | (with_reducible exact LeO.none _)
   | (with_reducible refine LeO.ite ?_ ?_)
   | (with_reducible refine LeO.bind ?_ (fun _ => ?_))
   | exact ih0 _ _
   | exact ih1 _ _ _
   | exact spec_turnAt.mono _ _ _
   | exact spec_validName.mono _ _
   | exact LeO.none _
   | refine LeO.ite ?_ ?_
   | refine LeO.bind ?_ (fun _ => ?_)
theorem spec_validTurns.mono : ∀ a0 k, LeO (spec_validTurns.f k a0) (spec_validTurns.f (k + 1) a0) := by
 intro a0 k
 obtain ⟨ih0, ih1⟩ := spec_validTurns.mono_l k
 unfold spec_validTurns.f
 repeat' first
   | (with_reducible exact ih0 _ _)
   | (with_reducible exact ih1 _ _ _)
   | (with_reducible exact spec_turnAt.mono _ _ _)
   | (with_reducible exact spec_validName.mono _ _)
   | (with_reducible exact LeO.refl _)
   | (with_reducible exact LeO.none _)
   | (with_reducible refine LeO.ite ?_ ?_)
   | (with_reducible refine LeO.bind ?_ (fun _ => ?_))
   | exact ih0 _ _
   | exact ih1 _ _ _
   | exact spec_turnAt.mono _ _ _
   | exact spec_validName.mono _ _
   | exact LeO.none _
   | refine LeO.ite ?_ ?_
   | refine LeO.bind ?_ (fun _ => ?_)
set_option maxHeartbeats 8000000 in
set_option maxRecDepth 100000 in
theorem spec_validTurns.calls (k : Nat) (A0 : Option Addr) (c0 : Nat) (l0 : List (S107)) (r : Bool) (w : World) (hr0 : Kd.C k107 w A0 l0.length l0) (hc0 : l0.length ≤ c0) (h : spec_validTurns.f k l0 = some r) :
  Calls Try.prog 78 #[.slice A0 l0.length c0] w fun e w' => e = .returned (.bool r) ∧ Drawn0 w w' := by
 have HR0 := Aside0.mk hr0
 have HC0 := Aside0.mk hc0
 clear hr0 hc0
 have H : (spec_validTurns.l0 k l0 0) = some r := h
 clear h
 have H' := Aside0.mk H
 clear H
 go_enter Try.func78, Try.ntmps78
 go_wp2
 repeat (go_quiet (fail); try go_wp2)
 go_loopg [3] k (fun kq v3 w' => ∃ (x3_1 : Int), v3 = .int .i64 x3_1 ∧ Aside0 (spec_validTurns.l0 kq l0 x3_1 = some r) ∧ Aside0 (kq ≤ k) ∧ Drawn0 w w')
 case atStart => exact ⟨(0), zr, H', ⟨Nat.le_refl _⟩, by repeat (first | exact Drawn0.refl _ | apply Drawn0.step)⟩
 case round =>
  clear H'
  obtain ⟨x3_1, rfl, HA, HK1, ⟨m1, rfl⟩⟩ := hrel
  cases gk with
  | zero => exact absurd HA.out (by simp [spec_validTurns.l0])
  | succ k1 =>
   have H := HA.out
   clear HA
   simp only [spec_validTurns.l0] at H
   by_cases c2 : x3_1 < (l0.length : Int)
   ·rw [if_pos c2] at H
    have c2b0 : decide (x3_1 < (l0.length : Int)) = true := decide_eq_true c2
    clear c2
    by_cases c3 : 0 ≤ x3_1
    ·rw [if_pos c3] at H
     have c3b0 : decide (0 ≤ x3_1) = true := decide_eq_true c3
     clear c3
     replace H := Option.bind_eq_some_iff.mp H
     obtain ⟨t701, A40, H⟩ := H
     replace H : (if t701 = true then ((spec_turnAt.f k1 l0 ((rd_T107 l0 x3_1).f1)).bind fun t703 => (if t703 < 0 then (some false) else (if x3_1 ≤ (l0.length : Int) then ((spec_turnAt.f k1 (l0.take (x3_1 : Int).toNat) ((rd_T107 l0 x3_1).f0)).bind fun t709 => (if t709 ≥ 0 then (some false) else (spec_validTurns.l1 k1 l0 x3_1 0))) else (none)))) else (some false)) = some r := H
     have A4 := Aside0.mk A40
     clear A40
     by_cases c5 : t701 = true
     ·subst c5
      have H1 : ((spec_turnAt.f k1 l0 ((rd_T107 l0 x3_1).f1)).bind fun t703 => (if t703 < 0 then (some false) else (if x3_1 ≤ (l0.length : Int) then ((spec_turnAt.f k1 (l0.take (x3_1 : Int).toNat) ((rd_T107 l0 x3_1).f0)).bind fun t709 => (if t709 ≥ 0 then (some false) else (spec_validTurns.l1 k1 l0 x3_1 0))) else (none)))) = some r := by rw [if_pos rfl] at H; exact H
      clear H
      have H := H1
      clear H1
      replace H := Option.bind_eq_some_iff.mp H
      obtain ⟨t703, A60, H⟩ := H
      replace H : (if t703 < 0 then (some false) else (if x3_1 ≤ (l0.length : Int) then ((spec_turnAt.f k1 (l0.take (x3_1 : Int).toNat) ((rd_T107 l0 x3_1).f0)).bind fun t709 => (if t709 ≥ 0 then (some false) else (spec_validTurns.l1 k1 l0 x3_1 0))) else (none))) = some r := H
      have A6 := Aside0.mk A60
      clear A60
      by_cases c7 : t703 < 0
      ·rw [if_pos c7] at H
       have c7b0 : decide (t703 < 0) = true := decide_eq_true c7
       clear c7
       obtain rfl := Option.some.inj H
       have p700 : 0 ≤ (x3_1 : Int) := of_decide_eq_true za
       have q700 : x3_1 < (l0.length : Int) := of_decide_eq_true za
       obtain ⟨ad700, e700, hx700_0, hx700_1⟩ := at_T107 HR0.out x3_1 p700 q700
       cases e700
       replace p700 := eq_true p700
       replace q700 := eq_true q700
       have p702 : 0 ≤ (x3_1 : Int) := of_decide_eq_true za; have q702 : x3_1 < (l0.length : Int) := of_decide_eq_true za; obtain ⟨ad702, e702, hx702_0, hx702_1⟩ := at_T107 HR0.out x3_1 p702 q702; obtain rfl : ad700 = ad702 := (by injection e702); replace p702 := eq_true p702; replace q702 := eq_true q702
       go_wp2_with (first | (go_at_call 129; (with_reducible refine (spec_validName.calls k1 ((rd_T107 l0 x3_1).f0) true _ A4.out).mono ?_); rintro e w' ⟨rfl, ⟨nd, rfl⟩⟩; (try first | exact ⟨rfl, _, World.drewN_drewN _ _ _⟩ | exact ⟨rfl, _, Eq.trans (World.drewN_drewN _ _ _) (congrArg (World.drewN _) (Nat.add_assoc _ _ _))⟩); have p702 : 0 ≤ (x3_1 : Int) := of_decide_eq_true za; have q702 : x3_1 < (l0.length : Int) := of_decide_eq_true za; obtain ⟨ad702, e702, hx702_0, hx702_1⟩ := at_T107 HR0.out x3_1 p702 q702; obtain rfl : ad700 = ad702 := (by injection e702); replace p702 := eq_true p702; replace q702 := eq_true q702) | (go_at_call 130; (with_reducible refine (spec_turnAt.calls k1 _ _ l0 ((rd_T107 l0 x3_1).f1) t703 _ ?side1 ?side2 A6.out).mono ?_); (case side1 => repeat (first | exact HR0.out | (with_reducible refine Kd.C_alloc ?_ _) | (with_reducible refine Kd.C_drewN ?_ _) | (with_reducible refine Kd.C_drew ?_))); (case side2 => exact HC0.out); rintro e w' ⟨rfl, ⟨nd, rfl⟩⟩; (try first | exact ⟨rfl, _, World.drewN_drewN _ _ _⟩ | exact ⟨rfl, _, Eq.trans (World.drewN_drewN _ _ _) (congrArg (World.drewN _) (Nat.add_assoc _ _ _))⟩)))
       repeat (go_quiet (first | (go_at_call 129; (with_reducible refine (spec_validName.calls k1 ((rd_T107 l0 x3_1).f0) true _ A4.out).mono ?_); rintro e w' ⟨rfl, ⟨nd, rfl⟩⟩; (try first | exact ⟨rfl, _, World.drewN_drewN _ _ _⟩ | exact ⟨rfl, _, Eq.trans (World.drewN_drewN _ _ _) (congrArg (World.drewN _) (Nat.add_assoc _ _ _))⟩)) | (go_at_call 130; (with_reducible refine (spec_turnAt.calls k1 _ _ l0 ((rd_T107 l0 x3_1).f1) t703 _ ?side1 ?side2 A6.out).mono ?_); (case side1 => repeat (first | exact HR0.out | (with_reducible refine Kd.C_alloc ?_ _) | (with_reducible refine Kd.C_drewN ?_ _) | (with_reducible refine Kd.C_drew ?_))); (case side2 => exact HC0.out); rintro e w' ⟨rfl, ⟨nd, rfl⟩⟩; (try first | exact ⟨rfl, _, World.drewN_drewN _ _ _⟩ | exact ⟨rfl, _, Eq.trans (World.drewN_drewN _ _ _) (congrArg (World.drewN _) (Nat.add_assoc _ _ _))⟩))); try go_wp2_with (first | (go_at_call 129; (with_reducible refine (spec_validName.calls k1 ((rd_T107 l0 x3_1).f0) true _ A4.out).mono ?_); rintro e w' ⟨rfl, ⟨nd, rfl⟩⟩; (try first | exact ⟨rfl, _, World.drewN_drewN _ _ _⟩ | exact ⟨rfl, _, Eq.trans (World.drewN_drewN _ _ _) (congrArg (World.drewN _) (Nat.add_assoc _ _ _))⟩); have p702 : 0 ≤ (x3_1 : Int) := of_decide_eq_true za; have q702 : x3_1 < (l0.length : Int) := of_decide_eq_true za; obtain ⟨ad702, e702, hx702_0, hx702_1⟩ := at_T107 HR0.out x3_1 p702 q702; obtain rfl : ad700 = ad702 := (by injection e702); replace p702 := eq_true p702; replace q702 := eq_true q702) | (go_at_call 130; (with_reducible refine (spec_turnAt.calls k1 _ _ l0 ((rd_T107 l0 x3_1).f1) t703 _ ?side1 ?side2 A6.out).mono ?_); (case side1 => repeat (first | exact HR0.out | (with_reducible refine Kd.C_alloc ?_ _) | (with_reducible refine Kd.C_drewN ?_ _) | (with_reducible refine Kd.C_drew ?_))); (case side2 => exact HC0.out); rintro e w' ⟨rfl, ⟨nd, rfl⟩⟩; (try first | exact ⟨rfl, _, World.drewN_drewN _ _ _⟩ | exact ⟨rfl, _, Eq.trans (World.drewN_drewN _ _ _) (congrArg (World.drewN _) (Nat.add_assoc _ _ _))⟩))))
       go_ret
       exact ⟨by first | rfl | (simp; done) | (simp [*]; done), by repeat (first | exact Drawn0.refl _ | apply Drawn0.step)⟩
      ·rw [if_neg c7] at H
       have c7b0 : decide (t703 < 0) = false := decide_eq_false c7
       clear c7
       have c8b0 := eq_true (of_decide_eq_true za : 0 ≤ x3_1)
       by_cases c9 : x3_1 ≤ (l0.length : Int)
       ·rw [if_pos c9] at H
        have c9b0 := eq_true c9
        have c9b1 : decide (x3_1 ≤ (l0.length : Int)) = true := decide_eq_true c9
        clear c9
        obtain ⟨y704, hy704⟩ : ∃ y_ : List (S107), y_ = (l0.take (x3_1 : Int).toNat) := ⟨_, rfl⟩
        replace H : ((spec_turnAt.f k1 y704 ((rd_T107 l0 x3_1).f0)).bind fun t709 => (if t709 ≥ 0 then (some false) else (spec_validTurns.l1 k1 l0 x3_1 0))) = some r := by first | (rw [hy704]; with_reducible exact H) | (have H2_ := (Option.bind_some _ _).symm.trans H; rw [hy704]; with_reducible exact H2_) | (have H2_ := (Option.bind_some _ _).symm.trans H; with_reducible exact H2_) | with_reducible exact H | (rw [hy704]; exact H) | exact H
        have Ny704 := Aside0.mk hy704
        clear hy704
        replace H := Option.bind_eq_some_iff.mp H
        obtain ⟨t709, A100, H⟩ := H
        replace H : (if t709 ≥ 0 then (some false) else (spec_validTurns.l1 k1 l0 x3_1 0)) = some r := H
        have A10 := Aside0.mk A100
        clear A100
        by_cases c11 : t709 ≥ 0
        ·rw [if_pos c11] at H
         have c11b0 : decide (0 ≤ t709) = true := decide_eq_true c11
         clear c11
         obtain rfl := Option.some.inj H
         have p700 : 0 ≤ (x3_1 : Int) := of_decide_eq_true za
         have q700 : x3_1 < (l0.length : Int) := of_decide_eq_true za
         obtain ⟨ad700, e700, hx700_0, hx700_1⟩ := at_T107 HR0.out x3_1 p700 q700
         cases e700
         replace p700 := eq_true p700
         replace q700 := eq_true q700
         have p702 : 0 ≤ (x3_1 : Int) := of_decide_eq_true za; have q702 : x3_1 < (l0.length : Int) := of_decide_eq_true za; obtain ⟨ad702, e702, hx702_0, hx702_1⟩ := at_T107 HR0.out x3_1 p702 q702; obtain rfl : ad700 = ad702 := (by injection e702); replace p702 := eq_true p702; replace q702 := eq_true q702
         have q12 : (x3_1 : Int) ≤ ((l0.length : Int) : Int) := of_decide_eq_true za; obtain ⟨i012, hi012, _, hsz12, _⟩ := info_parts info107; have hroom12 : l0.length ≤ c0 := HC0.out; have hC12 : Kd.C k107 _ (some ad700) l0.length l0 := HR0.out; have hcut12 := cut_to (P := Try.prog) 55 107 .i64 Try.underlying55 hi012 (some ad700) l0.length c0 x3_1 (of_decide_eq_true za) q12 hroom12; have hr12 := Kd.C_take (m := (x3_1 : Int).toNat) hC12 (by omega); have hy12 : y704.length = (x3_1 : Int).toNat := (by rw [Ny704.out, List.length_take]; omega); rw [← Ny704.out] at hr12; rw [← hy12] at hcut12; have HR707 := Aside0.mk hr12; have HC707 := Aside0.mk (show y704.length ≤ c0 from by omega); clear hr12 hC12 hroom12 hi012 hsz12; have KY12 := Aside0.mk hy12; clear hy12; replace q12 := eq_true q12; have p708 : 0 ≤ (x3_1 : Int) := of_decide_eq_true za; have q708 : x3_1 < (l0.length : Int) := of_decide_eq_true za; obtain ⟨ad708, e708, hx708_0, hx708_1⟩ := at_T107 HR0.out x3_1 p708 q708; obtain rfl : ad700 = ad708 := (by injection e708); replace p708 := eq_true p708; replace q708 := eq_true q708
         go_wp2_with (first | (go_at_call 129; (with_reducible refine (spec_validName.calls k1 ((rd_T107 l0 x3_1).f0) true _ A4.out).mono ?_); rintro e w' ⟨rfl, ⟨nd, rfl⟩⟩; (try first | exact ⟨rfl, _, World.drewN_drewN _ _ _⟩ | exact ⟨rfl, _, Eq.trans (World.drewN_drewN _ _ _) (congrArg (World.drewN _) (Nat.add_assoc _ _ _))⟩); have p702 : 0 ≤ (x3_1 : Int) := of_decide_eq_true za; have q702 : x3_1 < (l0.length : Int) := of_decide_eq_true za; obtain ⟨ad702, e702, hx702_0, hx702_1⟩ := at_T107 HR0.out x3_1 p702 q702; obtain rfl : ad700 = ad702 := (by injection e702); replace p702 := eq_true p702; replace q702 := eq_true q702) | (go_at_call 130; (with_reducible refine (spec_turnAt.calls k1 _ _ l0 ((rd_T107 l0 x3_1).f1) t703 _ ?side1 ?side2 A6.out).mono ?_); (case side1 => repeat (first | exact HR0.out | (with_reducible refine Kd.C_alloc ?_ _) | (with_reducible refine Kd.C_drewN ?_ _) | (with_reducible refine Kd.C_drew ?_))); (case side2 => exact HC0.out); rintro e w' ⟨rfl, ⟨nd, rfl⟩⟩; (try first | exact ⟨rfl, _, World.drewN_drewN _ _ _⟩ | exact ⟨rfl, _, Eq.trans (World.drewN_drewN _ _ _) (congrArg (World.drewN _) (Nat.add_assoc _ _ _))⟩); have q12 : (x3_1 : Int) ≤ ((l0.length : Int) : Int) := of_decide_eq_true za; obtain ⟨i012, hi012, _, hsz12, _⟩ := info_parts info107; have hroom12 : l0.length ≤ c0 := HC0.out; have hC12 : Kd.C k107 _ (some ad700) l0.length l0 := HR0.out; have hcut12 := cut_to (P := Try.prog) 55 107 .i64 Try.underlying55 hi012 (some ad700) l0.length c0 x3_1 (of_decide_eq_true za) q12 hroom12; have hr12 := Kd.C_take (m := (x3_1 : Int).toNat) hC12 (by omega); have hy12 : y704.length = (x3_1 : Int).toNat := (by rw [Ny704.out, List.length_take]; omega); rw [← Ny704.out] at hr12; rw [← hy12] at hcut12; have HR707 := Aside0.mk hr12; have HC707 := Aside0.mk (show y704.length ≤ c0 from by omega); clear hr12 hC12 hroom12 hi012 hsz12; have KY12 := Aside0.mk hy12; clear hy12; replace q12 := eq_true q12; have p708 : 0 ≤ (x3_1 : Int) := of_decide_eq_true za; have q708 : x3_1 < (l0.length : Int) := of_decide_eq_true za; obtain ⟨ad708, e708, hx708_0, hx708_1⟩ := at_T107 HR0.out x3_1 p708 q708; obtain rfl : ad700 = ad708 := (by injection e708); replace p708 := eq_true p708; replace q708 := eq_true q708) | (go_at_call 130; (with_reducible refine (spec_turnAt.calls k1 _ _ y704 ((rd_T107 l0 x3_1).f0) t709 _ ?side1 ?side2 A10.out).mono ?_); (case side1 => repeat (first | exact HR707.out | (with_reducible refine Kd.C_alloc ?_ _) | (with_reducible refine Kd.C_drewN ?_ _) | (with_reducible refine Kd.C_drew ?_))); (case side2 => exact HC707.out); rintro e w' ⟨rfl, ⟨nd, rfl⟩⟩; (try first | exact ⟨rfl, _, World.drewN_drewN _ _ _⟩ | exact ⟨rfl, _, Eq.trans (World.drewN_drewN _ _ _) (congrArg (World.drewN _) (Nat.add_assoc _ _ _))⟩)))
         repeat (go_quiet (first | (go_at_call 129; (with_reducible refine (spec_validName.calls k1 ((rd_T107 l0 x3_1).f0) true _ A4.out).mono ?_); rintro e w' ⟨rfl, ⟨nd, rfl⟩⟩; (try first | exact ⟨rfl, _, World.drewN_drewN _ _ _⟩ | exact ⟨rfl, _, Eq.trans (World.drewN_drewN _ _ _) (congrArg (World.drewN _) (Nat.add_assoc _ _ _))⟩)) | (go_at_call 130; (with_reducible refine (spec_turnAt.calls k1 _ _ l0 ((rd_T107 l0 x3_1).f1) t703 _ ?side1 ?side2 A6.out).mono ?_); (case side1 => repeat (first | exact HR0.out | (with_reducible refine Kd.C_alloc ?_ _) | (with_reducible refine Kd.C_drewN ?_ _) | (with_reducible refine Kd.C_drew ?_))); (case side2 => exact HC0.out); rintro e w' ⟨rfl, ⟨nd, rfl⟩⟩; (try first | exact ⟨rfl, _, World.drewN_drewN _ _ _⟩ | exact ⟨rfl, _, Eq.trans (World.drewN_drewN _ _ _) (congrArg (World.drewN _) (Nat.add_assoc _ _ _))⟩)) | (go_at_call 130; (with_reducible refine (spec_turnAt.calls k1 _ _ y704 ((rd_T107 l0 x3_1).f0) t709 _ ?side1 ?side2 A10.out).mono ?_); (case side1 => repeat (first | exact HR707.out | (with_reducible refine Kd.C_alloc ?_ _) | (with_reducible refine Kd.C_drewN ?_ _) | (with_reducible refine Kd.C_drew ?_))); (case side2 => exact HC707.out); rintro e w' ⟨rfl, ⟨nd, rfl⟩⟩; (try first | exact ⟨rfl, _, World.drewN_drewN _ _ _⟩ | exact ⟨rfl, _, Eq.trans (World.drewN_drewN _ _ _) (congrArg (World.drewN _) (Nat.add_assoc _ _ _))⟩))); try go_wp2_with (first | (go_at_call 129; (with_reducible refine (spec_validName.calls k1 ((rd_T107 l0 x3_1).f0) true _ A4.out).mono ?_); rintro e w' ⟨rfl, ⟨nd, rfl⟩⟩; (try first | exact ⟨rfl, _, World.drewN_drewN _ _ _⟩ | exact ⟨rfl, _, Eq.trans (World.drewN_drewN _ _ _) (congrArg (World.drewN _) (Nat.add_assoc _ _ _))⟩); have p702 : 0 ≤ (x3_1 : Int) := of_decide_eq_true za; have q702 : x3_1 < (l0.length : Int) := of_decide_eq_true za; obtain ⟨ad702, e702, hx702_0, hx702_1⟩ := at_T107 HR0.out x3_1 p702 q702; obtain rfl : ad700 = ad702 := (by injection e702); replace p702 := eq_true p702; replace q702 := eq_true q702) | (go_at_call 130; (with_reducible refine (spec_turnAt.calls k1 _ _ l0 ((rd_T107 l0 x3_1).f1) t703 _ ?side1 ?side2 A6.out).mono ?_); (case side1 => repeat (first | exact HR0.out | (with_reducible refine Kd.C_alloc ?_ _) | (with_reducible refine Kd.C_drewN ?_ _) | (with_reducible refine Kd.C_drew ?_))); (case side2 => exact HC0.out); rintro e w' ⟨rfl, ⟨nd, rfl⟩⟩; (try first | exact ⟨rfl, _, World.drewN_drewN _ _ _⟩ | exact ⟨rfl, _, Eq.trans (World.drewN_drewN _ _ _) (congrArg (World.drewN _) (Nat.add_assoc _ _ _))⟩); have q12 : (x3_1 : Int) ≤ ((l0.length : Int) : Int) := of_decide_eq_true za; obtain ⟨i012, hi012, _, hsz12, _⟩ := info_parts info107; have hroom12 : l0.length ≤ c0 := HC0.out; have hC12 : Kd.C k107 _ (some ad700) l0.length l0 := HR0.out; have hcut12 := cut_to (P := Try.prog) 55 107 .i64 Try.underlying55 hi012 (some ad700) l0.length c0 x3_1 (of_decide_eq_true za) q12 hroom12; have hr12 := Kd.C_take (m := (x3_1 : Int).toNat) hC12 (by omega); have hy12 : y704.length = (x3_1 : Int).toNat := (by rw [Ny704.out, List.length_take]; omega); rw [← Ny704.out] at hr12; rw [← hy12] at hcut12; have HR707 := Aside0.mk hr12; have HC707 := Aside0.mk (show y704.length ≤ c0 from by omega); clear hr12 hC12 hroom12 hi012 hsz12; have KY12 := Aside0.mk hy12; clear hy12; replace q12 := eq_true q12; have p708 : 0 ≤ (x3_1 : Int) := of_decide_eq_true za; have q708 : x3_1 < (l0.length : Int) := of_decide_eq_true za; obtain ⟨ad708, e708, hx708_0, hx708_1⟩ := at_T107 HR0.out x3_1 p708 q708; obtain rfl : ad700 = ad708 := (by injection e708); replace p708 := eq_true p708; replace q708 := eq_true q708) | (go_at_call 130; (with_reducible refine (spec_turnAt.calls k1 _ _ y704 ((rd_T107 l0 x3_1).f0) t709 _ ?side1 ?side2 A10.out).mono ?_); (case side1 => repeat (first | exact HR707.out | (with_reducible refine Kd.C_alloc ?_ _) | (with_reducible refine Kd.C_drewN ?_ _) | (with_reducible refine Kd.C_drew ?_))); (case side2 => exact HC707.out); rintro e w' ⟨rfl, ⟨nd, rfl⟩⟩; (try first | exact ⟨rfl, _, World.drewN_drewN _ _ _⟩ | exact ⟨rfl, _, Eq.trans (World.drewN_drewN _ _ _) (congrArg (World.drewN _) (Nat.add_assoc _ _ _))⟩))))
         go_ret
         exact ⟨by first | rfl | (simp; done) | (simp [*]; done), by repeat (first | exact Drawn0.refl _ | apply Drawn0.step)⟩
        ·rw [if_neg c11] at H
         have c11b0 : decide (0 ≤ t709) = false := decide_eq_false c11
         clear c11
         have H' := Aside0.mk H
         clear H
         have p700 : 0 ≤ (x3_1 : Int) := of_decide_eq_true za
         have q700 : x3_1 < (l0.length : Int) := of_decide_eq_true za
         obtain ⟨ad700, e700, hx700_0, hx700_1⟩ := at_T107 HR0.out x3_1 p700 q700
         cases e700
         replace p700 := eq_true p700
         replace q700 := eq_true q700
         have p702 : 0 ≤ (x3_1 : Int) := of_decide_eq_true za; have q702 : x3_1 < (l0.length : Int) := of_decide_eq_true za; obtain ⟨ad702, e702, hx702_0, hx702_1⟩ := at_T107 HR0.out x3_1 p702 q702; obtain rfl : ad700 = ad702 := (by injection e702); replace p702 := eq_true p702; replace q702 := eq_true q702
         have q13 : (x3_1 : Int) ≤ ((l0.length : Int) : Int) := of_decide_eq_true za; obtain ⟨i013, hi013, _, hsz13, _⟩ := info_parts info107; have hroom13 : l0.length ≤ c0 := HC0.out; have hC13 : Kd.C k107 _ (some ad700) l0.length l0 := HR0.out; have hcut13 := cut_to (P := Try.prog) 55 107 .i64 Try.underlying55 hi013 (some ad700) l0.length c0 x3_1 (of_decide_eq_true za) q13 hroom13; have hr13 := Kd.C_take (m := (x3_1 : Int).toNat) hC13 (by omega); have hy13 : y704.length = (x3_1 : Int).toNat := (by rw [Ny704.out, List.length_take]; omega); rw [← Ny704.out] at hr13; rw [← hy13] at hcut13; have HR707 := Aside0.mk hr13; have HC707 := Aside0.mk (show y704.length ≤ c0 from by omega); clear hr13 hC13 hroom13 hi013 hsz13; have KY13 := Aside0.mk hy13; clear hy13; replace q13 := eq_true q13; have p708 : 0 ≤ (x3_1 : Int) := of_decide_eq_true za; have q708 : x3_1 < (l0.length : Int) := of_decide_eq_true za; obtain ⟨ad708, e708, hx708_0, hx708_1⟩ := at_T107 HR0.out x3_1 p708 q708; obtain rfl : ad700 = ad708 := (by injection e708); replace p708 := eq_true p708; replace q708 := eq_true q708
         go_wp2_with (first | (go_at_call 129; (with_reducible refine (spec_validName.calls k1 ((rd_T107 l0 x3_1).f0) true _ A4.out).mono ?_); rintro e w' ⟨rfl, ⟨nd, rfl⟩⟩; (try first | exact ⟨rfl, _, World.drewN_drewN _ _ _⟩ | exact ⟨rfl, _, Eq.trans (World.drewN_drewN _ _ _) (congrArg (World.drewN _) (Nat.add_assoc _ _ _))⟩); have p702 : 0 ≤ (x3_1 : Int) := of_decide_eq_true za; have q702 : x3_1 < (l0.length : Int) := of_decide_eq_true za; obtain ⟨ad702, e702, hx702_0, hx702_1⟩ := at_T107 HR0.out x3_1 p702 q702; obtain rfl : ad700 = ad702 := (by injection e702); replace p702 := eq_true p702; replace q702 := eq_true q702) | (go_at_call 130; (with_reducible refine (spec_turnAt.calls k1 _ _ l0 ((rd_T107 l0 x3_1).f1) t703 _ ?side1 ?side2 A6.out).mono ?_); (case side1 => repeat (first | exact HR0.out | (with_reducible refine Kd.C_alloc ?_ _) | (with_reducible refine Kd.C_drewN ?_ _) | (with_reducible refine Kd.C_drew ?_))); (case side2 => exact HC0.out); rintro e w' ⟨rfl, ⟨nd, rfl⟩⟩; (try first | exact ⟨rfl, _, World.drewN_drewN _ _ _⟩ | exact ⟨rfl, _, Eq.trans (World.drewN_drewN _ _ _) (congrArg (World.drewN _) (Nat.add_assoc _ _ _))⟩); have q13 : (x3_1 : Int) ≤ ((l0.length : Int) : Int) := of_decide_eq_true za; obtain ⟨i013, hi013, _, hsz13, _⟩ := info_parts info107; have hroom13 : l0.length ≤ c0 := HC0.out; have hC13 : Kd.C k107 _ (some ad700) l0.length l0 := HR0.out; have hcut13 := cut_to (P := Try.prog) 55 107 .i64 Try.underlying55 hi013 (some ad700) l0.length c0 x3_1 (of_decide_eq_true za) q13 hroom13; have hr13 := Kd.C_take (m := (x3_1 : Int).toNat) hC13 (by omega); have hy13 : y704.length = (x3_1 : Int).toNat := (by rw [Ny704.out, List.length_take]; omega); rw [← Ny704.out] at hr13; rw [← hy13] at hcut13; have HR707 := Aside0.mk hr13; have HC707 := Aside0.mk (show y704.length ≤ c0 from by omega); clear hr13 hC13 hroom13 hi013 hsz13; have KY13 := Aside0.mk hy13; clear hy13; replace q13 := eq_true q13; have p708 : 0 ≤ (x3_1 : Int) := of_decide_eq_true za; have q708 : x3_1 < (l0.length : Int) := of_decide_eq_true za; obtain ⟨ad708, e708, hx708_0, hx708_1⟩ := at_T107 HR0.out x3_1 p708 q708; obtain rfl : ad700 = ad708 := (by injection e708); replace p708 := eq_true p708; replace q708 := eq_true q708) | (go_at_call 130; (with_reducible refine (spec_turnAt.calls k1 _ _ y704 ((rd_T107 l0 x3_1).f0) t709 _ ?side1 ?side2 A10.out).mono ?_); (case side1 => repeat (first | exact HR707.out | (with_reducible refine Kd.C_alloc ?_ _) | (with_reducible refine Kd.C_drewN ?_ _) | (with_reducible refine Kd.C_drew ?_))); (case side2 => exact HC707.out); rintro e w' ⟨rfl, ⟨nd, rfl⟩⟩; (try first | exact ⟨rfl, _, World.drewN_drewN _ _ _⟩ | exact ⟨rfl, _, Eq.trans (World.drewN_drewN _ _ _) (congrArg (World.drewN _) (Nat.add_assoc _ _ _))⟩)))
         repeat (go_quiet (first | (go_at_call 129; (with_reducible refine (spec_validName.calls k1 ((rd_T107 l0 x3_1).f0) true _ A4.out).mono ?_); rintro e w' ⟨rfl, ⟨nd, rfl⟩⟩; (try first | exact ⟨rfl, _, World.drewN_drewN _ _ _⟩ | exact ⟨rfl, _, Eq.trans (World.drewN_drewN _ _ _) (congrArg (World.drewN _) (Nat.add_assoc _ _ _))⟩)) | (go_at_call 130; (with_reducible refine (spec_turnAt.calls k1 _ _ l0 ((rd_T107 l0 x3_1).f1) t703 _ ?side1 ?side2 A6.out).mono ?_); (case side1 => repeat (first | exact HR0.out | (with_reducible refine Kd.C_alloc ?_ _) | (with_reducible refine Kd.C_drewN ?_ _) | (with_reducible refine Kd.C_drew ?_))); (case side2 => exact HC0.out); rintro e w' ⟨rfl, ⟨nd, rfl⟩⟩; (try first | exact ⟨rfl, _, World.drewN_drewN _ _ _⟩ | exact ⟨rfl, _, Eq.trans (World.drewN_drewN _ _ _) (congrArg (World.drewN _) (Nat.add_assoc _ _ _))⟩)) | (go_at_call 130; (with_reducible refine (spec_turnAt.calls k1 _ _ y704 ((rd_T107 l0 x3_1).f0) t709 _ ?side1 ?side2 A10.out).mono ?_); (case side1 => repeat (first | exact HR707.out | (with_reducible refine Kd.C_alloc ?_ _) | (with_reducible refine Kd.C_drewN ?_ _) | (with_reducible refine Kd.C_drew ?_))); (case side2 => exact HC707.out); rintro e w' ⟨rfl, ⟨nd, rfl⟩⟩; (try first | exact ⟨rfl, _, World.drewN_drewN _ _ _⟩ | exact ⟨rfl, _, Eq.trans (World.drewN_drewN _ _ _) (congrArg (World.drewN _) (Nat.add_assoc _ _ _))⟩))); try go_wp2_with (first | (go_at_call 129; (with_reducible refine (spec_validName.calls k1 ((rd_T107 l0 x3_1).f0) true _ A4.out).mono ?_); rintro e w' ⟨rfl, ⟨nd, rfl⟩⟩; (try first | exact ⟨rfl, _, World.drewN_drewN _ _ _⟩ | exact ⟨rfl, _, Eq.trans (World.drewN_drewN _ _ _) (congrArg (World.drewN _) (Nat.add_assoc _ _ _))⟩); have p702 : 0 ≤ (x3_1 : Int) := of_decide_eq_true za; have q702 : x3_1 < (l0.length : Int) := of_decide_eq_true za; obtain ⟨ad702, e702, hx702_0, hx702_1⟩ := at_T107 HR0.out x3_1 p702 q702; obtain rfl : ad700 = ad702 := (by injection e702); replace p702 := eq_true p702; replace q702 := eq_true q702) | (go_at_call 130; (with_reducible refine (spec_turnAt.calls k1 _ _ l0 ((rd_T107 l0 x3_1).f1) t703 _ ?side1 ?side2 A6.out).mono ?_); (case side1 => repeat (first | exact HR0.out | (with_reducible refine Kd.C_alloc ?_ _) | (with_reducible refine Kd.C_drewN ?_ _) | (with_reducible refine Kd.C_drew ?_))); (case side2 => exact HC0.out); rintro e w' ⟨rfl, ⟨nd, rfl⟩⟩; (try first | exact ⟨rfl, _, World.drewN_drewN _ _ _⟩ | exact ⟨rfl, _, Eq.trans (World.drewN_drewN _ _ _) (congrArg (World.drewN _) (Nat.add_assoc _ _ _))⟩); have q13 : (x3_1 : Int) ≤ ((l0.length : Int) : Int) := of_decide_eq_true za; obtain ⟨i013, hi013, _, hsz13, _⟩ := info_parts info107; have hroom13 : l0.length ≤ c0 := HC0.out; have hC13 : Kd.C k107 _ (some ad700) l0.length l0 := HR0.out; have hcut13 := cut_to (P := Try.prog) 55 107 .i64 Try.underlying55 hi013 (some ad700) l0.length c0 x3_1 (of_decide_eq_true za) q13 hroom13; have hr13 := Kd.C_take (m := (x3_1 : Int).toNat) hC13 (by omega); have hy13 : y704.length = (x3_1 : Int).toNat := (by rw [Ny704.out, List.length_take]; omega); rw [← Ny704.out] at hr13; rw [← hy13] at hcut13; have HR707 := Aside0.mk hr13; have HC707 := Aside0.mk (show y704.length ≤ c0 from by omega); clear hr13 hC13 hroom13 hi013 hsz13; have KY13 := Aside0.mk hy13; clear hy13; replace q13 := eq_true q13; have p708 : 0 ≤ (x3_1 : Int) := of_decide_eq_true za; have q708 : x3_1 < (l0.length : Int) := of_decide_eq_true za; obtain ⟨ad708, e708, hx708_0, hx708_1⟩ := at_T107 HR0.out x3_1 p708 q708; obtain rfl : ad700 = ad708 := (by injection e708); replace p708 := eq_true p708; replace q708 := eq_true q708) | (go_at_call 130; (with_reducible refine (spec_turnAt.calls k1 _ _ y704 ((rd_T107 l0 x3_1).f0) t709 _ ?side1 ?side2 A10.out).mono ?_); (case side1 => repeat (first | exact HR707.out | (with_reducible refine Kd.C_alloc ?_ _) | (with_reducible refine Kd.C_drewN ?_ _) | (with_reducible refine Kd.C_drew ?_))); (case side2 => exact HC707.out); rintro e w' ⟨rfl, ⟨nd, rfl⟩⟩; (try first | exact ⟨rfl, _, World.drewN_drewN _ _ _⟩ | exact ⟨rfl, _, Eq.trans (World.drewN_drewN _ _ _) (congrArg (World.drewN _) (Nat.add_assoc _ _ _))⟩))))
         go_loopg [4] k1 (fun kq v4 w' => ∃ (x4_2 : Int), v4 = .int .i64 x4_2 ∧ Aside0 (spec_validTurns.l1 kq l0 x3_1 x4_2 = some r) ∧ Aside0 (kq ≤ k1) ∧ Drawn0 w w')
         case atStart => exact ⟨(0), zr, H', ⟨Nat.le_refl _⟩, by repeat (first | exact Drawn0.refl _ | apply Drawn0.step)⟩
         case round =>
          clear H'
          try clear c1
          try clear q1
          try clear c2
          try clear c2b0
          try clear p2
          try clear c3
          try clear c3b0
          try clear c5
          try clear c7
          try clear c7b0
          try clear p7
          try clear q7
          try clear hx7
          try clear c8
          try clear c8b0
          try clear c9
          try clear c9b0
          try clear c9b1
          try clear c11
          try clear c11b0
          try clear q12
          try clear q13
          try clear hx700_0
          try clear hx700_1
          try clear hx702_0
          try clear hx702_1
          try clear hx708_0
          try clear hx708_1
          try clear p700
          try clear p702
          try clear p708
          try clear q12
          try clear q13
          try clear q700
          try clear q702
          try clear q708
          obtain ⟨x4_2, rfl, HA, HK2, ⟨m2, rfl⟩⟩ := hrel
          cases gk with
          | zero => exact absurd HA.out (by simp [spec_validTurns.l1])
          | succ k2 =>
           have H := HA.out
           clear HA
           simp only [spec_validTurns.l1] at H
           by_cases c14 : x4_2 < x3_1
           ·rw [if_pos c14] at H
            have c14b0 : decide (x4_2 < x3_1) = true := decide_eq_true c14
            clear c14
            by_cases c15 : 0 ≤ x4_2
            ·rw [if_pos c15] at H
             have c15b0 : decide (0 ≤ x4_2) = true := decide_eq_true c15
             clear c15
             by_cases c16 : x4_2 < (l0.length : Int)
             ·rw [if_pos c16] at H
              have c16b0 : decide (x4_2 < (l0.length : Int)) = true := decide_eq_true c16
              clear c16
              by_cases c17 : 0 ≤ x3_1
              ·rw [if_pos c17] at H
               have c17b0 : decide (0 ≤ x3_1) = true := decide_eq_true c17
               clear c17
               by_cases c18 : x3_1 < (l0.length : Int)
               ·rw [if_pos c18] at H
                have c18b0 : decide (x3_1 < (l0.length : Int)) = true := decide_eq_true c18
                clear c18
                by_cases c19 : ((rd_T107 l0 x4_2).f1).toList = ((rd_T107 l0 x3_1).f1).toList
                ·rw [if_pos c19] at H
                 have c19b0 : (((rd_T107 l0 x4_2).f1).toList == ((rd_T107 l0 x3_1).f1).toList) = true := beq_iff_eq.mpr c19
                 have c19b1 : (((rd_T107 l0 x4_2).f1).toList != ((rd_T107 l0 x3_1).f1).toList) = false := bne_eq_false_iff_eq.mpr c19
                 clear c19
                 obtain rfl := Option.some.inj H
                 have p710 : 0 ≤ (x4_2 : Int) := of_decide_eq_true za
                 have q710 : x4_2 < (l0.length : Int) := of_decide_eq_true za
                 obtain ⟨ad710, e710, hx710_0, hx710_1⟩ := at_T107 HR0.out x4_2 p710 q710
                 obtain rfl : ad700 = ad710 := (by injection e710)
                 replace p710 := eq_true p710
                 replace q710 := eq_true q710
                 have p711 : 0 ≤ (x3_1 : Int) := of_decide_eq_true za
                 have q711 : x3_1 < (l0.length : Int) := of_decide_eq_true za
                 obtain ⟨ad711, e711, hx711_0, hx711_1⟩ := at_T107 HR0.out x3_1 p711 q711
                 obtain rfl : ad700 = ad711 := (by injection e711)
                 replace p711 := eq_true p711
                 replace q711 := eq_true q711
                 go_wp2
                 repeat (go_quiet (fail); try go_wp2)
                 go_ret
                 exact ⟨by first | rfl | (simp; done) | (simp [*]; done), by repeat (first | exact Drawn0.refl _ | apply Drawn0.step)⟩
                ·rw [if_neg c19] at H
                 have c19b0 : (((rd_T107 l0 x4_2).f1).toList == ((rd_T107 l0 x3_1).f1).toList) = false := beq_eq_false_iff_ne.mpr c19
                 have c19b1 : (((rd_T107 l0 x4_2).f1).toList != ((rd_T107 l0 x3_1).f1).toList) = true := bne_iff_ne.mpr c19
                 have H' := Aside0.mk H
                 clear H
                 have p710 : 0 ≤ (x4_2 : Int) := of_decide_eq_true za
                 have q710 : x4_2 < (l0.length : Int) := of_decide_eq_true za
                 obtain ⟨ad710, e710, hx710_0, hx710_1⟩ := at_T107 HR0.out x4_2 p710 q710
                 obtain rfl : ad700 = ad710 := (by injection e710)
                 replace p710 := eq_true p710
                 replace q710 := eq_true q710
                 have p711 : 0 ≤ (x3_1 : Int) := of_decide_eq_true za
                 have q711 : x3_1 < (l0.length : Int) := of_decide_eq_true za
                 obtain ⟨ad711, e711, hx711_0, hx711_1⟩ := at_T107 HR0.out x3_1 p711 q711
                 obtain rfl : ad700 = ad711 := (by injection e711)
                 replace p711 := eq_true p711
                 replace q711 := eq_true q711
                 go_wp2
                 repeat (go_quiet (fail); try go_wp2)
                 go_roundg k2
                 case measure => have := HK1.out; have := HK2.out; omega
                 case rel => exact ⟨(wrap64 (x4_2 + 1)), zr, H', ⟨by have := HK1.out; have := HK2.out; omega⟩, by repeat (first | exact Drawn0.refl _ | apply Drawn0.step)⟩
               ·rw [if_neg c18] at H
                exact absurd H (by simp)
              ·rw [if_neg c17] at H
               exact absurd H (by simp)
             ·rw [if_neg c16] at H
              exact absurd H (by simp)
            ·rw [if_neg c15] at H
             exact absurd H (by simp)
           ·rw [if_neg c14] at H
            have c14b0 : decide (x4_2 < x3_1) = false := decide_eq_false c14
            clear c14
            have H' := Aside0.mk H
            clear H
            go_wp2
            repeat (go_quiet (fail); try go_wp2)
            go_roundg k2
            case measure => have := HK1.out; have := HK2.out; omega
            case rel => exact ⟨(wrap64 (x3_1 + 1)), zr, H', ⟨by have := HK1.out; have := HK2.out; omega⟩, by repeat (first | exact Drawn0.refl _ | apply Drawn0.step)⟩
       ·rw [if_neg c9] at H
        exact absurd H (by simp)
     ·replace c5 := Bool.eq_false_iff.mpr c5
      subst c5
      have H1 : (some false) = some r := by rw [if_neg (show ¬ (false = true) by decide)] at H; exact H
      clear H
      have H := H1
      clear H1
      obtain rfl := Option.some.inj H
      have p700 : 0 ≤ (x3_1 : Int) := of_decide_eq_true za
      have q700 : x3_1 < (l0.length : Int) := of_decide_eq_true za
      obtain ⟨ad700, e700, hx700_0, hx700_1⟩ := at_T107 HR0.out x3_1 p700 q700
      cases e700
      replace p700 := eq_true p700
      replace q700 := eq_true q700
      go_wp2_with (first | (go_at_call 129; (with_reducible refine (spec_validName.calls k1 ((rd_T107 l0 x3_1).f0) false _ A4.out).mono ?_); rintro e w' ⟨rfl, ⟨nd, rfl⟩⟩; (try first | exact ⟨rfl, _, World.drewN_drewN _ _ _⟩ | exact ⟨rfl, _, Eq.trans (World.drewN_drewN _ _ _) (congrArg (World.drewN _) (Nat.add_assoc _ _ _))⟩)))
      repeat (go_quiet (first | (go_at_call 129; (with_reducible refine (spec_validName.calls k1 ((rd_T107 l0 x3_1).f0) false _ A4.out).mono ?_); rintro e w' ⟨rfl, ⟨nd, rfl⟩⟩; (try first | exact ⟨rfl, _, World.drewN_drewN _ _ _⟩ | exact ⟨rfl, _, Eq.trans (World.drewN_drewN _ _ _) (congrArg (World.drewN _) (Nat.add_assoc _ _ _))⟩))); try go_wp2_with (first | (go_at_call 129; (with_reducible refine (spec_validName.calls k1 ((rd_T107 l0 x3_1).f0) false _ A4.out).mono ?_); rintro e w' ⟨rfl, ⟨nd, rfl⟩⟩; (try first | exact ⟨rfl, _, World.drewN_drewN _ _ _⟩ | exact ⟨rfl, _, Eq.trans (World.drewN_drewN _ _ _) (congrArg (World.drewN _) (Nat.add_assoc _ _ _))⟩))))
      go_ret
      exact ⟨by first | rfl | (simp; done) | (simp [*]; done), by repeat (first | exact Drawn0.refl _ | apply Drawn0.step)⟩
    ·rw [if_neg c3] at H
     exact absurd H (by simp)
   ·rw [if_neg c2] at H
    have c2b0 : decide (x3_1 < (l0.length : Int)) = false := decide_eq_false c2
    clear c2
    obtain rfl := Option.some.inj H
    go_wp2
    repeat (go_quiet (fail); try go_wp2)
    go_ret
    exact ⟨by first | rfl | (simp; done) | (simp [*]; done), by repeat (first | exact Drawn0.refl _ | apply Drawn0.step)⟩

end Go.Proofs.Ytfcpbgedgedalaa.Q
