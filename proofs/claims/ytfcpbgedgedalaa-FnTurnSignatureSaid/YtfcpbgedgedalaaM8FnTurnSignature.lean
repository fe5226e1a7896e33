-- written by px.py and merge.py (programs of this claim's), over the kit's print. Not trusted: Lean checks it.
import Derived.Test.YtfcpbgedgedalaaQ0
import Derived.Test.YtfcpbgedgedalaaM1FnTurnSignature
import Derived.Test.YtfcpbgedgedalaaM7FnTurnSignature
import Derived.Test.YtfcpbgedgedalaaM3FnTurnSignature
namespace Go.Proofs.Ytfcpbgedgedalaa.Q
open Go.RowKit Go.Proofs.YtfcpbgedgedalaaL.PrintWords Go.Proofs.YtfcpbgedgedalaaL.PrintLast Go.Proofs.YtfcpbgedgedalaaL.PrintMore
attribute [local go_sem] max2_int min2_int max_two min_two max_three min_three max_four min_four   -- for this text's walks alone
set_option linter.unusedVariables false
set_option linter.unusedSimpArgs false

/-! ### spec_validTurns: function 78 -/
mutual
def spec_validTurns.l0 : Nat → List (S107) → Int → Option (Bool)
 | 0, _, _ => none
 | k + 1, x0, x3 => if x3 < (x0.length : Int) then (if 0 ≤ x3 then ((spec_validName.f k ((rd_T107 x0 x3).f0)).bind fun t701 => (if t701 = true then ((spec_turnAt.f k x0 ((rd_T107 x0 x3).f1)).bind fun t703 => (if t703 < 0 then (some false) else (if x3 ≤ (x0.length : Int) then ((spec_turnAt.f k (x0.take (x3 : Int).toNat) ((rd_T107 x0 x3).f0)).bind fun t709 => (if t709 ≥ 0 then (some false) else (spec_validTurns.l1 k x0 x3 0))) else (none)))) else (some false))) else (none)) else (some (decide ((x0.length : Int) ≤ 8)))
def spec_validTurns.l1 : Nat → List (S107) → Int → Int → Option (Bool)
 | 0, _, _, _ => none
 | k + 1, x0, x3, x4 => if x4 < x3 then (if 0 ≤ x4 then (if x4 < (x0.length : Int) then (if 0 ≤ x3 then (if x3 < (x0.length : Int) then (if ((rd_T107 x0 x4).f1).toList = ((rd_T107 x0 x3).f1).toList then (some false) else (spec_validTurns.l1 k x0 x3 (wrap64 (x4 + 1)))) else (none)) else (none)) else (none)) else (none)) else (spec_validTurns.l0 k x0 (wrap64 (x3 + 1)))
end
def spec_validTurns.f (k : Nat) (l0 : List (S107)) : Option (Bool) := spec_validTurns.l0 k l0 0
theorem spec_validTurns.mono_l : ∀ k, (∀ y0 y1, LeO (spec_validTurns.l0 k y0 y1) (spec_validTurns.l0 (k + 1) y0 y1)) ∧ (∀ y0 y1 y2, LeO (spec_validTurns.l1 k y0 y1 y2) (spec_validTurns.l1 (k + 1) y0 y1 y2))
 | 0 => ⟨fun _ _ r h => by simp [spec_validTurns.l0] at h, fun _ _ _ r h => by simp [spec_validTurns.l1] at h⟩
 | k + 1 => by
  obtain ⟨ih0, ih1⟩ := spec_validTurns.mono_l k
  refine ⟨?_, ?_⟩
  all_goals intros
  all_goals (first | unfold spec_validTurns.l0 | unfold spec_validTurns.l1)
  all_goals repeat' first
   | (with_reducible exact ih0 _ _)
   | (with_reducible exact ih1 _ _ _)
   | (with_reducible exact spec_turnAt.mono _ _ _)
   | (with_reducible exact spec_validName.mono _ _)
   | (with_reducible exact LeO.refl _)
   | (with_reducible exact LeO.none _)
   | (with_reducible refine LeO.ite ?_ ?_)
   | (with_reducible refine LeO.bind ?_ (fun _ => ?_))
   | exact ih0 _ _
   | exact ih1 _ _ _
   | exact spec_turnAt.mono _ _ _
   | exact spec_validName.mono _ _
   | exact LeO.none _
   | refine LeO.ite ?_ ?_
   | refine LeO.bind ?_ (fun _ => ?_)
theorem spec_validTurns.mono : ∀ a0 k, LeO (spec_validTurns.f k a0) (spec_validTurns.f (k + 1) a0) := by
 intro a0 k
 obtain ⟨ih0, ih1⟩ := spec_validTurns.mono_l k
 unfold spec_validTurns.f
 repeat' first
   | (with_reducible exact ih0 _ _)
   | (with_reducible exact ih1 _ _ _)
   | (with_reducible exact spec_turnAt.mono _ _ _)
   | (with_reducible exact spec_validName.mono _ _)
   | (with_reducible exact LeO.refl _)
   | (with_reducible exact LeO.none _)
   | (with_reducible refine LeO.ite ?_ ?_)
   | (with_reducible refine LeO.bind ?_ (fun _ => ?_))
   | exact ih0 _ _
   | exact ih1 _ _ _
   | exact spec_turnAt.mono _ _ _
   | exact spec_validName.mono _ _
   | exact LeO.none _
   | refine LeO.ite ?_ ?_
   | refine LeO.bind ?_ (fun _ => ?_)
set_option maxHeartbeats 8000000 in
set_option maxRecDepth 100000 in
theorem spec_validTurns.calls (k : Nat) (A0 : Option Addr) (c0 : Nat) (l0 : List (S107)) (r : Bool) (w : World) (hr0 : Kd.C k107 w A0 l0.length l0) (hc0 : l0.length ≤ c0) (h : spec_validTurns.f k l0 = some r) :
  Calls Try.prog 78 #[.slice A0 l0.length c0] w fun e w' => e = .returned (.bool r) ∧ Drawn0 w w' := by
 have HR0 := Aside0.mk hr0
 have HC0 := Aside0.mk hc0
 clear hr0 hc0
 have H : (spec_validTurns.l0 k l0 0) = some r := h
 clear h
 have H' := Aside0.mk H
 clear H
 go_enter Try.func78, Try.ntmps78
 go_wp2
 repeat (go_quiet (fail); try go_wp2)
 go_loopg [3] k (fun kq v3 w' => ∃ (x3_1 : Int), v3 = .int .i64 x3_1 ∧ Aside0 (spec_validTurns.l0 kq l0 x3_1 = some r) ∧ Aside0 (kq ≤ k) ∧ Drawn0 w w')
 case atStart => exact ⟨(0), zr, H', ⟨Nat.le_refl _⟩, by repeat (first | exact Drawn0.refl _ | apply Drawn0.step)⟩
 case round =>
  clear H'
  obtain ⟨x3_1, rfl, HA, HK1, ⟨m1, rfl⟩⟩ := hrel
  cases gk with
  | zero => exact absurd HA.out (by simp [spec_validTurns.l0])
  | succ k1 =>
   have H := HA.out
   clear HA
   simp only [spec_validTurns.l0] at H
   by_cases c2 : x3_1 < (l0.length : Int)
   ·rw [if_pos c2] at H
    have c2b0 : decide (x3_1 < (l0.length : Int)) = true := decide_eq_true c2
    clear c2
    by_cases c3 : 0 ≤ x3_1
    ·rw [if_pos c3] at H
     have c3b0 : decide (0 ≤ x3_1) = true := decide_eq_true c3
     clear c3
     replace H := Option.bind_eq_some_iff.mp H
     obtain ⟨t701, A40, H⟩ := H
     (try dsimp only at H)
     have A4 := Aside0.mk A40
     clear A40
     by_cases c5 : t701 = true
     ·subst c5
      rw [if_pos rfl] at H
      replace H := Option.bind_eq_some_iff.mp H
      obtain ⟨t703, A60, H⟩ := H
      (try dsimp only at H)
      have A6 := Aside0.mk A60
      clear A60
      by_cases c7 : t703 < 0
      ·rw [if_pos c7] at H
       have c7b0 : decide (t703 < 0) = true := decide_eq_true c7
       clear c7
       obtain rfl := Option.some.inj H
       have p700 : 0 ≤ (x3_1 : Int) := of_decide_eq_true za
       have q700 : x3_1 < (l0.length : Int) := of_decide_eq_true za
       obtain ⟨ad700, e700, hx700_0, hx700_1⟩ := at_T107 HR0.out x3_1 p700 q700
       cases e700
       replace p700 := eq_true p700
       replace q700 := eq_true q700
       have p702 : 0 ≤ (x3_1 : Int) := of_decide_eq_true za; have q702 : x3_1 < (l0.length : Int) := of_decide_eq_true za; obtain ⟨ad702, e702, hx702_0, hx702_1⟩ := at_T107 HR0.out x3_1 p702 q702; obtain rfl : ad700 = ad702 := (by injection e702); replace p702 := eq_true p702; replace q702 := eq_true q702
       go_wp2_with (first | (go_at_call 129; (with_reducible refine (spec_validName.calls k1 ((rd_T107 l0 x3_1).f0) true _ A4.out).mono ?_); rintro e w' ⟨rfl, ⟨nd, rfl⟩⟩; (try first | exact ⟨rfl, _, World.drewN_drewN _ _ _⟩ | exact ⟨rfl, _, Eq.trans (World.drewN_drewN _ _ _) (congrArg (World.drewN _) (Nat.add_assoc _ _ _))⟩); have p702 : 0 ≤ (x3_1 : Int) := of_decide_eq_true za; have q702 : x3_1 < (l0.length : Int) := of_decide_eq_true za; obtain ⟨ad702, e702, hx702_0, hx702_1⟩ := at_T107 HR0.out x3_1 p702 q702; obtain rfl : ad700 = ad702 := (by injection e702); replace p702 := eq_true p702; replace q702 := eq_true q702) | (go_at_call 130; (with_reducible refine (spec_turnAt.calls k1 _ _ l0 ((rd_T107 l0 x3_1).f1) t703 _ ?side1 ?side2 A6.out).mono ?_); (case side1 => repeat (first | exact HR0.out | (with_reducible refine Kd.C_alloc ?_ _) | (with_reducible refine Kd.C_drewN ?_ _) | (with_reducible refine Kd.C_drew ?_))); (case side2 => exact HC0.out); rintro e w' ⟨rfl, ⟨nd, rfl⟩⟩; (try first | exact ⟨rfl, _, World.drewN_drewN _ _ _⟩ | exact ⟨rfl, _, Eq.trans (World.drewN_drewN _ _ _) (congrArg (World.drewN _) (Nat.add_assoc _ _ _))⟩)))
       repeat (go_quiet (first | (go_at_call 129; (with_reducible refine (spec_validName.calls k1 ((rd_T107 l0 x3_1).f0) true _ A4.out).mono ?_); rintro e w' ⟨rfl, ⟨nd, rfl⟩⟩; (try first | exact ⟨rfl, _, World.drewN_drewN _ _ _⟩ | exact ⟨rfl, _, Eq.trans (World.drewN_drewN _ _ _) (congrArg (World.drewN _) (Nat.add_assoc _ _ _))⟩)) | (go_at_call 130; (with_reducible refine (spec_turnAt.calls k1 _ _ l0 ((rd_T107 l0 x3_1).f1) t703 _ ?side1 ?side2 A6.out).mono ?_); (case side1 => repeat (first | exact HR0.out | (with_reducible refine Kd.C_alloc ?_ _) | (with_reducible refine Kd.C_drewN ?_ _) | (with_reducible refine Kd.C_drew ?_))); (case side2 => exact HC0.out); rintro e w' ⟨rfl, ⟨nd, rfl⟩⟩; (try first | exact ⟨rfl, _, World.drewN_drewN _ _ _⟩ | exact ⟨rfl, _, Eq.trans (World.drewN_drewN _ _ _) (congrArg (World.drewN _) (Nat.add_assoc _ _ _))⟩))); try go_wp2_with (first | (go_at_call 129; (with_reducible refine (spec_validName.calls k1 ((rd_T107 l0 x3_1).f0) true _ A4.out).mono ?_); rintro e w' ⟨rfl, ⟨nd, rfl⟩⟩; (try first | exact ⟨rfl, _, World.drewN_drewN _ _ _⟩ | exact ⟨rfl, _, Eq.trans (World.drewN_drewN _ _ _) (congrArg (World.drewN _) (Nat.add_assoc _ _ _))⟩); have p702 : 0 ≤ (x3_1 : Int) := of_decide_eq_true za; have q702 : x3_1 < (l0.length : Int) := of_decide_eq_true za; obtain ⟨ad702, e702, hx702_0, hx702_1⟩ := at_T107 HR0.out x3_1 p702 q702; obtain rfl : ad700 = ad702 := (by injection e702); replace p702 := eq_true p702; replace q702 := eq_true q702) | (go_at_call 130; (with_reducible refine (spec_turnAt.calls k1 _ _ l0 ((rd_T107 l0 x3_1).f1) t703 _ ?side1 ?side2 A6.out).mono ?_); (case side1 => repeat (first | exact HR0.out | (with_reducible refine Kd.C_alloc ?_ _) | (with_reducible refine Kd.C_drewN ?_ _) | (with_reducible refine Kd.C_drew ?_))); (case side2 => exact HC0.out); rintro e w' ⟨rfl, ⟨nd, rfl⟩⟩; (try first | exact ⟨rfl, _, World.drewN_drewN _ _ _⟩ | exact ⟨rfl, _, Eq.trans (World.drewN_drewN _ _ _) (congrArg (World.drewN _) (Nat.add_assoc _ _ _))⟩))))
       go_ret
       exact ⟨by first | rfl | (simp; done) | (simp [*]; done), by repeat (first | exact Drawn0.refl _ | apply Drawn0.step)⟩
      ·rw [if_neg c7] at H
       have c7b0 : decide (t703 < 0) = false := decide_eq_false c7
       clear c7
       have c8b0 := eq_true (of_decide_eq_true za : 0 ≤ x3_1)
       by_cases c9 : x3_1 ≤ (l0.length : Int)
       ·rw [if_pos c9] at H
        have c9b0 := eq_true c9
        have c9b1 : decide (x3_1 ≤ (l0.length : Int)) = true := decide_eq_true c9
        clear c9
        obtain ⟨y704, hy704⟩ : ∃ y_ : List (S107), y_ = (l0.take (x3_1 : Int).toNat) := ⟨_, rfl⟩
        replace H : ((spec_turnAt.f k1 y704 ((rd_T107 l0 x3_1).f0)).bind fun t709 => (if t709 ≥ 0 then (some false) else (spec_validTurns.l1 k1 l0 x3_1 0))) = some r := by first | (rw [hy704]; with_reducible exact H) | (have H2_ := (Option.bind_some _ _).symm.trans H; rw [hy704]; with_reducible exact H2_) | (have H2_ := (Option.bind_some _ _).symm.trans H; with_reducible exact H2_) | with_reducible exact H | (rw [hy704]; exact H) | exact H
        have Ny704 := Aside0.mk hy704
        clear hy704
        replace H := Option.bind_eq_some_iff.mp H
        obtain ⟨t709, A100, H⟩ := H
        (try dsimp only at H)
        have A10 := Aside0.mk A100
        clear A100
        by_cases c11 : t709 ≥ 0
        ·rw [if_pos c11] at H
         have c11b0 : decide (0 ≤ t709) = true := decide_eq_true c11
         clear c11
         obtain rfl := Option.some.inj H
         have p700 : 0 ≤ (x3_1 : Int) := of_decide_eq_true za
         have q700 : x3_1 < (l0.length : Int) := of_decide_eq_true za
         obtain ⟨ad700, e700, hx700_0, hx700_1⟩ := at_T107 HR0.out x3_1 p700 q700
         cases e700
         replace p700 := eq_true p700
         replace q700 := eq_true q700
         have p702 : 0 ≤ (x3_1 : Int) := of_decide_eq_true za; have q702 : x3_1 < (l0.length : Int) := of_decide_eq_true za; obtain ⟨ad702, e702, hx702_0, hx702_1⟩ := at_T107 HR0.out x3_1 p702 q702; obtain rfl : ad700 = ad702 := (by injection e702); replace p702 := eq_true p702; replace q702 := eq_true q702
         have q12 : (x3_1 : Int) ≤ ((l0.length : Int) : Int) := of_decide_eq_true za; obtain ⟨i012, hi012, _, hsz12, _⟩ := info_parts info107; have hroom12 : l0.length ≤ c0 := HC0.out; have hC12 : Kd.C k107 _ (some ad700) l0.length l0 := HR0.out; have hcut12 := cut_to (P := Try.prog) 55 107 .i64 Try.underlying55 hi012 (some ad700) l0.length c0 x3_1 (of_decide_eq_true za) q12 hroom12; have hr12 := Kd.C_take (m := (x3_1 : Int).toNat) hC12 (by omega); have hy12 : y704.length = (x3_1 : Int).toNat := (by rw [Ny704.out, List.length_take]; omega); rw [← Ny704.out] at hr12; rw [← hy12] at hcut12; have HR707 := Aside0.mk hr12; have HC707 := Aside0.mk (show y704.length ≤ c0 from by omega); clear hr12 hC12 hroom12 hi012 hsz12; have KY12 := Aside0.mk hy12; clear hy12; replace q12 := eq_true q12; have p708 : 0 ≤ (x3_1 : Int) := of_decide_eq_true za; have q708 : x3_1 < (l0.length : Int) := of_decide_eq_true za; obtain ⟨ad708, e708, hx708_0, hx708_1⟩ := at_T107 HR0.out x3_1 p708 q708; obtain rfl : ad700 = ad708 := (by injection e708); replace p708 := eq_true p708; replace q708 := eq_true q708
         go_wp2_with (first | (go_at_call 129; (with_reducible refine (spec_validName.calls k1 ((rd_T107 l0 x3_1).f0) true _ A4.out).mono ?_); rintro e w' ⟨rfl, ⟨nd, rfl⟩⟩; (try first | exact ⟨rfl, _, World.drewN_drewN _ _ _⟩ | exact ⟨rfl, _, Eq.trans (World.drewN_drewN _ _ _) (congrArg (World.drewN _) (Nat.add_assoc _ _ _))⟩); have p702 : 0 ≤ (x3_1 : Int) := of_decide_eq_true za; have q702 : x3_1 < (l0.length : Int) := of_decide_eq_true za; obtain ⟨ad702, e702, hx702_0, hx702_1⟩ := at_T107 HR0.out x3_1 p702 q702; obtain rfl : ad700 = ad702 := (by injection e702); replace p702 := eq_true p702; replace q702 := eq_true q702) | (go_at_call 130; (with_reducible refine (spec_turnAt.calls k1 _ _ l0 ((rd_T107 l0 x3_1).f1) t703 _ ?side1 ?side2 A6.out).mono ?_); (case side1 => repeat (first | exact HR0.out | (with_reducible refine Kd.C_alloc ?_ _) | (with_reducible refine Kd.C_drewN ?_ _) | (with_reducible refine Kd.C_drew ?_))); (case side2 => exact HC0.out); rintro e w' ⟨rfl, ⟨nd, rfl⟩⟩; (try first | exact ⟨rfl, _, World.drewN_drewN _ _ _⟩ | exact ⟨rfl, _, Eq.trans (World.drewN_drewN _ _ _) (congrArg (World.drewN _) (Nat.add_assoc _ _ _))⟩); have q12 : (x3_1 : Int) ≤ ((l0.length : Int) : Int) := of_decide_eq_true za; obtain ⟨i012, hi012, _, hsz12, _⟩ := info_parts info107; have hroom12 : l0.length ≤ c0 := HC0.out; have hC12 : Kd.C k107 _ (some ad700) l0.length l0 := HR0.out; have hcut12 := cut_to (P := Try.prog) 55 107 .i64 Try.underlying55 hi012 (some ad700) l0.length c0 x3_1 (of_decide_eq_true za) q12 hroom12; have hr12 := Kd.C_take (m := (x3_1 : Int).toNat) hC12 (by omega); have hy12 : y704.length = (x3_1 : Int).toNat := (by rw [Ny704.out, List.length_take]; omega); rw [← Ny704.out] at hr12; rw [← hy12] at hcut12; have HR707 := Aside0.mk hr12; have HC707 := Aside0.mk (show y704.length ≤ c0 from by omega); clear hr12 hC12 hroom12 hi012 hsz12; have KY12 := Aside0.mk hy12; clear hy12; replace q12 := eq_true q12; have p708 : 0 ≤ (x3_1 : Int) := of_decide_eq_true za; have q708 : x3_1 < (l0.length : Int) := of_decide_eq_true za; obtain ⟨ad708, e708, hx708_0, hx708_1⟩ := at_T107 HR0.out x3_1 p708 q708; obtain rfl : ad700 = ad708 := (by injection e708); replace p708 := eq_true p708; replace q708 := eq_true q708) | (go_at_call 130; (with_reducible refine (spec_turnAt.calls k1 _ _ y704 ((rd_T107 l0 x3_1).f0) t709 _ ?side1 ?side2 A10.out).mono ?_); (case side1 => repeat (first | exact HR707.out | (with_reducible refine Kd.C_alloc ?_ _) | (with_reducible refine Kd.C_drewN ?_ _) | (with_reducible refine Kd.C_drew ?_))); (case side2 => exact HC707.out); rintro e w' ⟨rfl, ⟨nd, rfl⟩⟩; (try first | exact ⟨rfl, _, World.drewN_drewN _ _ _⟩ | exact ⟨rfl, _, Eq.trans (World.drewN_drewN _ _ _) (congrArg (World.drewN _) (Nat.add_assoc _ _ _))⟩)))
         repeat (go_quiet (first | (go_at_call 129; (with_reducible refine (spec_validName.calls k1 ((rd_T107 l0 x3_1).f0) true _ A4.out).mono ?_); rintro e w' ⟨rfl, ⟨nd, rfl⟩⟩; (try first | exact ⟨rfl, _, World.drewN_drewN _ _ _⟩ | exact ⟨rfl, _, Eq.trans (World.drewN_drewN _ _ _) (congrArg (World.drewN _) (Nat.add_assoc _ _ _))⟩)) | (go_at_call 130; (with_reducible refine (spec_turnAt.calls k1 _ _ l0 ((rd_T107 l0 x3_1).f1) t703 _ ?side1 ?side2 A6.out).mono ?_); (case side1 => repeat (first | exact HR0.out | (with_reducible refine Kd.C_alloc ?_ _) | (with_reducible refine Kd.C_drewN ?_ _) | (with_reducible refine Kd.C_drew ?_))); (case side2 => exact HC0.out); rintro e w' ⟨rfl, ⟨nd, rfl⟩⟩; (try first | exact ⟨rfl, _, World.drewN_drewN _ _ _⟩ | exact ⟨rfl, _, Eq.trans (World.drewN_drewN _ _ _) (congrArg (World.drewN _) (Nat.add_assoc _ _ _))⟩)) | (go_at_call 130; (with_reducible refine (spec_turnAt.calls k1 _ _ y704 ((rd_T107 l0 x3_1).f0) t709 _ ?side1 ?side2 A10.out).mono ?_); (case side1 => repeat (first | exact HR707.out | (with_reducible refine Kd.C_alloc ?_ _) | (with_reducible refine Kd.C_drewN ?_ _) | (with_reducible refine Kd.C_drew ?_))); (case side2 => exact HC707.out); rintro e w' ⟨rfl, ⟨nd, rfl⟩⟩; (try first | exact ⟨rfl, _, World.drewN_drewN _ _ _⟩ | exact ⟨rfl, _, Eq.trans (World.drewN_drewN _ _ _) (congrArg (World.drewN _) (Nat.add_assoc _ _ _))⟩))); try go_wp2_with (first | (go_at_call 129; (with_reducible refine (spec_validName.calls k1 ((rd_T107 l0 x3_1).f0) true _ A4.out).mono ?_); rintro e w' ⟨rfl, ⟨nd, rfl⟩⟩; (try first | exact ⟨rfl, _, World.drewN_drewN _ _ _⟩ | exact ⟨rfl, _, Eq.trans (World.drewN_drewN _ _ _) (congrArg (World.drewN _) (Nat.add_assoc _ _ _))⟩); have p702 : 0 ≤ (x3_1 : Int) := of_decide_eq_true za; have q702 : x3_1 < (l0.length : Int) := of_decide_eq_true za; obtain ⟨ad702, e702, hx702_0, hx702_1⟩ := at_T107 HR0.out x3_1 p702 q702; obtain rfl : ad700 = ad702 := (by injection e702); replace p702 := eq_true p702; replace q702 := eq_true q702) | (go_at_call 130; (with_reducible refine (spec_turnAt.calls k1 _ _ l0 ((rd_T107 l0 x3_1).f1) t703 _ ?side1 ?side2 A6.out).mono ?_); (case side1 => repeat (first | exact HR0.out | (with_reducible refine Kd.C_alloc ?_ _) | (with_reducible refine Kd.C_drewN ?_ _) | (with_reducible refine Kd.C_drew ?_))); (case side2 => exact HC0.out); rintro e w' ⟨rfl, ⟨nd, rfl⟩⟩; (try first | exact ⟨rfl, _, World.drewN_drewN _ _ _⟩ | exact ⟨rfl, _, Eq.trans (World.drewN_drewN _ _ _) (congrArg (World.drewN _) (Nat.add_assoc _ _ _))⟩); have q12 : (x3_1 : Int) ≤ ((l0.length : Int) : Int) := of_decide_eq_true za; obtain ⟨i012, hi012, _, hsz12, _⟩ := info_parts info107; have hroom12 : l0.length ≤ c0 := HC0.out; have hC12 : Kd.C k107 _ (some ad700) l0.length l0 := HR0.out; have hcut12 := cut_to (P := Try.prog) 55 107 .i64 Try.underlying55 hi012 (some ad700) l0.length c0 x3_1 (of_decide_eq_true za) q12 hroom12; have hr12 := Kd.C_take (m := (x3_1 : Int).toNat) hC12 (by omega); have hy12 : y704.length = (x3_1 : Int).toNat := (by rw [Ny704.out, List.length_take]; omega); rw [← Ny704.out] at hr12; rw [← hy12] at hcut12; have HR707 := Aside0.mk hr12; have HC707 := Aside0.mk (show y704.length ≤ c0 from by omega); clear hr12 hC12 hroom12 hi012 hsz12; have KY12 := Aside0.mk hy12; clear hy12; replace q12 := eq_true q12; have p708 : 0 ≤ (x3_1 : Int) := of_decide_eq_true za; have q708 : x3_1 < (l0.length : Int) := of_decide_eq_true za; obtain ⟨ad708, e708, hx708_0, hx708_1⟩ := at_T107 HR0.out x3_1 p708 q708; obtain rfl : ad700 = ad708 := (by injection e708); replace p708 := eq_true p708; replace q708 := eq_true q708) | (go_at_call 130; (with_reducible refine (spec_turnAt.calls k1 _ _ y704 ((rd_T107 l0 x3_1).f0) t709 _ ?side1 ?side2 A10.out).mono ?_); (case side1 => repeat (first | exact HR707.out | (with_reducible refine Kd.C_alloc ?_ _) | (with_reducible refine Kd.C_drewN ?_ _) | (with_reducible refine Kd.C_drew ?_))); (case side2 => exact HC707.out); rintro e w' ⟨rfl, ⟨nd, rfl⟩⟩; (try first | exact ⟨rfl, _, World.drewN_drewN _ _ _⟩ | exact ⟨rfl, _, Eq.trans (World.drewN_drewN _ _ _) (congrArg (World.drewN _) (Nat.add_assoc _ _ _))⟩))))
         go_ret
         exact ⟨by first | rfl | (simp; done) | (simp [*]; done), by repeat (first | exact Drawn0.refl _ | apply Drawn0.step)⟩
        ·rw [if_neg c11] at H
         have c11b0 : decide (0 ≤ t709) = false := decide_eq_false c11
         clear c11
         have H' := Aside0.mk H
         clear H
         have p700 : 0 ≤ (x3_1 : Int) := of_decide_eq_true za
         have q700 : x3_1 < (l0.length : Int) := of_decide_eq_true za
         obtain ⟨ad700, e700, hx700_0, hx700_1⟩ := at_T107 HR0.out x3_1 p700 q700
         cases e700
         replace p700 := eq_true p700
         replace q700 := eq_true q700
         have p702 : 0 ≤ (x3_1 : Int) := of_decide_eq_true za; have q702 : x3_1 < (l0.length : Int) := of_decide_eq_true za; obtain ⟨ad702, e702, hx702_0, hx702_1⟩ := at_T107 HR0.out x3_1 p702 q702; obtain rfl : ad700 = ad702 := (by injection e702); replace p702 := eq_true p702; replace q702 := eq_true q702
         have q13 : (x3_1 : Int) ≤ ((l0.length : Int) : Int) := of_decide_eq_true za; obtain ⟨i013, hi013, _, hsz13, _⟩ := info_parts info107; have hroom13 : l0.length ≤ c0 := HC0.out; have hC13 : Kd.C k107 _ (some ad700) l0.length l0 := HR0.out; have hcut13 := cut_to (P := Try.prog) 55 107 .i64 Try.underlying55 hi013 (some ad700) l0.length c0 x3_1 (of_decide_eq_true za) q13 hroom13; have hr13 := Kd.C_take (m := (x3_1 : Int).toNat) hC13 (by omega); have hy13 : y704.length = (x3_1 : Int).toNat := (by rw [Ny704.out, List.length_take]; omega); rw [← Ny704.out] at hr13; rw [← hy13] at hcut13; have HR707 := Aside0.mk hr13; have HC707 := Aside0.mk (show y704.length ≤ c0 from by omega); clear hr13 hC13 hroom13 hi013 hsz13; have KY13 := Aside0.mk hy13; clear hy13; replace q13 := eq_true q13; have p708 : 0 ≤ (x3_1 : Int) := of_decide_eq_true za; have q708 : x3_1 < (l0.length : Int) := of_decide_eq_true za; obtain ⟨ad708, e708, hx708_0, hx708_1⟩ := at_T107 HR0.out x3_1 p708 q708; obtain rfl : ad700 = ad708 := (by injection e708); replace p708 := eq_true p708; replace q708 := eq_true q708
         go_wp2_with (first | (go_at_call 129; (with_reducible refine (spec_validName.calls k1 ((rd_T107 l0 x3_1).f0) true _ A4.out).mono ?_); rintro e w' ⟨rfl, ⟨nd, rfl⟩⟩; (try first | exact ⟨rfl, _, World.drewN_drewN _ _ _⟩ | exact ⟨rfl, _, Eq.trans (World.drewN_drewN _ _ _) (congrArg (World.drewN _) (Nat.add_assoc _ _ _))⟩); have p702 : 0 ≤ (x3_1 : Int) := of_decide_eq_true za; have q702 : x3_1 < (l0.length : Int) := of_decide_eq_true za; obtain ⟨ad702, e702, hx702_0, hx702_1⟩ := at_T107 HR0.out x3_1 p702 q702; obtain rfl : ad700 = ad702 := (by injection e702); replace p702 := eq_true p702; replace q702 := eq_true q702) | (go_at_call 130; (with_reducible refine (spec_turnAt.calls k1 _ _ l0 ((rd_T107 l0 x3_1).f1) t703 _ ?side1 ?side2 A6.out).mono ?_); (case side1 => repeat (first | exact HR0.out | (with_reducible refine Kd.C_alloc ?_ _) | (with_reducible refine Kd.C_drewN ?_ _) | (with_reducible refine Kd.C_drew ?_))); (case side2 => exact HC0.out); rintro e w' ⟨rfl, ⟨nd, rfl⟩⟩; (try first | exact ⟨rfl, _, World.drewN_drewN _ _ _⟩ | exact ⟨rfl, _, Eq.trans (World.drewN_drewN _ _ _) (congrArg (World.drewN _) (Nat.add_assoc _ _ _))⟩); have q13 : (x3_1 : Int) ≤ ((l0.length : Int) : Int) := of_decide_eq_true za; obtain ⟨i013, hi013, _, hsz13, _⟩ := info_parts info107; have hroom13 : l0.length ≤ c0 := HC0.out; have hC13 : Kd.C k107 _ (some ad700) l0.length l0 := HR0.out; have hcut13 := cut_to (P := Try.prog) 55 107 .i64 Try.underlying55 hi013 (some ad700) l0.length c0 x3_1 (of_decide_eq_true za) q13 hroom13; have hr13 := Kd.C_take (m := (x3_1 : Int).toNat) hC13 (by omega); have hy13 : y704.length = (x3_1 : Int).toNat := (by rw [Ny704.out, List.length_take]; omega); rw [← Ny704.out] at hr13; rw [← hy13] at hcut13; have HR707 := Aside0.mk hr13; have HC707 := Aside0.mk (show y704.length ≤ c0 from by omega); clear hr13 hC13 hroom13 hi013 hsz13; have KY13 := Aside0.mk hy13; clear hy13; replace q13 := eq_true q13; have p708 : 0 ≤ (x3_1 : Int) := of_decide_eq_true za; have q708 : x3_1 < (l0.length : Int) := of_decide_eq_true za; obtain ⟨ad708, e708, hx708_0, hx708_1⟩ := at_T107 HR0.out x3_1 p708 q708; obtain rfl : ad700 = ad708 := (by injection e708); replace p708 := eq_true p708; replace q708 := eq_true q708) | (go_at_call 130; (with_reducible refine (spec_turnAt.calls k1 _ _ y704 ((rd_T107 l0 x3_1).f0) t709 _ ?side1 ?side2 A10.out).mono ?_); (case side1 => repeat (first | exact HR707.out | (with_reducible refine Kd.C_alloc ?_ _) | (with_reducible refine Kd.C_drewN ?_ _) | (with_reducible refine Kd.C_drew ?_))); (case side2 => exact HC707.out); rintro e w' ⟨rfl, ⟨nd, rfl⟩⟩; (try first | exact ⟨rfl, _, World.drewN_drewN _ _ _⟩ | exact ⟨rfl, _, Eq.trans (World.drewN_drewN _ _ _) (congrArg (World.drewN _) (Nat.add_assoc _ _ _))⟩)))
         repeat (go_quiet (first | (go_at_call 129; (with_reducible refine (spec_validName.calls k1 ((rd_T107 l0 x3_1).f0) true _ A4.out).mono ?_); rintro e w' ⟨rfl, ⟨nd, rfl⟩⟩; (try first | exact ⟨rfl, _, World.drewN_drewN _ _ _⟩ | exact ⟨rfl, _, Eq.trans (World.drewN_drewN _ _ _) (congrArg (World.drewN _) (Nat.add_assoc _ _ _))⟩)) | (go_at_call 130; (with_reducible refine (spec_turnAt.calls k1 _ _ l0 ((rd_T107 l0 x3_1).f1) t703 _ ?side1 ?side2 A6.out).mono ?_); (case side1 => repeat (first | exact HR0.out | (with_reducible refine Kd.C_alloc ?_ _) | (with_reducible refine Kd.C_drewN ?_ _) | (with_reducible refine Kd.C_drew ?_))); (case side2 => exact HC0.out); rintro e w' ⟨rfl, ⟨nd, rfl⟩⟩; (try first | exact ⟨rfl, _, World.drewN_drewN _ _ _⟩ | exact ⟨rfl, _, Eq.trans (World.drewN_drewN _ _ _) (congrArg (World.drewN _) (Nat.add_assoc _ _ _))⟩)) | (go_at_call 130; (with_reducible refine (spec_turnAt.calls k1 _ _ y704 ((rd_T107 l0 x3_1).f0) t709 _ ?side1 ?side2 A10.out).mono ?_); (case side1 => repeat (first | exact HR707.out | (with_reducible refine Kd.C_alloc ?_ _) | (with_reducible refine Kd.C_drewN ?_ _) | (with_reducible refine Kd.C_drew ?_))); (case side2 => exact HC707.out); rintro e w' ⟨rfl, ⟨nd, rfl⟩⟩; (try first | exact ⟨rfl, _, World.drewN_drewN _ _ _⟩ | exact ⟨rfl, _, Eq.trans (World.drewN_drewN _ _ _) (congrArg (World.drewN _) (Nat.add_assoc _ _ _))⟩))); try go_wp2_with (first | (go_at_call 129; (with_reducible refine (spec_validName.calls k1 ((rd_T107 l0 x3_1).f0) true _ A4.out).mono ?_); rintro e w' ⟨rfl, ⟨nd, rfl⟩⟩; (try first | exact ⟨rfl, _, World.drewN_drewN _ _ _⟩ | exact ⟨rfl, _, Eq.trans (World.drewN_drewN _ _ _) (congrArg (World.drewN _) (Nat.add_assoc _ _ _))⟩); have p702 : 0 ≤ (x3_1 : Int) := of_decide_eq_true za; have q702 : x3_1 < (l0.length : Int) := of_decide_eq_true za; obtain ⟨ad702, e702, hx702_0, hx702_1⟩ := at_T107 HR0.out x3_1 p702 q702; obtain rfl : ad700 = ad702 := (by injection e702); replace p702 := eq_true p702; replace q702 := eq_true q702) | (go_at_call 130; (with_reducible refine (spec_turnAt.calls k1 _ _ l0 ((rd_T107 l0 x3_1).f1) t703 _ ?side1 ?side2 A6.out).mono ?_); (case side1 => repeat (first | exact HR0.out | (with_reducible refine Kd.C_alloc ?_ _) | (with_reducible refine Kd.C_drewN ?_ _) | (with_reducible refine Kd.C_drew ?_))); (case side2 => exact HC0.out); rintro e w' ⟨rfl, ⟨nd, rfl⟩⟩; (try first | exact ⟨rfl, _, World.drewN_drewN _ _ _⟩ | exact ⟨rfl, _, Eq.trans (World.drewN_drewN _ _ _) (congrArg (World.drewN _) (Nat.add_assoc _ _ _))⟩); have q13 : (x3_1 : Int) ≤ ((l0.length : Int) : Int) := of_decide_eq_true za; obtain ⟨i013, hi013, _, hsz13, _⟩ := info_parts info107; have hroom13 : l0.length ≤ c0 := HC0.out; have hC13 : Kd.C k107 _ (some ad700) l0.length l0 := HR0.out; have hcut13 := cut_to (P := Try.prog) 55 107 .i64 Try.underlying55 hi013 (some ad700) l0.length c0 x3_1 (of_decide_eq_true za) q13 hroom13; have hr13 := Kd.C_take (m := (x3_1 : Int).toNat) hC13 (by omega); have hy13 : y704.length = (x3_1 : Int).toNat := (by rw [Ny704.out, List.length_take]; omega); rw [← Ny704.out] at hr13; rw [← hy13] at hcut13; have HR707 := Aside0.mk hr13; have HC707 := Aside0.mk (show y704.length ≤ c0 from by omega); clear hr13 hC13 hroom13 hi013 hsz13; have KY13 := Aside0.mk hy13; clear hy13; replace q13 := eq_true q13; have p708 : 0 ≤ (x3_1 : Int) := of_decide_eq_true za; have q708 : x3_1 < (l0.length : Int) := of_decide_eq_true za; obtain ⟨ad708, e708, hx708_0, hx708_1⟩ := at_T107 HR0.out x3_1 p708 q708; obtain rfl : ad700 = ad708 := (by injection e708); replace p708 := eq_true p708; replace q708 := eq_true q708) | (go_at_call 130; (with_reducible refine (spec_turnAt.calls k1 _ _ y704 ((rd_T107 l0 x3_1).f0) t709 _ ?side1 ?side2 A10.out).mono ?_); (case side1 => repeat (first | exact HR707.out | (with_reducible refine Kd.C_alloc ?_ _) | (with_reducible refine Kd.C_drewN ?_ _) | (with_reducible refine Kd.C_drew ?_))); (case side2 => exact HC707.out); rintro e w' ⟨rfl, ⟨nd, rfl⟩⟩; (try first | exact ⟨rfl, _, World.drewN_drewN _ _ _⟩ | exact ⟨rfl, _, Eq.trans (World.drewN_drewN _ _ _) (congrArg (World.drewN _) (Nat.add_assoc _ _ _))⟩))))
         go_loopg [4] k1 (fun kq v4 w' => ∃ (x4_2 : Int), v4 = .int .i64 x4_2 ∧ Aside0 (spec_validTurns.l1 kq l0 x3_1 x4_2 = some r) ∧ Aside0 (kq ≤ k1) ∧ Drawn0 w w')
         case atStart => exact ⟨(0), zr, H', ⟨Nat.le_refl _⟩, by repeat (first | exact Drawn0.refl _ | apply Drawn0.step)⟩
         case round =>
          clear H'
          try clear c1
          try clear q1
          try clear c2
          try clear c2b0
          try clear p2
          try clear c3
          try clear c3b0
          try clear c5
          try clear c7
          try clear c7b0
          try clear p7
          try clear q7
          try clear hx7
          try clear c8
          try clear c8b0
          try clear c9
          try clear c9b0
          try clear c9b1
          try clear c11
          try clear c11b0
          try clear q12
          try clear q13
          try clear hx700_0
          try clear hx700_1
          try clear hx702_0
          try clear hx702_1
          try clear hx708_0
          try clear hx708_1
          try clear p700
          try clear p702
          try clear p708
          try clear q12
          try clear q13
          try clear q700
          try clear q702
          try clear q708
          obtain ⟨x4_2, rfl, HA, HK2, ⟨m2, rfl⟩⟩ := hrel
          cases gk with
          | zero => exact absurd HA.out (by simp [spec_validTurns.l1])
          | succ k2 =>
           have H := HA.out
           clear HA
           simp only [spec_validTurns.l1] at H
           by_cases c14 : x4_2 < x3_1
           ·rw [if_pos c14] at H
            have c14b0 : decide (x4_2 < x3_1) = true := decide_eq_true c14
            clear c14
            by_cases c15 : 0 ≤ x4_2
            ·rw [if_pos c15] at H
             have c15b0 : decide (0 ≤ x4_2) = true := decide_eq_true c15
             clear c15
             by_cases c16 : x4_2 < (l0.length : Int)
             ·rw [if_pos c16] at H
              have c16b0 : decide (x4_2 < (l0.length : Int)) = true := decide_eq_true c16
              clear c16
              by_cases c17 : 0 ≤ x3_1
              ·rw [if_pos c17] at H
               have c17b0 : decide (0 ≤ x3_1) = true := decide_eq_true c17
               clear c17
               by_cases c18 : x3_1 < (l0.length : Int)
               ·rw [if_pos c18] at H
                have c18b0 : decide (x3_1 < (l0.length : Int)) = true := decide_eq_true c18
                clear c18
                by_cases c19 : ((rd_T107 l0 x4_2).f1).toList = ((rd_T107 l0 x3_1).f1).toList
                ·rw [if_pos c19] at H
                 have c19b0 : (((rd_T107 l0 x4_2).f1).toList == ((rd_T107 l0 x3_1).f1).toList) = true := beq_iff_eq.mpr c19
                 have c19b1 : (((rd_T107 l0 x4_2).f1).toList != ((rd_T107 l0 x3_1).f1).toList) = false := bne_eq_false_iff_eq.mpr c19
                 clear c19
                 obtain rfl := Option.some.inj H
                 have p710 : 0 ≤ (x4_2 : Int) := of_decide_eq_true za
                 have q710 : x4_2 < (l0.length : Int) := of_decide_eq_true za
                 obtain ⟨ad710, e710, hx710_0, hx710_1⟩ := at_T107 HR0.out x4_2 p710 q710
                 obtain rfl : ad700 = ad710 := (by injection e710)
                 replace p710 := eq_true p710
                 replace q710 := eq_true q710
                 have p711 : 0 ≤ (x3_1 : Int) := of_decide_eq_true za
                 have q711 : x3_1 < (l0.length : Int) := of_decide_eq_true za
                 obtain ⟨ad711, e711, hx711_0, hx711_1⟩ := at_T107 HR0.out x3_1 p711 q711
                 obtain rfl : ad700 = ad711 := (by injection e711)
                 replace p711 := eq_true p711
                 replace q711 := eq_true q711
                 go_wp2
                 repeat (go_quiet (fail); try go_wp2)
                 go_ret
                 exact ⟨by first | rfl | (simp; done) | (simp [*]; done), by repeat (first | exact Drawn0.refl _ | apply Drawn0.step)⟩
                ·rw [if_neg c19] at H
                 have c19b0 : (((rd_T107 l0 x4_2).f1).toList == ((rd_T107 l0 x3_1).f1).toList) = false := beq_eq_false_iff_ne.mpr c19
                 have c19b1 : (((rd_T107 l0 x4_2).f1).toList != ((rd_T107 l0 x3_1).f1).toList) = true := bne_iff_ne.mpr c19
                 have H' := Aside0.mk H
                 clear H
                 have p710 : 0 ≤ (x4_2 : Int) := of_decide_eq_true za
                 have q710 : x4_2 < (l0.length : Int) := of_decide_eq_true za
                 obtain ⟨ad710, e710, hx710_0, hx710_1⟩ := at_T107 HR0.out x4_2 p710 q710
                 obtain rfl : ad700 = ad710 := (by injection e710)
                 replace p710 := eq_true p710
                 replace q710 := eq_true q710
                 have p711 : 0 ≤ (x3_1 : Int) := of_decide_eq_true za
                 have q711 : x3_1 < (l0.length : Int) := of_decide_eq_true za
                 obtain ⟨ad711, e711, hx711_0, hx711_1⟩ := at_T107 HR0.out x3_1 p711 q711
                 obtain rfl : ad700 = ad711 := (by injection e711)
                 replace p711 := eq_true p711
                 replace q711 := eq_true q711
                 go_wp2
                 repeat (go_quiet (fail); try go_wp2)
                 go_roundg k2
                 case measure => have := HK1.out; have := HK2.out; omega
                 case rel => exact ⟨(wrap64 (x4_2 + 1)), zr, H', ⟨by have := HK1.out; have := HK2.out; omega⟩, by repeat (first | exact Drawn0.refl _ | apply Drawn0.step)⟩
               ·rw [if_neg c18] at H
                exact absurd H (by simp)
              ·rw [if_neg c17] at H
               exact absurd H (by simp)
             ·rw [if_neg c16] at H
              exact absurd H (by simp)
            ·rw [if_neg c15] at H
             exact absurd H (by simp)
           ·rw [if_neg c14] at H
            have c14b0 : decide (x4_2 < x3_1) = false := decide_eq_false c14
            clear c14
            have H' := Aside0.mk H
            clear H
            go_wp2
            repeat (go_quiet (fail); try go_wp2)
            go_roundg k2
            case measure => have := HK1.out; have := HK2.out; omega
            case rel => exact ⟨(wrap64 (x3_1 + 1)), zr, H', ⟨by have := HK1.out; have := HK2.out; omega⟩, by repeat (first | exact Drawn0.refl _ | apply Drawn0.step)⟩
       ·rw [if_neg c9] at H
        exact absurd H (by simp)
     ·replace c5 := Bool.eq_false_iff.mpr c5
      subst c5
      rw [if_neg (show ¬ (false = true) by decide)] at H
      obtain rfl := Option.some.inj H
      have p700 : 0 ≤ (x3_1 : Int) := of_decide_eq_true za
      have q700 : x3_1 < (l0.length : Int) := of_decide_eq_true za
      obtain ⟨ad700, e700, hx700_0, hx700_1⟩ := at_T107 HR0.out x3_1 p700 q700
      cases e700
      replace p700 := eq_true p700
      replace q700 := eq_true q700
      go_wp2_with (first | (go_at_call 129; (with_reducible refine (spec_validName.calls k1 ((rd_T107 l0 x3_1).f0) false _ A4.out).mono ?_); rintro e w' ⟨rfl, ⟨nd, rfl⟩⟩; (try first | exact ⟨rfl, _, World.drewN_drewN _ _ _⟩ | exact ⟨rfl, _, Eq.trans (World.drewN_drewN _ _ _) (congrArg (World.drewN _) (Nat.add_assoc _ _ _))⟩)))
      repeat (go_quiet (first | (go_at_call 129; (with_reducible refine (spec_validName.calls k1 ((rd_T107 l0 x3_1).f0) false _ A4.out).mono ?_); rintro e w' ⟨rfl, ⟨nd, rfl⟩⟩; (try first | exact ⟨rfl, _, World.drewN_drewN _ _ _⟩ | exact ⟨rfl, _, Eq.trans (World.drewN_drewN _ _ _) (congrArg (World.drewN _) (Nat.add_assoc _ _ _))⟩))); try go_wp2_with (first | (go_at_call 129; (with_reducible refine (spec_validName.calls k1 ((rd_T107 l0 x3_1).f0) false _ A4.out).mono ?_); rintro e w' ⟨rfl, ⟨nd, rfl⟩⟩; (try first | exact ⟨rfl, _, World.drewN_drewN _ _ _⟩ | exact ⟨rfl, _, Eq.trans (World.drewN_drewN _ _ _) (congrArg (World.drewN _) (Nat.add_assoc _ _ _))⟩))))
      go_ret
      exact ⟨by first | rfl | (simp; done) | (simp [*]; done), by repeat (first | exact Drawn0.refl _ | apply Drawn0.step)⟩
    ·rw [if_neg c3] at H
     exact absurd H (by simp)
   ·rw [if_neg c2] at H
    have c2b0 : decide (x3_1 < (l0.length : Int)) = false := decide_eq_false c2
    clear c2
    obtain rfl := Option.some.inj H
    go_wp2
    repeat (go_quiet (fail); try go_wp2)
    go_ret
    exact ⟨by first | rfl | (simp; done) | (simp [*]; done), by repeat (first | exact Drawn0.refl _ | apply Drawn0.step)⟩

end Go.Proofs.Ytfcpbgedgedalaa.Q

namespace Go.Proofs.Ytfcpbgedgedalaa.Q
open Go.RowKit Go.Proofs.YtfcpbgedgedalaaL.PrintWords Go.Proofs.YtfcpbgedgedalaaL.PrintLast Go.Proofs.YtfcpbgedgedalaaL.PrintMore
attribute [local go_sem] max2_int min2_int max_two min_two max_three min_three max_four min_four   -- for this text's walks alone
set_option linter.unusedVariables false
set_option linter.unusedSimpArgs false

/-! ### spec_hasText: function 79 -/
def spec_hasText.l0 : Nat → List ByteArray → ByteArray → Int → Option (Bool)
 | 0, _, _, _ => none
 | k + 1, x0, x1, x5 => if x5 < (x0.length : Int) then (if 0 ≤ x5 then (if (rdOf ByteArray.empty x0 x5).toList = x1.toList then (some true) else (spec_hasText.l0 k x0 x1 (wrap64 (x5 + 1)))) else (none)) else (some false)
def spec_hasText.f (k : Nat) (l0 : List ByteArray) (a1 : ByteArray) : Option (Bool) := spec_hasText.l0 k l0 a1 0
theorem spec_hasText.mono_l : ∀ k, (∀ y0 y1 y2, LeO (spec_hasText.l0 k y0 y1 y2) (spec_hasText.l0 (k + 1) y0 y1 y2))
 | 0 => fun _ _ _ r h => by simp [spec_hasText.l0] at h
 | k + 1 => by
  have ih0 := spec_hasText.mono_l k
  ·intro y0 y1 y2
   unfold spec_hasText.l0
   repeat' first
   | (with_reducible exact ih0 _ _ _)
   | (with_reducible exact LeO.refl _)
   | (with_reducible exact LeO.none _)
   | (with_reducible refine LeO.ite ?_ ?_)
   | (with_reducible refine LeO.bind ?_ (fun _ => ?_))
   | exact ih0 _ _ _
   | exact LeO.none _
   | refine LeO.ite ?_ ?_
   | refine LeO.bind ?_ (fun _ => ?_)
theorem spec_hasText.mono : ∀ a0 a1 k, LeO (spec_hasText.f k a0 a1) (spec_hasText.f (k + 1) a0 a1) := by
 intro a0 a1 k
 have ih0 := spec_hasText.mono_l k
 unfold spec_hasText.f
 repeat' first
   | (with_reducible exact ih0 _ _ _)
   | (with_reducible exact LeO.refl _)
   | (with_reducible exact LeO.none _)
   | (with_reducible refine LeO.ite ?_ ?_)
   | (with_reducible refine LeO.bind ?_ (fun _ => ?_))
   | exact ih0 _ _ _
   | exact LeO.none _
   | refine LeO.ite ?_ ?_
   | refine LeO.bind ?_ (fun _ => ?_)
set_option maxHeartbeats 8000000 in
set_option maxRecDepth 100000 in
theorem spec_hasText.calls (k : Nat) (A0 : Option Addr) (c0 : Nat) (l0 : List ByteArray) (a1 : ByteArray) (r : Bool) (w : World) (hr0 : Kd.C Kd.string w A0 l0.length l0) (hc0 : l0.length ≤ c0) (h : spec_hasText.f k l0 a1 = some r) :
  Calls Try.prog 79 #[.slice A0 l0.length c0, .string a1] w fun e w' => e = .returned (.bool r) ∧ Drawn0 w w' := by
 have HR0 := Aside0.mk hr0
 have HC0 := Aside0.mk hc0
 clear hr0 hc0
 have H : (spec_hasText.l0 k l0 a1 0) = some r := h
 clear h
 have H' := Aside0.mk H
 clear H
 go_enter Try.func79, Try.ntmps79
 go_wp2
 go_loopg [5] k (fun kq v5 w' => ∃ (x5_1 : Int), v5 = .int .i64 x5_1 ∧ Aside0 (spec_hasText.l0 kq l0 a1 x5_1 = some r) ∧ Aside0 (kq ≤ k) ∧ Drawn0 w w')
 case atStart => exact ⟨(0), zr, H', ⟨Nat.le_refl _⟩, by repeat (first | exact Drawn0.refl _ | apply Drawn0.step)⟩
 case round =>
  clear H'
  try clear p2
  obtain ⟨x5_1, rfl, HA, HK1, ⟨m1, rfl⟩⟩ := hrel
  cases gk with
  | zero => exact absurd HA.out (by simp [spec_hasText.l0])
  | succ k1 =>
   have H := HA.out
   clear HA
   simp only [spec_hasText.l0] at H
   by_cases c3 : x5_1 < (l0.length : Int)
   ·rw [if_pos c3] at H
    have c3b0 : decide (x5_1 < (l0.length : Int)) = true := decide_eq_true c3
    clear c3
    by_cases c4 : 0 ≤ x5_1
    ·rw [if_pos c4] at H
     have c4b0 : decide (0 ≤ x5_1) = true := decide_eq_true c4
     clear c4
     by_cases c5 : (rdOf ByteArray.empty l0 x5_1).toList = a1.toList
     ·rw [if_pos c5] at H
      have c5b0 : ((rdOf ByteArray.empty l0 x5_1).toList == a1.toList) = true := beq_iff_eq.mpr c5
      have c5b1 : ((rdOf ByteArray.empty l0 x5_1).toList != a1.toList) = false := bne_eq_false_iff_eq.mpr c5
      clear c5
      obtain rfl := Option.some.inj H
      have p712 : 0 ≤ (x5_1 : Int) := of_decide_eq_true za
      have q712 : x5_1 < (l0.length : Int) := of_decide_eq_true za
      obtain ⟨ad712, e712, hx712_0⟩ := Kd.at_string HR0.out x5_1 p712 q712
      cases e712
      replace p712 := eq_true p712
      replace q712 := eq_true q712
      go_wp2
      go_ret
      exact ⟨by first | rfl | (simp; done) | (simp [*]; done), by repeat (first | exact Drawn0.refl _ | apply Drawn0.step)⟩
     ·rw [if_neg c5] at H
      have c5b0 : ((rdOf ByteArray.empty l0 x5_1).toList == a1.toList) = false := beq_eq_false_iff_ne.mpr c5
      have c5b1 : ((rdOf ByteArray.empty l0 x5_1).toList != a1.toList) = true := bne_iff_ne.mpr c5
      have H' := Aside0.mk H
      clear H
      have p712 : 0 ≤ (x5_1 : Int) := of_decide_eq_true za
      have q712 : x5_1 < (l0.length : Int) := of_decide_eq_true za
      obtain ⟨ad712, e712, hx712_0⟩ := Kd.at_string HR0.out x5_1 p712 q712
      cases e712
      replace p712 := eq_true p712
      replace q712 := eq_true q712
      go_wp2
      go_roundg k1
      case measure => have := HK1.out; omega
      case rel => exact ⟨(wrap64 (x5_1 + 1)), zr, H', ⟨by have := HK1.out; omega⟩, by repeat (first | exact Drawn0.refl _ | apply Drawn0.step)⟩
    ·rw [if_neg c4] at H
     exact absurd H (by simp)
   ·rw [if_neg c3] at H
    have c3b0 : decide (x5_1 < (l0.length : Int)) = false := decide_eq_false c3
    clear c3
    obtain rfl := Option.some.inj H
    go_wp2
    go_ret
    exact ⟨by first | rfl | (simp; done) | (simp [*]; done), by repeat (first | exact Drawn0.refl _ | apply Drawn0.step)⟩

/-! ### spec_turned: function 80 -/
def spec_turned.f (k : Nat) (l0 : List (S107)) (a1 : ByteArray) : Option (ByteArray) := (spec_turnAt.f k l0 a1).bind fun t713 => (if t713 ≥ 0 then (if 0 ≤ t713 then (if t713 < (l0.length : Int) then (some ((rd_T107 l0 t713).f1)) else (none)) else (none)) else (some a1))
theorem spec_turned.mono : ∀ a0 a1 k, LeO (spec_turned.f k a0 a1) (spec_turned.f (k + 1) a0 a1) := by
 intro a0 a1 k
 unfold spec_turned.f
 repeat' first
   | (with_reducible exact spec_turnAt.mono _ _ _)
   | (with_reducible exact LeO.refl _)
   | (with_reducible exact LeO.none _)
   | (with_reducible refine LeO.ite ?_ ?_)
   | (with_reducible refine LeO.bind ?_ (fun _ => ?_))
   | exact spec_turnAt.mono _ _ _
   | exact LeO.none _
   | refine LeO.ite ?_ ?_
   | refine LeO.bind ?_ (fun _ => ?_)
set_option maxHeartbeats 8000000 in
set_option maxRecDepth 100000 in
theorem spec_turned.calls (k : Nat) (A0 : Option Addr) (c0 : Nat) (l0 : List (S107)) (a1 : ByteArray) (r : ByteArray) (w : World) (hr0 : Kd.C k107 w A0 l0.length l0) (hc0 : l0.length ≤ c0) (h : spec_turned.f k l0 a1 = some r) :
  Calls Try.prog 80 #[.slice A0 l0.length c0, .string a1] w fun e w' => e = .returned (.string r) ∧ Drawn0 w w' := by
 have HR0 := Aside0.mk hr0
 have HC0 := Aside0.mk hc0
 clear hr0 hc0
 have H : ((spec_turnAt.f k l0 a1).bind fun t713 => (if t713 ≥ 0 then (if 0 ≤ t713 then (if t713 < (l0.length : Int) then (some ((rd_T107 l0 t713).f1)) else (none)) else (none)) else (some a1))) = some r := h
 clear h
 replace H := Option.bind_eq_some_iff.mp H
 obtain ⟨t713, A30, H⟩ := H
 (try dsimp only at H)
 have A3 := Aside0.mk A30
 clear A30
 by_cases c4 : t713 ≥ 0
 ·rw [if_pos c4] at H
  have c4b0 : decide (0 ≤ t713) = true := decide_eq_true c4
  clear c4
  by_cases c5 : 0 ≤ t713
  ·rw [if_pos c5] at H
   have c5b0 : decide (0 ≤ t713) = true := decide_eq_true c5
   clear c5
   by_cases c6 : t713 < (l0.length : Int)
   ·rw [if_pos c6] at H
    have c6b0 : decide (t713 < (l0.length : Int)) = true := decide_eq_true c6
    clear c6
    obtain rfl := Option.some.inj H
    go_enter Try.func80, Try.ntmps80
    go_wp2_with (first | ((with_reducible refine gate_callee (f := 130) rfl ?_); refine goesL_ (some 8) rfl rfl Try.func130 (by kernel_rfl) rfl #[.slice A0 l0.length c0, .string a1] rfl zl ?_; (with_reducible refine (spec_turnAt.calls k _ _ l0 a1 t713 _ ?side1 ?side2 A3.out).mono ?_); (case side1 => repeat (first | exact HR0.out | (with_reducible refine Kd.C_alloc ?_ _) | (with_reducible refine Kd.C_drewN ?_ _) | (with_reducible refine Kd.C_drew ?_))); (case side2 => exact HC0.out); rintro e w' ⟨rfl, ⟨nd, rfl⟩⟩; refine ⟨_, rfl, ?_⟩; have p714 : 0 ≤ (t713 : Int) := of_decide_eq_true za; have q714 : t713 < (l0.length : Int) := of_decide_eq_true za; obtain ⟨ad714, e714, hx714_0, hx714_1⟩ := at_T107 HR0.out t713 p714 q714; cases e714; replace p714 := eq_true p714; replace q714 := eq_true q714))
    go_ret
    exact ⟨by first | rfl | (simp; done) | (simp [*]; done), by repeat (first | exact Drawn0.refl _ | apply Drawn0.step)⟩
   ·rw [if_neg c6] at H
    exact absurd H (by simp)
  ·rw [if_neg c5] at H
   exact absurd H (by simp)
 ·rw [if_neg c4] at H
  have c4b0 : decide (0 ≤ t713) = false := decide_eq_false c4
  clear c4
  obtain rfl := Option.some.inj H
  go_enter Try.func80, Try.ntmps80
  go_wp2_with (first | ((with_reducible refine gate_callee (f := 130) rfl ?_); refine goesL_ (some 8) rfl rfl Try.func130 (by kernel_rfl) rfl #[.slice A0 l0.length c0, .string a1] rfl zl ?_; (with_reducible refine (spec_turnAt.calls k _ _ l0 a1 t713 _ ?side1 ?side2 A3.out).mono ?_); (case side1 => repeat (first | exact HR0.out | (with_reducible refine Kd.C_alloc ?_ _) | (with_reducible refine Kd.C_drewN ?_ _) | (with_reducible refine Kd.C_drew ?_))); (case side2 => exact HC0.out); rintro e w' ⟨rfl, ⟨nd, rfl⟩⟩; refine ⟨_, rfl, ?_⟩))
  go_ret
  exact ⟨by first | rfl | (simp; done) | (simp [*]; done), by repeat (first | exact Drawn0.refl _ | apply Drawn0.step)⟩

end Go.Proofs.Ytfcpbgedgedalaa.Q

namespace Go.Proofs.Ytfcpbgedgedalaa.Q
open Go.RowKit Go.Proofs.YtfcpbgedgedalaaL.PrintWords Go.Proofs.YtfcpbgedgedalaaL.PrintLast Go.Proofs.YtfcpbgedgedalaaL.PrintMore
attribute [local go_sem] max2_int min2_int max_two min_two max_three min_three max_four min_four   -- for this text's walks alone
set_option linter.unusedVariables false
set_option linter.unusedSimpArgs false

/-! ### spec_validSignature: function 98 -/
def spec_validSignature.f (k : Nat) (l0_0 : List (S123)) : Option (Bool) := (spec_validParams.f k l0_0).bind fun t1114 => (some t1114)
theorem spec_validSignature.mono : ∀ a0 k, LeO (spec_validSignature.f k a0) (spec_validSignature.f (k + 1) a0) := by
 intro a0 k
 unfold spec_validSignature.f
 repeat' first
   | (with_reducible exact spec_validParams.mono _ _)
   | (with_reducible exact LeO.refl _)
   | (with_reducible exact LeO.none _)
   | (with_reducible refine LeO.ite ?_ ?_)
   | (with_reducible refine LeO.bind ?_ (fun _ => ?_))
   | exact spec_validParams.mono _ _
   | exact LeO.none _
   | refine LeO.ite ?_ ?_
   | refine LeO.bind ?_ (fun _ => ?_)
set_option maxHeartbeats 8000000 in
set_option maxRecDepth 100000 in
theorem spec_validSignature.calls (k : Nat) (A0_0 : Option Addr) (c0_0 : Nat) (l0_0 : List (S123)) (r : Bool) (w : World) (hr0_0 : Kd.C k123 w A0_0 l0_0.length l0_0) (hc0_0 : l0_0.length ≤ c0_0) (h : spec_validSignature.f k l0_0 = some r) :
  Calls Try.prog 98 #[.agg #[.slice A0_0 l0_0.length c0_0]] w fun e w' => e = .returned (.bool r) ∧ Below w.heap.size w w' := by
 have hu71 := Try.underlying71
 have HR0_0 := Aside0.mk hr0_0
 have HC0_0 := Aside0.mk hc0_0
 clear hr0_0 hc0_0
 have HB := Aside0.mk (Below.refl w.heap.size w)
 have H : ((spec_validParams.f k l0_0).bind fun t1114 => (some t1114)) = some r := h
 clear h
 replace H := Option.bind_eq_some_iff.mp H
 obtain ⟨t1114, A20, H⟩ := H
 (try dsimp only at H)
 have A2 := Aside0.mk A20
 clear A20
 obtain rfl := Option.some.inj H
 go_enter Try.func98, Try.ntmps98
 go_wp2_with (first | ((with_reducible refine gate_dst (N := 1) rfl ?_); refine box_event ?hg (N := 1) ?hd (cs := #[.slice A0_0 l0_0.length c0_0]) (t := 71) ?hr ?_; (case hd => rfl); (case hg => rfl); (case hr => first | (go_simp; done) | (go_simp; rfl)); intro gb1113 hg w3 hbox hb; have BK1113 := Aside0.mk (hbox); have GW1113 := Aside0.mk ((by rw [hg]; exact (below_size (zB HB)) : w.heap.size ≤ gb1113)); have GE1113 := Aside0.mk ((by rw [hg]; exact (below_size (zB HB)) : w.heap.size ≤ gb1113)); replace HB := Aside0.mk (below_step (zB HB) hb); clear hb hbox hg; have hcz4_0 : w3.cell? ⟨gb1113, 0, none⟩ = some (.slice A0_0 l0_0.length c0_0) := (blk_cell BK1113.out 0).trans rfl; have hfz4_0 := blk_frozen BK1113.out 0) | ((with_reducible refine gate_callee (f := 136) rfl ?_); refine goesL_ (some 5) rfl rfl Try.func136 (by kernel_rfl) rfl #[.slice A0_0 l0_0.length c0_0] rfl zl ?_; (with_reducible refine (spec_validParams.calls k _ _ l0_0 t1114 _ ?side1 ?side2 A2.out).mono ?_); (case side1 => repeat (first | exact (Kd.C_below HR0_0.out HB.out) | (with_reducible refine Kd.C_alloc ?_ _) | (with_reducible refine Kd.C_drewN ?_ _) | (with_reducible refine Kd.C_drew ?_))); (case side2 => exact HC0_0.out); rintro e w5 ⟨rfl, hb⟩; refine ⟨_, rfl, ?_⟩; replace BK1113 := Aside0.mk (blk_below (g := gb1113) (o := .cells #[.slice A0_0 l0_0.length c0_0] 71 (0, 0)) (zb BK1113) hb); replace HB := Aside0.mk (below_step (zB HB) hb); (try clear hb); (try clear hb2); (try clear hk); (try clear hi)))
 go_ret
 exact ⟨by first | rfl | (simp [errW_none, errW_some] <;> rfl) | (simp [*, errW_none, errW_some] <;> rfl), zB HB⟩

end Go.Proofs.Ytfcpbgedgedalaa.Q

namespace Go.Proofs.Ytfcpbgedgedalaa.Q
open Go.RowKit Go.Proofs.YtfcpbgedgedalaaL.PrintWords Go.Proofs.YtfcpbgedgedalaaL.PrintLast Go.Proofs.YtfcpbgedgedalaaL.PrintMore
attribute [local go_sem] max2_int min2_int max_two min_two max_three min_three max_four min_four   -- for this text's walks alone
set_option linter.unusedVariables false
set_option linter.unusedSimpArgs false

/-! ### spec_TurnSignature: function 50 -/
mutual
def spec_TurnSignature.j0 : Nat → List (S107) → Bool → List (S123) → Option ((List (S123)))
 | 0, _, _, _ => none
 | k + 1, x0, x14, x1116000 => if x14 = true then (some ([] : List (S123))) else ((spec_copyParams.f x1116000).bind fun t1119 => (spec_TurnSignature.l0 k x0 t1119 0))
def spec_TurnSignature.l0 : Nat → List (S107) → List (S123) → Int → Option ((List (S123)))
 | 0, _, _, _ => none
 | k + 1, x0, x5, x6 => if x6 < (x5.length : Int) then (if 0 ≤ x6 then ((spec_turned.f k x0 ((rd_T123 x5 x6).f0)).bind fun t1123 => (spec_TurnSignature.l0 k x0 (x5.set (x6 : Int).toNat (⟨t1123, (rd_T123 x5 x6).f1, (rd_T123 x5 x6).f2, (rd_T123 x5 x6).f3⟩ : S123)) (wrap64 (x6 + 1)))) else (none)) else (some x5)
end
def spec_TurnSignature.f (k : Nat) (l0 : List (S107)) (l1_0 : List (S123)) : Option ((List (S123))) := (spec_validTurns.f k l0).bind fun t1117 => (if t1117 = true then ((spec_validSignature.f k l1_0).bind fun t1118 => (spec_TurnSignature.j0 k l0 (!t1118) l1_0)) else (spec_TurnSignature.j0 k l0 true l1_0))
theorem spec_TurnSignature.mono_l : ∀ k, (∀ y0 y1 y2, LeO (spec_TurnSignature.j0 k y0 y1 y2) (spec_TurnSignature.j0 (k + 1) y0 y1 y2)) ∧ (∀ y0 y1 y2, LeO (spec_TurnSignature.l0 k y0 y1 y2) (spec_TurnSignature.l0 (k + 1) y0 y1 y2))
 | 0 => ⟨fun _ _ _ r h => by simp [spec_TurnSignature.j0] at h, fun _ _ _ r h => by simp [spec_TurnSignature.l0] at h⟩
 | k + 1 => by
  obtain ⟨ih0, ih1⟩ := spec_TurnSignature.mono_l k
  refine ⟨?_, ?_⟩
  all_goals intros
  all_goals (first | unfold spec_TurnSignature.j0 | unfold spec_TurnSignature.l0)
  all_goals repeat' first
   | (with_reducible exact ih0 _ _ _)
   | (with_reducible exact ih1 _ _ _)
   | (with_reducible exact spec_turned.mono _ _ _)
   | (with_reducible exact spec_validSignature.mono _ _)
   | (with_reducible exact spec_validTurns.mono _ _)
   | (with_reducible exact LeO.refl _)
   | (with_reducible exact LeO.none _)
   | (with_reducible refine LeO.ite ?_ ?_)
   | (with_reducible refine LeO.bind ?_ (fun _ => ?_))
   | exact ih0 _ _ _
   | exact ih1 _ _ _
   | exact spec_turned.mono _ _ _
   | exact spec_validSignature.mono _ _
   | exact spec_validTurns.mono _ _
   | exact LeO.none _
   | refine LeO.ite ?_ ?_
   | refine LeO.bind ?_ (fun _ => ?_)
theorem spec_TurnSignature.mono : ∀ a0 a1 k, LeO (spec_TurnSignature.f k a0 a1) (spec_TurnSignature.f (k + 1) a0 a1) := by
 intro a0 a1 k
 obtain ⟨ih0, ih1⟩ := spec_TurnSignature.mono_l k
 unfold spec_TurnSignature.f
 repeat' first
   | (with_reducible exact ih0 _ _ _)
   | (with_reducible exact ih1 _ _ _)
   | (with_reducible exact spec_turned.mono _ _ _)
   | (with_reducible exact spec_validSignature.mono _ _)
   | (with_reducible exact spec_validTurns.mono _ _)
   | (with_reducible exact LeO.refl _)
   | (with_reducible exact LeO.none _)
   | (with_reducible refine LeO.ite ?_ ?_)
   | (with_reducible refine LeO.bind ?_ (fun _ => ?_))
   | exact ih0 _ _ _
   | exact ih1 _ _ _
   | exact spec_turned.mono _ _ _
   | exact spec_validSignature.mono _ _
   | exact spec_validTurns.mono _ _
   | exact LeO.none _
   | refine LeO.ite ?_ ?_
   | refine LeO.bind ?_ (fun _ => ?_)
set_option maxHeartbeats 8000000 in
set_option maxRecDepth 100000 in
theorem spec_TurnSignature.calls (k : Nat) (A0 : Option Addr) (c0 : Nat) (l0 : List (S107)) (A1_0 : Option Addr) (c1_0 : Nat) (l1_0 : List (S123)) (r : List (S123)) (w : World) (hr0 : Kd.C k107 w A0 l0.length l0) (hc0 : l0.length ≤ c0) (hr1_0 : Kd.C k123 w A1_0 l1_0.length l1_0) (hc1_0 : l1_0.length ≤ c1_0) (h : spec_TurnSignature.f k l0 l1_0 = some r) :
  Calls Try.prog 50 #[.slice A0 l0.length c0, .agg #[.slice A1_0 l1_0.length c1_0]] w fun e w' => ∃ v0_ : Value, e = .returned (.agg #[v0_]) ∧ Kd.R k123 123 w' w.heap.size (fun _ => True) v0_ r ∧ Below w.heap.size w w' := by
 have hu71 := Try.underlying71
 have HR0 := Aside0.mk hr0
 have HC0 := Aside0.mk hc0
 clear hr0 hc0
 have HR1_0 := Aside0.mk hr1_0
 have HC1_0 := Aside0.mk hc1_0
 clear hr1_0 hc1_0
 have HB := Aside0.mk (Below.refl w.heap.size w)
 have H : ((spec_validTurns.f k l0).bind fun t1117 => (if t1117 = true then ((spec_validSignature.f k l1_0).bind fun t1118 => (spec_TurnSignature.j0 k l0 (!t1118) l1_0)) else (spec_TurnSignature.j0 k l0 true l1_0))) = some r := h
 clear h
 have HC3 := Aside0.mk H
 clear H
 go_enter Try.func50, Try.ntmps50
 go_upto_region 1 with (first | ((with_reducible refine gate_dst (N := 3) rfl ?_); refine box_event ?hg (N := 3) ?hd (cs := #[.slice A1_0 l1_0.length c1_0]) (t := 71) ?hr ?_; (case hd => rfl); (case hg => rfl); (case hr => first | (go_simp; done) | (go_simp; rfl)); intro gb1115 hg w4 hbox hb; have BK1115 := Aside0.mk (hbox); have GW1115 := Aside0.mk ((by rw [hg]; exact (below_size (zB HB)) : w.heap.size ≤ gb1115)); have GE1115 := Aside0.mk ((by rw [hg]; exact (below_size (zB HB)) : w.heap.size ≤ gb1115)); replace HB := Aside0.mk (below_step (zB HB) hb); clear hb hbox hg) | ((with_reducible refine gate_dst (N := 4) rfl ?_); refine box_event ?hg (N := 4) ?hd (cs := #[.slice none 0 0]) (t := 71) ?hr ?_; (case hd => rfl); (case hg => rfl); (case hr => first | (go_simp; done) | (go_simp; rfl)); intro gb1116 hg w5 hbox hb; have BK1116 := Aside0.mk (hbox); have GW1116 := Aside0.mk ((by rw [hg]; exact (below_size (zB HB)) : w.heap.size ≤ gb1116)); have GE1116 := Aside0.mk ((by rw [hg]; exact (below_size (zB HB)) : w.heap.size ≤ gb1116)); replace HB := Aside0.mk (below_step (zB HB) hb); have NB1115_1116 := Aside0.mk ((by rw [hg]; exact Nat.ne_of_lt (blk_lt (g := gb1115) (o := .cells #[.slice A1_0 l1_0.length c1_0] 71 (0, 0)) (zb BK1115)) : gb1115 ≠ gb1116)); have NB1116_1115 := Aside0.mk ((by rw [hg]; exact Nat.ne_of_gt (blk_lt (g := gb1115) (o := .cells #[.slice A1_0 l1_0.length c1_0] 71 (0, 0)) (zb BK1115)) : gb1116 ≠ gb1115)); replace BK1115 := Aside0.mk (blk_below (g := gb1115) (o := .cells #[.slice A1_0 l1_0.length c1_0] 71 (0, 0)) (zb BK1115) hb); clear hb hbox hg))
 (try simp only [Act.put, List.setIfInBounds_toArray, List.set_cons_zero, List.set_cons_succ])
 go_cut [14] (fun v14 wc => ∃ (kq : Nat) (x14_2 : Bool), v14 = .bool x14_2 ∧ Aside0 (spec_TurnSignature.j0 kq l0 x14_2 l1_0 = some r) ∧ Aside0 (kq ≤ k) ∧ Aside0 (wc.heap[gb1115]? = some (.cells #[(.slice A1_0 l1_0.length c1_0)] 71 (0, 0))) ∧ Aside0 (wc.heap[gb1116]? = some (.cells #[(.slice none 0 0)] 71 (0, 0))) ∧ Aside0 (Below w.heap.size w wc))
 case first =>
  have H := HC3.out
  clear HC3
  replace H := Option.bind_eq_some_iff.mp H
  obtain ⟨t1117, A60, H⟩ := H
  (try dsimp only at H)
  have A6 := Aside0.mk A60
  clear A60
  by_cases c7 : t1117 = true
  ·subst c7
   rw [if_pos rfl] at H
   replace H := Option.bind_eq_some_iff.mp H
   obtain ⟨t1118, A80, H⟩ := H
   (try dsimp only at H)
   have A8 := Aside0.mk A80
   clear A80
   have H' := Aside0.mk H
   clear H
   go_wp2_with (first | ((with_reducible refine gate_callee (f := 78) rfl ?_); refine goesL_ (some 8) rfl rfl Try.func78 (by kernel_rfl) rfl #[.slice A0 l0.length c0] rfl zl ?_; (with_reducible refine (spec_validTurns.calls k _ _ l0 true _ ?side1 ?side2 A6.out).mono ?_); (case side1 => repeat (first | exact (Kd.C_below HR0.out HB.out) | (with_reducible refine Kd.C_alloc ?_ _) | (with_reducible refine Kd.C_drewN ?_ _) | (with_reducible refine Kd.C_drew ?_))); (case side2 => exact HC0.out); rintro e w' ⟨rfl, ⟨nd, rfl⟩⟩; refine ⟨_, rfl, ?_⟩; have hnb9 := NB1115_1116.out; have hnc9 := NB1116_1115.out; have hcz10_0 : w5.cell? ⟨gb1115, 0, none⟩ = some (.slice A1_0 l1_0.length c1_0) := (blk_cell BK1115.out 0).trans rfl; have hfz10_0 := blk_frozen BK1115.out 0) | (go_at_call 98; (with_reducible refine (spec_validSignature.calls k _ _ l1_0 t1118 _ ?side1 ?side2 A8.out).mono ?_); (case side1 => repeat (first | exact (Kd.C_below HR1_0.out (zB HB)) | (with_reducible refine Kd.C_alloc ?_ _) | (with_reducible refine Kd.C_drewN ?_ _) | (with_reducible refine Kd.C_drew ?_))); (case side2 => exact HC1_0.out); rintro e w11 ⟨rfl, hb⟩; replace BK1115 := Aside0.mk (blk_below (g := gb1115) (o := .cells #[.slice A1_0 l1_0.length c1_0] 71 (0, 0)) (zb BK1115) hb); replace BK1116 := Aside0.mk (blk_below (g := gb1116) (o := .cells #[.slice none 0 0] 71 (0, 0)) (zb BK1116) hb); replace HB := Aside0.mk (below_step (zB HB) hb); (try clear hb); (try clear hb2); (try clear hk); (try clear hi)))
   go_meet
   case rel => exact ⟨_, (!t1118), zr, H', ⟨by first | omega | exact Nat.le_refl _⟩, ⟨zb BK1115⟩, ⟨zb BK1116⟩, ⟨zB HB⟩⟩
  ·replace c7 := Bool.eq_false_iff.mpr c7
   subst c7
   rw [if_neg (show ¬ (false = true) by decide)] at H
   have H' := Aside0.mk H
   clear H
   go_wp2_with (first | ((with_reducible refine gate_callee (f := 78) rfl ?_); refine goesL_ (some 8) rfl rfl Try.func78 (by kernel_rfl) rfl #[.slice A0 l0.length c0] rfl zl ?_; (with_reducible refine (spec_validTurns.calls k _ _ l0 false _ ?side1 ?side2 A6.out).mono ?_); (case side1 => repeat (first | exact (Kd.C_below HR0.out HB.out) | (with_reducible refine Kd.C_alloc ?_ _) | (with_reducible refine Kd.C_drewN ?_ _) | (with_reducible refine Kd.C_drew ?_))); (case side2 => exact HC0.out); rintro e w' ⟨rfl, ⟨nd, rfl⟩⟩; refine ⟨_, rfl, ?_⟩))
   go_meet
   case rel => exact ⟨_, (true), zr, H', ⟨by first | omega | exact Nat.le_refl _⟩, ⟨zb BK1115⟩, ⟨zb BK1116⟩, ⟨zB HB⟩⟩
 case rest =>
  clear HC3
  try clear c1
  try clear p2
  try clear c5
  try clear c7
  try clear c9
  try clear hcz10_0
  try clear hfz10_0
  obtain ⟨kq, x14_2, rfl, HA, HJ2, BK1115, BK1116, HB⟩ := hcut
  cases kq with
  | zero => exact absurd HA.out (by simp [spec_TurnSignature.j0])
  | succ kj2 =>
   have H := HA.out
   clear HA
   simp only [spec_TurnSignature.j0] at H
   by_cases c12 : x14_2 = true
   ·subst c12
    rw [if_pos rfl] at H
    obtain rfl := Option.some.inj H
    have hnb13 := NB1116_1115.out
    have hnc13 := NB1115_1116.out
    have hcz14_0 : wc.cell? ⟨gb1116, 0, none⟩ = some (.slice none 0 0) := (blk_cell BK1116.out 0).trans rfl
    have hfz14_0 := blk_frozen BK1116.out 0
    go_wp2
    refine bodyPost_ret (results_cell_row rfl _ _ gb1116 71 #[.slice none 0 0] (0, 0) _ rfl (by (with_reducible repeat (first | refine blk_drewN ?_ _ | refine blk_drew ?_ | refine blk_alloc ?_ _)); refine blk_put (cs := #[.slice none 0 0]) ?_ 0 _ rfl; (with_reducible repeat (first | refine blk_drewN ?_ _ | refine blk_drew ?_ | refine blk_alloc ?_ _)); exact BK1116.out) Try.underlying71 rfl (by kernel_rfl)) rfl ?_
    exact ⟨_, by first | rfl | (simp [errW_none, errW_some] <;> rfl) | (simp [*, errW_none, errW_some] <;> rfl), by first | exact Kd.R_nil _ _ _ _ _ | exact Kd.N_nil _ _ _ _ _ | exact Kd.V_nil _ _ _ _ _ | exact Kd.Q_nil _ _ _ _ _ | exact Kd.S_nil _ _ _ _ _, zB HB⟩
   ·replace c12 := Bool.eq_false_iff.mpr c12
    subst c12
    rw [if_neg (show ¬ (false = true) by decide)] at H
    replace H := Option.bind_eq_some_iff.mp H
    obtain ⟨t1119, A150, H⟩ := H
    (try dsimp only at H)
    have A15 := Aside0.mk A150
    clear A150
    have H' := Aside0.mk H
    clear H
    have hnb16 := NB1115_1116.out
    have hnc16 := NB1116_1115.out
    have hcz17_0 : wc.cell? ⟨gb1115, 0, none⟩ = some (.slice A1_0 l1_0.length c1_0) := (blk_cell BK1115.out 0).trans rfl
    have hfz17_0 := blk_frozen BK1115.out 0
    go_wp2_with (first | ((with_reducible refine gate_callee (f := 99) rfl ?_); refine goesL_ (some 18) rfl rfl Try.func99 (by kernel_rfl) rfl #[.slice A1_0 l1_0.length c1_0] rfl zl ?_; (with_reducible refine (spec_copyParams.calls _ _ l1_0 t1119 _ ?side1 ?side2 A15.out).mono ?_); (case side1 => repeat (first | exact (Kd.C_below HR1_0.out HB.out) | (with_reducible refine Kd.C_alloc ?_ _) | (with_reducible refine Kd.C_drewN ?_ _) | (with_reducible refine Kd.C_drew ?_))); (case side2 => exact HC1_0.out); rintro e w18 ⟨v1120, rfl, ho0, hb⟩; refine ⟨_, rfl, ?_⟩; have HO1121 := Aside0.mk (Kd.R_lower ho0 (below_size (zB HB))); replace BK1115 := Aside0.mk (blk_below (g := gb1115) (o := .cells #[.slice A1_0 l1_0.length c1_0] 71 (0, 0)) (zb BK1115) hb); replace BK1116 := Aside0.mk (blk_below (g := gb1116) (o := .cells #[.slice none 0 0] 71 (0, 0)) (zb BK1116) hb); replace HB := Aside0.mk (below_step (zB HB) hb); (try clear hb); (try clear hb2); (try clear hk); (try clear hi); (try clear ho0)))
    go_loopg [6] kj2 (fun kq v6 w' => ∃ (x5_2 : List (S123)) (x6_2 : Int), v6 = .int .i64 x6_2 ∧ Aside0 (spec_TurnSignature.l0 kq l0 x5_2 x6_2 = some r) ∧ Aside0 (kq ≤ kj2) ∧ Aside0 (Kd.R k123 123 w' w.heap.size (fun _ => True) v1120 x5_2) ∧ Aside0 (w'.heap[gb1115]? = some (.cells #[(.slice A1_0 l1_0.length c1_0)] 71 (0, 0))) ∧ Aside0 (w'.heap[gb1116]? = some (.cells #[(.slice none 0 0)] 71 (0, 0))) ∧ Aside0 (Below w.heap.size w w'))
    case atStart => exact ⟨(t1119), (0), zr, H', ⟨Nat.le_refl _⟩, ⟨zo HO1121⟩, ⟨zb BK1115⟩, ⟨zb BK1116⟩, ⟨zB HB⟩⟩
    case round =>
     clear H'
     try clear c1
     try clear p2
     try clear c5
     try clear c7
     try clear c9
     try clear c12
     try clear c13
     try clear c16
     try clear hcz10_0
     try clear hcz14_0
     try clear hcz17_0
     try clear hfz10_0
     try clear hfz14_0
     try clear hfz17_0
     try clear p2
     obtain ⟨x5_2, x6_2, rfl, HA, HK2, HO_5, BK1115, BK1116, HB⟩ := hrel
     cases gk with
     | zero => exact absurd HA.out (by simp [spec_TurnSignature.l0])
     | succ k2 =>
      have H := HA.out
      clear HA
      simp only [spec_TurnSignature.l0] at H
      by_cases c19 : x6_2 < (x5_2.length : Int)
      ·rw [if_pos c19] at H
       have c19b0 : decide (x6_2 < (x5_2.length : Int)) = true := decide_eq_true c19
       clear c19
       by_cases c20 : 0 ≤ x6_2
       ·rw [if_pos c20] at H
        have c20b0 : decide (0 ≤ x6_2) = true := decide_eq_true c20
        clear c20
        replace H := Option.bind_eq_some_iff.mp H
        obtain ⟨t1123, A210, H⟩ := H
        (try dsimp only at H)
        have A21 := Aside0.mk A210
        clear A210
        obtain ⟨y1124, hy1124⟩ : ∃ y_ : List (S123), y_ = (x5_2.set (x6_2 : Int).toNat (⟨t1123, (rd_T123 x5_2 x6_2).f1, (rd_T123 x5_2 x6_2).f2, (rd_T123 x5_2 x6_2).f3⟩ : S123)) := ⟨_, rfl⟩
        replace H : (spec_TurnSignature.l0 k2 l0 y1124 (wrap64 (x6_2 + 1))) = some r := by first | (rw [hy1124]; with_reducible exact H) | (have H2_ := (Option.bind_some _ _).symm.trans H; rw [hy1124]; with_reducible exact H2_) | (have H2_ := (Option.bind_some _ _).symm.trans H; with_reducible exact H2_) | with_reducible exact H | (rw [hy1124]; exact H) | exact H
        have Ny1124 := Aside0.mk hy1124
        clear hy1124
        have H' := Aside0.mk H
        clear H
        obtain ⟨Ao23, co23, eo23⟩ := Kd.R_slice HO_5.out
        subst eo23
        have p1122 : 0 ≤ (x6_2 : Int) := of_decide_eq_true za
        have q1122 : x6_2 < (x5_2.length : Int) := of_decide_eq_true za
        obtain ⟨ad1122, e1122, hx1122_0, hx1122_1, hx1122_2, hx1122_3⟩ := at_T123 (Kd.R_reads' HO_5.out).2.2 x6_2 p1122 q1122
        cases e1122
        replace p1122 := eq_true p1122
        replace q1122 := eq_true q1122
        go_wp2_with (first | ((with_reducible refine gate_callee (f := 80) rfl ?_); refine goesL_ (some 33) rfl rfl Try.func80 (by kernel_rfl) rfl #[.slice A0 l0.length c0, .string ((rd_T123 x5_2 x6_2).f0)] rfl zl ?_; (with_reducible refine (spec_turned.calls k2 _ _ l0 ((rd_T123 x5_2 x6_2).f0) t1123 _ ?side1 ?side2 A21.out).mono ?_); (case side1 => repeat (first | exact (Kd.C_below HR0.out HB.out) | (with_reducible refine Kd.C_alloc ?_ _) | (with_reducible refine Kd.C_drewN ?_ _) | (with_reducible refine Kd.C_drew ?_))); (case side2 => exact HC0.out); rintro e w' ⟨rfl, ⟨nd, rfl⟩⟩; refine ⟨_, rfl, ?_⟩; (try (rw [drewN_self wr]; generalize hq_ : World.drewN wr _ = wr; have n0_ : Aside0 (Kd.R k123 123 wr w.heap.size (fun _ => True) (.slice (some ad1122) x5_2.length co23) x5_2) := ⟨by rw [← hq_]; exact (zo HO_5)⟩; have n1_ : Aside0 (wr.heap[gb1115]? = some (.cells #[.slice A1_0 l1_0.length c1_0] 71 (0, 0))) := ⟨by rw [← hq_]; exact (zb BK1115)⟩; have n2_ : Aside0 (wr.heap[gb1116]? = some (.cells #[.slice none 0 0] 71 (0, 0))) := ⟨by rw [← hq_]; exact (zb BK1116)⟩; have n3_ : Aside0 (Below w.heap.size w wr) := ⟨by rw [← hq_]; exact (zB HB)⟩; clear HO_5 BK1115 BK1116 HB hq_; have HO_5 := n0_; have BK1115 := n1_; have BK1116 := n2_; have HB := n3_; clear n0_ n1_ n2_ n3_)); have p22 : 0 ≤ (x6_2 : Int) := of_decide_eq_true za; have q22 : (x6_2 : Int) < ((x5_2.length : Int) : Int) := of_decide_eq_true za; obtain ⟨go22, co22, eo22, gb22, gl22, cl22, HG22⟩ := Kd.R_form HO_5.out (by omega); (first | cases eo22 | (injection eo22 with ea_ en_ ec_; (first | subst ea_ | (injection ea_ with ea_; subst ea_)); subst ec_; clear en_)); have GB22 := Aside0.mk gb22; have GG22 := Aside0.mk HG22; clear gb22 gl22 HG22; (first | simp only [add_plain] at hx1122_0 | skip); (first | simp only [add_plain] at hx1122_1 | skip); (first | simp only [add_plain] at hx1122_2 | skip); (first | simp only [add_plain] at hx1122_3 | skip); obtain ⟨ce22, hcl22, hM22, hcc22, hfr22⟩ := Kd.R_elem HO_5.out z123 (x6_2 : Int) p22 q22; obtain rfl := k123_openM hM22; have hx22_0 : wr.cell? ⟨go22, (x6_2 : Int).toNat * 4, none⟩ = some (.string ((rd_T123 x5_2 x6_2).f0)) := hcc22 0 _ rfl; have hx22_1 : wr.cell? ⟨go22, (x6_2 : Int).toNat * 4 + 1, none⟩ = some (.int .i64 ((rd_T123 x5_2 x6_2).f1)) := hcc22 1 _ rfl; have hx22_2 : wr.cell? ⟨go22, (x6_2 : Int).toNat * 4 + 2, none⟩ = some (.bool ((rd_T123 x5_2 x6_2).f2)) := hcc22 2 _ rfl; have hx22_3 : wr.cell? ⟨go22, (x6_2 : Int).toNat * 4 + 3, none⟩ = some (.int .i64 ((rd_T123 x5_2 x6_2).f3)) := hcc22 3 _ rfl; have hf22_0 : wr.frozen? ⟨go22, (x6_2 : Int).toNat * 4, none⟩ = false := hfr22 0; have hf22_1 : wr.frozen? ⟨go22, (x6_2 : Int).toNat * 4 + 1, none⟩ = false := hfr22 1; have hf22_2 : wr.frozen? ⟨go22, (x6_2 : Int).toNat * 4 + 2, none⟩ = false := hfr22 2; have hf22_3 : wr.frozen? ⟨go22, (x6_2 : Int).toNat * 4 + 3, none⟩ = false := hfr22 3; clear hcl22 hcc22 hfr22 hM22; replace p22 := eq_true p22; replace q22 := eq_true q22; have HX24 := Aside0.mk (show Kd.R k123 123 wr w.heap.size (fun _ => True) (.slice (some ⟨go22, 0, none⟩) x5_2.length co23) x5_2 from (zo HO_5)); obtain ⟨ce24, hcl24, hM24, hcc24, hfr24⟩ := Kd.R_elem HX24.out z123 (x6_2 : Int) (of_decide_eq_true za) (by have h_ : (x6_2 : Int) < ((x5_2.length : Int) : Int) := of_decide_eq_true za; first | exact h_ | (have e_ := (Kd.R_reads' HO_5.out).1; omega) | simpa using h_); obtain rfl := k123_openM hM24; have HP24 := Kd.R_seg HX24.out (x6_2 : Int) (of_decide_eq_true za) (by have h_ : (x6_2 : Int) < ((x5_2.length : Int) : Int) := of_decide_eq_true za; first | exact h_ | (have e_ := (Kd.R_reads' HO_5.out).1; omega) | simpa using h_) (seg := [.string t1123]) (j := 0) hcl24 hcc24 (show 1 ≤ 4 from by decide) (x' := (⟨t1123, (rd_T123 x5_2 x6_2).f1, (rd_T123 x5_2 x6_2).f2, (rd_T123 x5_2 x6_2).f3⟩ : S123)) (k123_mkM _ _ _ (⟨t1123, (rd_T123 x5_2 x6_2).f1, (rd_T123 x5_2 x6_2).f2, (rd_T123 x5_2 x6_2).f3⟩ : S123) ) (fun _ hk => hk); have hx24_0 := hcc24 0 _ rfl; (try simp only [show (k123).sz = 4 from rfl, Nat.mul_one, Nat.add_zero] at hx24_0); have hf24_0 := hfr24 0; (try simp only [show (k123).sz = 4 from rfl, Nat.mul_one, Nat.add_zero] at hf24_0); clear hcl24 hcc24 hfr24 hM24) | ((with_reducible refine gate_store (t := 9) (p := 35) rfl ?_); refine store_event (t := 9) (p := 35) (v := ?vo_w25) (w1 := (wr.setCell ⟨go22, (x6_2 : Int).toNat * 4, none⟩ (.string t1123))) ?hg ?ho ?hn ?hr ?_; (case ho => rfl); (case hg => rfl); (case hn => rfl); (case hr => first | (go_simp; done) | (go_simp; rfl)); intro w25 hw; have hg : wr.grownBy w25 (some go22) := (by rw [hw]; exact HP24.2); have hp_ : Kd.R k123 123 w25 w.heap.size (fun _ => True) (.slice (some ⟨go22, 0, none⟩) x5_2.length co23) y1124 := (by rw [hw, Ny1124.out]; exact HP24.1); clear HP24; replace BK1115 := Aside0.mk (blk_grown (g := gb1115) (o := .cells #[.slice A1_0 l1_0.length c1_0] 71 (0, 0)) (zb BK1115) hg (Kd.R_ne HO_5.out BK1115.out (by decide))); replace BK1116 := Aside0.mk (blk_grown (g := gb1116) (o := .cells #[.slice none 0 0] 71 (0, 0)) (zb BK1116) hg (Kd.R_ne HO_5.out BK1116.out (by decide))); replace HO_5 := Aside0.mk (hp_); replace HB := Aside0.mk ((by rw [hw]; exact below_set (HB.out) GB22.out : Below w.heap.size w w25)); clear hg hw hp_))
        go_roundg k2
        case measure => have := HJ2.out; have := HK2.out; omega
        case rel => exact ⟨(y1124), (wrap64 (x6_2 + 1)), zr, H', ⟨by have := HJ2.out; have := HK2.out; omega⟩, ⟨zo HO_5⟩, ⟨zb BK1115⟩, ⟨zb BK1116⟩, ⟨zB HB⟩⟩
       ·rw [if_neg c20] at H
        exact absurd H (by simp)
      ·rw [if_neg c19] at H
       have c19b0 : decide (x6_2 < (x5_2.length : Int)) = false := decide_eq_false c19
       clear c19
       obtain rfl := Option.some.inj H
       obtain ⟨Ao26, co26, eo26⟩ := Kd.R_slice HO_5.out
       subst eo26
       have hnb27 := NB1116_1115.out
       have hnc27 := NB1115_1116.out
       have hcz28_0 : wr.cell? ⟨gb1116, 0, none⟩ = some (.slice none 0 0) := (blk_cell BK1116.out 0).trans rfl
       have hfz28_0 := blk_frozen BK1116.out 0
       go_wp2
       refine bodyPost_ret (results_cell_row rfl _ _ gb1116 71 #[.slice Ao26 x5_2.length co26] (0, 0) _ rfl (by (with_reducible repeat (first | refine blk_drewN ?_ _ | refine blk_drew ?_ | refine blk_alloc ?_ _)); refine blk_put (cs := #[.slice none 0 0]) ?_ 0 _ rfl; (with_reducible repeat (first | refine blk_drewN ?_ _ | refine blk_drew ?_ | refine blk_alloc ?_ _)); exact BK1116.out) Try.underlying71 rfl (by kernel_rfl)) rfl ?_
       exact ⟨_, by first | rfl | (simp [errW_none, errW_some] <;> rfl) | (simp [*, errW_none, errW_some] <;> rfl), by (with_reducible repeat (first | apply Kd.R_alloc | apply Kd.R_drewN | apply Kd.R_drew)); exact Kd.R_mono (Kd.R_far (p := ⟨gb1116, 0, none⟩) (Kd.R_types HO_5.out BK1116.out (by decide)) (fun _ hk => hk.2) (.slice Ao26 x5_2.length co26)) (fun _ hk => trivial), zB HB⟩

end Go.Proofs.Ytfcpbgedgedalaa.Q
