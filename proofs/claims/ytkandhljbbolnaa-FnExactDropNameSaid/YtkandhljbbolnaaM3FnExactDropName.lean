-- written by px.py and merge.py (programs of this claim's), over the kit's print. Not trusted: Lean checks it.
import Derived.Test.YtkandhljbbolnaaQ0
import Derived.Test.YtkandhljbbolnaaM2FnExactDropName
namespace Go.Proofs.Ytkandhljbbolnaa.Q
open Go.RowKit Go.Proofs.YtkandhljbbolnaaL.PrintWords Go.Proofs.YtkandhljbbolnaaL.PrintLast Go.Proofs.YtkandhljbbolnaaL.PrintMore
attribute [local go_sem] max2_int min2_int max_two min_two max_three min_three max_four min_four   -- for this text's walks alone
set_option linter.unusedVariables false
set_option linter.unusedSimpArgs false

/-! ### spec_validPairs: function 111 -/
def spec_validPairs.l0 : Nat → List (S94) → Int → Option (Bool)
 | 0, _, _ => none
 | k + 1, x0, x3 => if x3 < (x0.length : Int) then (if 0 ≤ x3 then ((spec_validName.f k ((rd_T94 x0 x3).f0)).bind fun t113 => (if t113 = true then ((spec_validNumber.f ((rd_T94 x0 x3).f1)).bind fun t115 => (if t115 = true then (spec_validPairs.l0 k x0 (wrap64 (x3 + 1))) else (some false))) else (some false))) else (none)) else (some true)
def spec_validPairs.f (k : Nat) (l0 : List (S94)) : Option (Bool) := spec_validPairs.l0 k l0 0
theorem spec_validPairs.mono_l : ∀ k, (∀ y0 y1, LeO (spec_validPairs.l0 k y0 y1) (spec_validPairs.l0 (k + 1) y0 y1))
 | 0 => fun _ _ r h => by simp [spec_validPairs.l0] at h
 | k + 1 => by
  have ih0 := spec_validPairs.mono_l k
  ·intro y0 y1; unfold spec_validPairs.l0
   repeat' first
   | (with_reducible exact ih0 _ _)
   | (with_reducible exact spec_validName.mono _ _)
   | (with_reducible exact LeO.refl _)
   | (with_reducible exact LeO.none _)
   | (with_reducible refine LeO.ite ?_ ?_)
   | (with_reducible refine LeO.bind ?_ (fun _ => ?_))
   | exact ih0 _ _
   | exact spec_validName.mono _ _
   | exact LeO.none _
   | refine LeO.ite ?_ ?_
   | refine LeO.bind ?_ (fun _ => ?_)
theorem spec_validPairs.mono : ∀ a0 k, LeO (spec_validPairs.f k a0) (spec_validPairs.f (k + 1) a0) := by
 intro a0 k; have ih0 := spec_validPairs.mono_l k; unfold spec_validPairs.f
 repeat' first
   | (with_reducible exact ih0 _ _)
   | (with_reducible exact spec_validName.mono _ _)
   | (with_reducible exact LeO.refl _)
   | (with_reducible exact LeO.none _)
   | (with_reducible refine LeO.ite ?_ ?_)
   | (with_reducible refine LeO.bind ?_ (fun _ => ?_))
   | exact ih0 _ _
   | exact spec_validName.mono _ _
   | exact LeO.none _
   | refine LeO.ite ?_ ?_
   | refine LeO.bind ?_ (fun _ => ?_)
set_option maxHeartbeats 8000000 in
set_option maxRecDepth 100000 in
theorem spec_validPairs.calls (k : Nat) (A0 : Option Addr) (c0 : Nat) (l0 : List (S94)) (r : Bool) (w : World) (hr0 : Kd.C k94 w A0 l0.length l0) (hc0 : l0.length ≤ c0) (h : spec_validPairs.f k l0 = some r) :
  Calls Try.prog 111 #[.slice A0 l0.length c0] w fun e w' => e = .returned (.bool r) ∧ Drawn0 w w' := by
 have HR0 := Aside0.mk hr0; have HC0 := Aside0.mk hc0; clear hr0 hc0; have H : (spec_validPairs.l0 k l0 0) = some r := h; clear h; have H' := Aside0.mk H; clear H; go_enter Try.func111, Try.ntmps111; go_wp2; go_loopg [3] k (fun kq v3 w' => ∃ (x3_1 : Int), v3 = .int .i64 x3_1 ∧ Aside0 (spec_validPairs.l0 kq l0 x3_1 = some r) ∧ Aside0 (kq ≤ k) ∧ Drawn0 w w')
 case atStart => exact ⟨(0), zr, H', ⟨Nat.le_refl _⟩, by repeat (first | exact Drawn0.refl _ | apply Drawn0.step)⟩
 case round =>
  clear H'; (try clear c1); obtain ⟨x3_1, rfl, HA, HK1, ⟨m1, rfl⟩⟩ := hrel
  cases gk with
  | zero => exact absurd HA.out (by simp [spec_validPairs.l0])
  | succ k1 =>
   have H := HA.out; clear HA; simp only [spec_validPairs.l0] at H
   by_cases c2 : x3_1 < (l0.length : Int)
   ·rw [if_pos c2] at H; have c2b0 : decide (x3_1 < (l0.length : Int)) = true := decide_eq_true c2; clear c2
    by_cases c3 : 0 ≤ x3_1
    ·rw [if_pos c3] at H; have c3b0 : decide (0 ≤ x3_1) = true := decide_eq_true c3; clear c3; replace H := Option.bind_eq_some_iff.mp H; obtain ⟨t113, A40, H⟩ := H
     (try dsimp only at H)
     have A4 := Aside0.mk A40; clear A40
     by_cases c5 : t113 = true
     ·subst c5; rw [if_pos rfl] at H; replace H := Option.bind_eq_some_iff.mp H; obtain ⟨t115, A60, H⟩ := H
      (try dsimp only at H)
      have A6 := Aside0.mk A60; clear A60
      by_cases c7 : t115 = true
      ·subst c7; rw [if_pos rfl] at H; have H' := Aside0.mk H; clear H; have p112 : 0 ≤ (x3_1 : Int) := of_decide_eq_true za; have q112 : x3_1 < (l0.length : Int) := of_decide_eq_true za; obtain ⟨ad112, e112, hx112_0, hx112_1⟩ := at_T94 HR0.out x3_1 p112 q112
       cases e112
       replace p112 := eq_true p112; replace q112 := eq_true q112; go_wp2_with (first | ((with_reducible refine gate_callee (f := 138) rfl ?_); refine goesL_ (some 15) rfl rfl Try.func138 (by kernel_rfl) rfl #[.string ((rd_T94 l0 x3_1).f0)] rfl zl ?_; (with_reducible refine (spec_validName.calls k1 ((rd_T94 l0 x3_1).f0) true _ A4.out).mono ?_); rintro e w' ⟨rfl, ⟨nd, rfl⟩⟩; refine ⟨_, rfl, ?_⟩; have p114 : 0 ≤ (x3_1 : Int) := of_decide_eq_true za; have q114 : x3_1 < (l0.length : Int) := of_decide_eq_true za; obtain ⟨ad114, e114, hx114_0, hx114_1⟩ := at_T94 HR0.out x3_1 p114 q114; obtain rfl : ad112 = ad114 := (by injection e114); replace p114 := eq_true p114; replace q114 := eq_true q114) | (go_at_call 119; (with_reducible refine (spec_validNumber.calls ((rd_T94 l0 x3_1).f1) true _ A6.out).mono ?_); rintro e w' ⟨rfl, ⟨nd, rfl⟩⟩)); go_roundg k1
       case measure => have := HK1.out; omega
       case rel => exact ⟨(wrap64 (x3_1 + 1)), zr, H', ⟨by have := HK1.out; omega⟩, by repeat (first | exact Drawn0.refl _ | apply Drawn0.step)⟩
      ·replace c7 := Bool.eq_false_iff.mpr c7; subst c7; rw [if_neg (show ¬ (false = true) by decide)] at H; obtain rfl := Option.some.inj H; have p112 : 0 ≤ (x3_1 : Int) := of_decide_eq_true za; have q112 : x3_1 < (l0.length : Int) := of_decide_eq_true za; obtain ⟨ad112, e112, hx112_0, hx112_1⟩ := at_T94 HR0.out x3_1 p112 q112
       cases e112
       replace p112 := eq_true p112; replace q112 := eq_true q112; go_wp2_with (first | ((with_reducible refine gate_callee (f := 138) rfl ?_); refine goesL_ (some 15) rfl rfl Try.func138 (by kernel_rfl) rfl #[.string ((rd_T94 l0 x3_1).f0)] rfl zl ?_; (with_reducible refine (spec_validName.calls k1 ((rd_T94 l0 x3_1).f0) true _ A4.out).mono ?_); rintro e w' ⟨rfl, ⟨nd, rfl⟩⟩; refine ⟨_, rfl, ?_⟩; have p114 : 0 ≤ (x3_1 : Int) := of_decide_eq_true za; have q114 : x3_1 < (l0.length : Int) := of_decide_eq_true za; obtain ⟨ad114, e114, hx114_0, hx114_1⟩ := at_T94 HR0.out x3_1 p114 q114; obtain rfl : ad112 = ad114 := (by injection e114); replace p114 := eq_true p114; replace q114 := eq_true q114) | (go_at_call 119; (with_reducible refine (spec_validNumber.calls ((rd_T94 l0 x3_1).f1) false _ A6.out).mono ?_); rintro e w' ⟨rfl, ⟨nd, rfl⟩⟩)); go_ret; exact ⟨by first | rfl | (simp; done) | (simp [*]; done), by repeat (first | exact Drawn0.refl _ | apply Drawn0.step)⟩
     ·replace c5 := Bool.eq_false_iff.mpr c5; subst c5; rw [if_neg (show ¬ (false = true) by decide)] at H; obtain rfl := Option.some.inj H; have p112 : 0 ≤ (x3_1 : Int) := of_decide_eq_true za; have q112 : x3_1 < (l0.length : Int) := of_decide_eq_true za; obtain ⟨ad112, e112, hx112_0, hx112_1⟩ := at_T94 HR0.out x3_1 p112 q112
      cases e112
      replace p112 := eq_true p112; replace q112 := eq_true q112; go_wp2_with (first | ((with_reducible refine gate_callee (f := 138) rfl ?_); refine goesL_ (some 15) rfl rfl Try.func138 (by kernel_rfl) rfl #[.string ((rd_T94 l0 x3_1).f0)] rfl zl ?_; (with_reducible refine (spec_validName.calls k1 ((rd_T94 l0 x3_1).f0) false _ A4.out).mono ?_); rintro e w' ⟨rfl, ⟨nd, rfl⟩⟩; refine ⟨_, rfl, ?_⟩)); go_ret; exact ⟨by first | rfl | (simp; done) | (simp [*]; done), by repeat (first | exact Drawn0.refl _ | apply Drawn0.step)⟩
    ·rw [if_neg c3] at H; exact absurd H (by simp)
   ·rw [if_neg c2] at H; have c2b0 : decide (x3_1 < (l0.length : Int)) = false := decide_eq_false c2; clear c2; obtain rfl := Option.some.inj H; go_wp2; go_ret; exact ⟨by first | rfl | (simp; done) | (simp [*]; done), by repeat (first | exact Drawn0.refl _ | apply Drawn0.step)⟩

end Go.Proofs.Ytkandhljbbolnaa.Q

namespace Go.Proofs.Ytkandhljbbolnaa.Q
open Go.RowKit Go.Proofs.YtkandhljbbolnaaL.PrintWords Go.Proofs.YtkandhljbbolnaaL.PrintLast Go.Proofs.YtkandhljbbolnaaL.PrintMore
attribute [local go_sem] max2_int min2_int max_two min_two max_three min_three max_four min_four   -- for this text's walks alone
set_option linter.unusedVariables false
set_option linter.unusedSimpArgs false

/-! ### spec_validFlat: function 59 -/
def spec_validFlat.l0 : Nat → Int → List Int → List (S94) → Option (Bool)
 | 0, _, _, _ => none
 | k + 1, x3, x117000, x117001 => if x3 < (x117001.length : Int) then (if 0 ≤ x3 then (if x3 ≤ (x117001.length : Int) then ((spec_pairAt.f k (x117001.take (x3 : Int).toNat) ((rd_T94 x117001 x3).f0)).bind fun t122 => (if t122 ≥ 0 then (some false) else (spec_validFlat.l0 k (wrap64 (x3 + 1)) x117000 x117001))) else (none)) else (none)) else ((spec_validNumbers.f k x117000).bind fun t123 => (if t123 = true then ((spec_validPairs.f k x117001).bind fun t124 => (if t124 = true then (if (x117000.length : Int) ≤ 8 then (some (decide ((x117001.length : Int) ≤ 8))) else (some false)) else (some false))) else (some false)))
def spec_validFlat.f (k : Nat) (l0_0 : List Int) (l0_1 : List (S94)) : Option (Bool) := spec_validFlat.l0 k 0 l0_0 l0_1
theorem spec_validFlat.mono_l : ∀ k, (∀ y0 y1 y2, LeO (spec_validFlat.l0 k y0 y1 y2) (spec_validFlat.l0 (k + 1) y0 y1 y2))
 | 0 => fun _ _ _ r h => by simp [spec_validFlat.l0] at h
 | k + 1 => by
  have ih0 := spec_validFlat.mono_l k
  ·intro y0 y1 y2; unfold spec_validFlat.l0
   repeat' first
   | (with_reducible exact ih0 _ _ _)
   | (with_reducible exact spec_pairAt.mono _ _ _)
   | (with_reducible exact spec_validNumbers.mono _ _)
   | (with_reducible exact spec_validPairs.mono _ _)
   | (with_reducible exact LeO.refl _)
   | (with_reducible exact LeO.none _)
   | (with_reducible refine LeO.ite ?_ ?_)
   | (with_reducible refine LeO.bind ?_ (fun _ => ?_))
   | exact ih0 _ _ _
   | exact spec_pairAt.mono _ _ _
   | exact spec_validNumbers.mono _ _
   | exact spec_validPairs.mono _ _
   | exact LeO.none _
   | refine LeO.ite ?_ ?_
   | refine LeO.bind ?_ (fun _ => ?_)
theorem spec_validFlat.mono : ∀ a0 a1 k, LeO (spec_validFlat.f k a0 a1) (spec_validFlat.f (k + 1) a0 a1) := by
 intro a0 a1 k; have ih0 := spec_validFlat.mono_l k; unfold spec_validFlat.f
 repeat' first
   | (with_reducible exact ih0 _ _ _)
   | (with_reducible exact spec_pairAt.mono _ _ _)
   | (with_reducible exact spec_validNumbers.mono _ _)
   | (with_reducible exact spec_validPairs.mono _ _)
   | (with_reducible exact LeO.refl _)
   | (with_reducible exact LeO.none _)
   | (with_reducible refine LeO.ite ?_ ?_)
   | (with_reducible refine LeO.bind ?_ (fun _ => ?_))
   | exact ih0 _ _ _
   | exact spec_pairAt.mono _ _ _
   | exact spec_validNumbers.mono _ _
   | exact spec_validPairs.mono _ _
   | exact LeO.none _
   | refine LeO.ite ?_ ?_
   | refine LeO.bind ?_ (fun _ => ?_)
set_option maxHeartbeats 8000000 in
set_option maxRecDepth 100000 in
theorem spec_validFlat.calls (k : Nat) (A0_0 : Option Addr) (c0_0 : Nat) (l0_0 : List Int) (A0_1 : Option Addr) (c0_1 : Nat) (l0_1 : List (S94)) (r : Bool) (w : World) (hr0_0 : Kd.C (Kd.int .i64) w A0_0 l0_0.length l0_0) (hc0_0 : l0_0.length ≤ c0_0) (hr0_1 : Kd.C k94 w A0_1 l0_1.length l0_1) (hc0_1 : l0_1.length ≤ c0_1) (h : spec_validFlat.f k l0_0 l0_1 = some r) :
  Calls Try.prog 59 #[.agg #[.slice A0_0 l0_0.length c0_0, .slice A0_1 l0_1.length c0_1]] w fun e w' => e = .returned (.bool r) ∧ Below w.heap.size w w' := by
 have hu30 := Try.underlying30; have HR0_0 := Aside0.mk hr0_0; have HC0_0 := Aside0.mk hc0_0; clear hr0_0 hc0_0; have HR0_1 := Aside0.mk hr0_1; have HC0_1 := Aside0.mk hc0_1; clear hr0_1 hc0_1; have HB := Aside0.mk (Below.refl w.heap.size w); have H : (spec_validFlat.l0 k 0 l0_0 l0_1) = some r := h; clear h; have H' := Aside0.mk H; clear H; go_enter Try.func59, Try.ntmps59; go_wp2_with (first | ((with_reducible refine gate_dst (N := 1) rfl ?_); refine zx (N := 1) (cs := #[.slice A0_0 l0_0.length c0_0, .slice A0_1 l0_1.length c0_1]) (t := 30) ?_; intro gb116 hg w2 hbox hb; have BK116 := Aside0.mk (hbox); have GW116 := Aside0.mk ((by rw [hg]; exact (below_size (zB HB)) : w.heap.size ≤ gb116)); have GE116 := GW116; replace HB := Aside0.mk (below_step (zB HB) hb); clear hb hbox hg))
 repeat (go_quiet (first | ((with_reducible refine gate_dst (N := 1) rfl ?_); refine zx (N := 1) (cs := #[.slice A0_0 l0_0.length c0_0, .slice A0_1 l0_1.length c0_1]) (t := 30) ?_; intro gb116 hg w2 hbox hb; have BK116 := Aside0.mk (hbox); have GW116 := Aside0.mk ((by rw [hg]; exact (below_size (zB HB)) : w.heap.size ≤ gb116)); have GE116 := GW116; replace HB := Aside0.mk (below_step (zB HB) hb); clear hb hbox hg)); try go_wp2_with (first | ((with_reducible refine gate_dst (N := 1) rfl ?_); refine zx (N := 1) (cs := #[.slice A0_0 l0_0.length c0_0, .slice A0_1 l0_1.length c0_1]) (t := 30) ?_; intro gb116 hg w2 hbox hb; have BK116 := Aside0.mk (hbox); have GW116 := Aside0.mk ((by rw [hg]; exact (below_size (zB HB)) : w.heap.size ≤ gb116)); have GE116 := GW116; replace HB := Aside0.mk (below_step (zB HB) hb); clear hb hbox hg)))
 go_loopg [3] k (fun kq v3 w' => ∃ (x3_1 : Int), v3 = .int .i64 x3_1 ∧ Aside0 (spec_validFlat.l0 kq x3_1 l0_0 l0_1 = some r) ∧ Aside0 (kq ≤ k) ∧ Aside0 (w'.heap[gb116]? = some (.cells #[(.slice A0_0 l0_0.length c0_0), (.slice A0_1 l0_1.length c0_1)] 30 (0, 0))) ∧ Aside0 (Below w.heap.size w w'))
 case atStart => exact ⟨(0), zr, H', ⟨Nat.le_refl _⟩, ⟨zb BK116⟩, ⟨zB HB⟩⟩
 case round =>
  clear H'; (try clear p2); obtain ⟨x3_1, rfl, HA, HK1, BK116, HB⟩ := hrel
  cases gk with
  | zero => exact absurd HA.out (by simp [spec_validFlat.l0])
  | succ k1 =>
   have H := HA.out; clear HA; simp only [spec_validFlat.l0] at H
   by_cases c3 : x3_1 < (l0_1.length : Int)
   ·rw [if_pos c3] at H; have c3b0 : decide (x3_1 < (l0_1.length : Int)) = true := decide_eq_true c3; clear c3
    by_cases c4 : 0 ≤ x3_1
    ·rw [if_pos c4] at H; have c4b0 := eq_true c4; have c4b1 : decide (0 ≤ x3_1) = true := decide_eq_true c4; clear c4
     by_cases c5 : x3_1 ≤ (l0_1.length : Int)
     ·rw [if_pos c5] at H; have c5b0 := eq_true c5; have c5b1 : decide (x3_1 ≤ (l0_1.length : Int)) = true := decide_eq_true c5; clear c5; obtain ⟨y117, hy117⟩ : ∃ y_ : List (S94), y_ = (l0_1.take (x3_1 : Int).toNat) := ⟨_, rfl⟩
      replace H : ((spec_pairAt.f k1 y117 ((rd_T94 l0_1 x3_1).f0)).bind fun t122 => (if t122 ≥ 0 then (some false) else (spec_validFlat.l0 k1 (wrap64 (x3_1 + 1)) l0_0 l0_1))) = some r := by first | (rw [hy117]; with_reducible exact H) | (have H2_ := (Option.bind_some _ _).symm.trans H; rw [hy117]; with_reducible exact H2_) | (have H2_ := (Option.bind_some _ _).symm.trans H; with_reducible exact H2_) | with_reducible exact H | (rw [hy117]; exact H) | exact H
      have Ny117 := Aside0.mk hy117; clear hy117; replace H := Option.bind_eq_some_iff.mp H; obtain ⟨t122, A60, H⟩ := H
      (try dsimp only at H)
      have A6 := Aside0.mk A60; clear A60
      by_cases c7 : t122 ≥ 0
      ·rw [if_pos c7] at H; have c7b0 : decide (0 ≤ t122) = true := decide_eq_true c7; clear c7; obtain rfl := Option.some.inj H; have hcz8_0 : wr.cell? ⟨gb116, 0, none⟩ = some (.slice A0_0 l0_0.length c0_0) := (blk_cell BK116.out 0).trans rfl; have hcz8_1 : wr.cell? ⟨gb116, 1, none⟩ = some (.slice A0_1 l0_1.length c0_1) := (blk_cell BK116.out 1).trans rfl; have hfz8_0 := blk_frozen BK116.out 0; have hfz8_1 := blk_frozen BK116.out 1; have q9 : (x3_1 : Int) ≤ ((l0_1.length : Int) : Int) := of_decide_eq_true za; obtain ⟨i09, hi09, _, hsz9, _⟩ := info_parts info94; have hroom9 : l0_1.length ≤ c0_1 := HC0_1.out; have hC9 : Kd.C k94 _ A0_1 l0_1.length l0_1 := HR0_1.out; have hcut9 := cut_to (P := Try.prog) 28 94 .i64 Try.underlying28 hi09 A0_1 l0_1.length c0_1 x3_1 (of_decide_eq_true za) q9 hroom9; have hr9 := Kd.C_take (m := (x3_1 : Int).toNat) hC9 (by omega); have hy9 : y117.length = (x3_1 : Int).toNat := (by rw [Ny117.out, List.length_take]; omega)
       rw [← Ny117.out] at hr9; rw [← hy9] at hcut9; have HR120 := Aside0.mk hr9; have HC120 := Aside0.mk (show y117.length ≤ c0_1 from by omega); clear hr9 hC9 hroom9 hi09 hsz9; have KY9 := Aside0.mk hy9; clear hy9; replace q9 := eq_true q9; have p121 : 0 ≤ (x3_1 : Int) := of_decide_eq_true za; have q121 : x3_1 < (l0_1.length : Int) := of_decide_eq_true za; obtain ⟨ad121, e121, hx121_0, hx121_1⟩ := at_T94 HR0_1.out x3_1 p121 q121
       cases e121
       replace hx121_0 := (HB.out.cell (World.block_lt_of_cell? w _ hx121_0)).trans hx121_0; replace hx121_1 := (HB.out.cell (World.block_lt_of_cell? w _ hx121_1)).trans hx121_1; replace p121 := eq_true p121; replace q121 := eq_true q121; go_wp2_with (first | (go_at_call 107; (with_reducible refine (spec_pairAt.calls k1 _ _ y117 ((rd_T94 l0_1 x3_1).f0) t122 _ ?side1 ?side2 A6.out).mono ?_); (case side1 => repeat (first | exact (Kd.C_below HR120.out HB.out) | (with_reducible refine Kd.C_alloc ?_ _) | (with_reducible refine Kd.C_drewN ?_ _) | (with_reducible refine Kd.C_drew ?_))); (case side2 => exact HC120.out); rintro e w' ⟨rfl, ⟨nd, rfl⟩⟩; (try first | exact ⟨rfl, _, World.drewN_drewN _ _ _⟩ | exact ⟨rfl, _, Eq.trans (World.drewN_drewN _ _ _) (congrArg (World.drewN _) (Nat.add_assoc _ _ _))⟩)))
       repeat (go_quiet (first | (go_at_call 107; (with_reducible refine (spec_pairAt.calls k1 _ _ y117 ((rd_T94 l0_1 x3_1).f0) t122 _ ?side1 ?side2 A6.out).mono ?_); (case side1 => repeat (first | exact (Kd.C_below HR120.out HB.out) | (with_reducible refine Kd.C_alloc ?_ _) | (with_reducible refine Kd.C_drewN ?_ _) | (with_reducible refine Kd.C_drew ?_))); (case side2 => exact HC120.out); rintro e w' ⟨rfl, ⟨nd, rfl⟩⟩; (try first | exact ⟨rfl, _, World.drewN_drewN _ _ _⟩ | exact ⟨rfl, _, Eq.trans (World.drewN_drewN _ _ _) (congrArg (World.drewN _) (Nat.add_assoc _ _ _))⟩))); try go_wp2_with (first | (go_at_call 107; (with_reducible refine (spec_pairAt.calls k1 _ _ y117 ((rd_T94 l0_1 x3_1).f0) t122 _ ?side1 ?side2 A6.out).mono ?_); (case side1 => repeat (first | exact (Kd.C_below HR120.out HB.out) | (with_reducible refine Kd.C_alloc ?_ _) | (with_reducible refine Kd.C_drewN ?_ _) | (with_reducible refine Kd.C_drew ?_))); (case side2 => exact HC120.out); rintro e w' ⟨rfl, ⟨nd, rfl⟩⟩; (try first | exact ⟨rfl, _, World.drewN_drewN _ _ _⟩ | exact ⟨rfl, _, Eq.trans (World.drewN_drewN _ _ _) (congrArg (World.drewN _) (Nat.add_assoc _ _ _))⟩))))
       go_ret; exact ⟨by first | rfl | (simp [errW_none, errW_some] <;> rfl) | (simp [*, errW_none, errW_some] <;> rfl), zB HB⟩
      ·rw [if_neg c7] at H; have c7b0 : decide (0 ≤ t122) = false := decide_eq_false c7; clear c7; have H' := Aside0.mk H; clear H; have hcz10_0 : wr.cell? ⟨gb116, 0, none⟩ = some (.slice A0_0 l0_0.length c0_0) := (blk_cell BK116.out 0).trans rfl; have hcz10_1 : wr.cell? ⟨gb116, 1, none⟩ = some (.slice A0_1 l0_1.length c0_1) := (blk_cell BK116.out 1).trans rfl; have hfz10_0 := blk_frozen BK116.out 0; have hfz10_1 := blk_frozen BK116.out 1; have q11 : (x3_1 : Int) ≤ ((l0_1.length : Int) : Int) := of_decide_eq_true za; obtain ⟨i011, hi011, _, hsz11, _⟩ := info_parts info94; have hroom11 : l0_1.length ≤ c0_1 := HC0_1.out; have hC11 : Kd.C k94 _ A0_1 l0_1.length l0_1 := HR0_1.out; have hcut11 := cut_to (P := Try.prog) 28 94 .i64 Try.underlying28 hi011 A0_1 l0_1.length c0_1 x3_1 (of_decide_eq_true za) q11 hroom11; have hr11 := Kd.C_take (m := (x3_1 : Int).toNat) hC11 (by omega); have hy11 : y117.length = (x3_1 : Int).toNat := (by rw [Ny117.out, List.length_take]; omega)
       rw [← Ny117.out] at hr11; rw [← hy11] at hcut11; have HR120 := Aside0.mk hr11; have HC120 := Aside0.mk (show y117.length ≤ c0_1 from by omega); clear hr11 hC11 hroom11 hi011 hsz11; have KY11 := Aside0.mk hy11; clear hy11; replace q11 := eq_true q11; have p121 : 0 ≤ (x3_1 : Int) := of_decide_eq_true za; have q121 : x3_1 < (l0_1.length : Int) := of_decide_eq_true za; obtain ⟨ad121, e121, hx121_0, hx121_1⟩ := at_T94 HR0_1.out x3_1 p121 q121
       cases e121
       replace hx121_0 := (HB.out.cell (World.block_lt_of_cell? w _ hx121_0)).trans hx121_0; replace hx121_1 := (HB.out.cell (World.block_lt_of_cell? w _ hx121_1)).trans hx121_1; replace p121 := eq_true p121; replace q121 := eq_true q121; go_wp2_with (first | (go_at_call 107; (with_reducible refine (spec_pairAt.calls k1 _ _ y117 ((rd_T94 l0_1 x3_1).f0) t122 _ ?side1 ?side2 A6.out).mono ?_); (case side1 => repeat (first | exact (Kd.C_below HR120.out HB.out) | (with_reducible refine Kd.C_alloc ?_ _) | (with_reducible refine Kd.C_drewN ?_ _) | (with_reducible refine Kd.C_drew ?_))); (case side2 => exact HC120.out); rintro e w' ⟨rfl, ⟨nd, rfl⟩⟩; (try first | exact ⟨rfl, _, World.drewN_drewN _ _ _⟩ | exact ⟨rfl, _, Eq.trans (World.drewN_drewN _ _ _) (congrArg (World.drewN _) (Nat.add_assoc _ _ _))⟩)))
       repeat (go_quiet (first | (go_at_call 107; (with_reducible refine (spec_pairAt.calls k1 _ _ y117 ((rd_T94 l0_1 x3_1).f0) t122 _ ?side1 ?side2 A6.out).mono ?_); (case side1 => repeat (first | exact (Kd.C_below HR120.out HB.out) | (with_reducible refine Kd.C_alloc ?_ _) | (with_reducible refine Kd.C_drewN ?_ _) | (with_reducible refine Kd.C_drew ?_))); (case side2 => exact HC120.out); rintro e w' ⟨rfl, ⟨nd, rfl⟩⟩; (try first | exact ⟨rfl, _, World.drewN_drewN _ _ _⟩ | exact ⟨rfl, _, Eq.trans (World.drewN_drewN _ _ _) (congrArg (World.drewN _) (Nat.add_assoc _ _ _))⟩))); try go_wp2_with (first | (go_at_call 107; (with_reducible refine (spec_pairAt.calls k1 _ _ y117 ((rd_T94 l0_1 x3_1).f0) t122 _ ?side1 ?side2 A6.out).mono ?_); (case side1 => repeat (first | exact (Kd.C_below HR120.out HB.out) | (with_reducible refine Kd.C_alloc ?_ _) | (with_reducible refine Kd.C_drewN ?_ _) | (with_reducible refine Kd.C_drew ?_))); (case side2 => exact HC120.out); rintro e w' ⟨rfl, ⟨nd, rfl⟩⟩; (try first | exact ⟨rfl, _, World.drewN_drewN _ _ _⟩ | exact ⟨rfl, _, Eq.trans (World.drewN_drewN _ _ _) (congrArg (World.drewN _) (Nat.add_assoc _ _ _))⟩))))
       go_roundg k1
       case measure => have := HK1.out; omega
       case rel => exact ⟨(wrap64 (x3_1 + 1)), zr, H', ⟨by have := HK1.out; omega⟩, ⟨zb BK116⟩, ⟨zB HB⟩⟩
     ·rw [if_neg c5] at H; exact absurd H (by simp)
    ·rw [if_neg c4] at H; exact absurd H (by simp)
   ·rw [if_neg c3] at H; have c3b0 : decide (x3_1 < (l0_1.length : Int)) = false := decide_eq_false c3; clear c3; replace H := Option.bind_eq_some_iff.mp H; obtain ⟨t123, A120, H⟩ := H
    (try dsimp only at H)
    have A12 := Aside0.mk A120; clear A120
    by_cases c13 : t123 = true
    ·subst c13; rw [if_pos rfl] at H; replace H := Option.bind_eq_some_iff.mp H; obtain ⟨t124, A140, H⟩ := H
     (try dsimp only at H)
     have A14 := Aside0.mk A140; clear A140
     by_cases c15 : t124 = true
     ·subst c15; rw [if_pos rfl] at H
      by_cases c16 : (l0_0.length : Int) ≤ 8
      ·rw [if_pos c16] at H; have c16b0 : decide ((l0_0.length : Int) ≤ 8) = true := decide_eq_true c16; have c16b1 : decide (l0_0.length ≤ 8) = true := decide_eq_true (by omega); clear c16; obtain rfl := Option.some.inj H; have hcz17_0 : wr.cell? ⟨gb116, 0, none⟩ = some (.slice A0_0 l0_0.length c0_0) := (blk_cell BK116.out 0).trans rfl; have hcz17_1 : wr.cell? ⟨gb116, 1, none⟩ = some (.slice A0_1 l0_1.length c0_1) := (blk_cell BK116.out 1).trans rfl; have hfz17_0 := blk_frozen BK116.out 0; have hfz17_1 := blk_frozen BK116.out 1; go_wp2_with (first | (go_at_call 110; (with_reducible refine (spec_validNumbers.calls k1 _ _ l0_0 true _ ?side1 ?side2 A12.out).mono ?_); (case side1 => repeat (first | exact (Kd.C_below HR0_0.out HB.out) | (with_reducible refine Kd.C_alloc ?_ _) | (with_reducible refine Kd.C_drewN ?_ _) | (with_reducible refine Kd.C_drew ?_))); (case side2 => exact HC0_0.out); rintro e w' ⟨rfl, ⟨nd, rfl⟩⟩; (try first | exact ⟨rfl, _, World.drewN_drewN _ _ _⟩ | exact ⟨rfl, _, Eq.trans (World.drewN_drewN _ _ _) (congrArg (World.drewN _) (Nat.add_assoc _ _ _))⟩)) | (go_at_call 111; (with_reducible refine (spec_validPairs.calls k1 _ _ l0_1 true _ ?side1 ?side2 A14.out).mono ?_); (case side1 => repeat (first | exact (Kd.C_below HR0_1.out (zB HB)) | (with_reducible refine Kd.C_alloc ?_ _) | (with_reducible refine Kd.C_drewN ?_ _) | (with_reducible refine Kd.C_drew ?_))); (case side2 => exact HC0_1.out); rintro e w' ⟨rfl, ⟨nd, rfl⟩⟩; (try first | exact ⟨rfl, _, World.drewN_drewN _ _ _⟩ | exact ⟨rfl, _, Eq.trans (World.drewN_drewN _ _ _) (congrArg (World.drewN _) (Nat.add_assoc _ _ _))⟩)))
       repeat (go_quiet (first | (go_at_call 110; (with_reducible refine (spec_validNumbers.calls k1 _ _ l0_0 true _ ?side1 ?side2 A12.out).mono ?_); (case side1 => repeat (first | exact (Kd.C_below HR0_0.out HB.out) | (with_reducible refine Kd.C_alloc ?_ _) | (with_reducible refine Kd.C_drewN ?_ _) | (with_reducible refine Kd.C_drew ?_))); (case side2 => exact HC0_0.out); rintro e w' ⟨rfl, ⟨nd, rfl⟩⟩; (try first | exact ⟨rfl, _, World.drewN_drewN _ _ _⟩ | exact ⟨rfl, _, Eq.trans (World.drewN_drewN _ _ _) (congrArg (World.drewN _) (Nat.add_assoc _ _ _))⟩)) | (go_at_call 111; (with_reducible refine (spec_validPairs.calls k1 _ _ l0_1 true _ ?side1 ?side2 A14.out).mono ?_); (case side1 => repeat (first | exact (Kd.C_below HR0_1.out (zB HB)) | (with_reducible refine Kd.C_alloc ?_ _) | (with_reducible refine Kd.C_drewN ?_ _) | (with_reducible refine Kd.C_drew ?_))); (case side2 => exact HC0_1.out); rintro e w' ⟨rfl, ⟨nd, rfl⟩⟩; (try first | exact ⟨rfl, _, World.drewN_drewN _ _ _⟩ | exact ⟨rfl, _, Eq.trans (World.drewN_drewN _ _ _) (congrArg (World.drewN _) (Nat.add_assoc _ _ _))⟩))); try go_wp2_with (first | (go_at_call 110; (with_reducible refine (spec_validNumbers.calls k1 _ _ l0_0 true _ ?side1 ?side2 A12.out).mono ?_); (case side1 => repeat (first | exact (Kd.C_below HR0_0.out HB.out) | (with_reducible refine Kd.C_alloc ?_ _) | (with_reducible refine Kd.C_drewN ?_ _) | (with_reducible refine Kd.C_drew ?_))); (case side2 => exact HC0_0.out); rintro e w' ⟨rfl, ⟨nd, rfl⟩⟩; (try first | exact ⟨rfl, _, World.drewN_drewN _ _ _⟩ | exact ⟨rfl, _, Eq.trans (World.drewN_drewN _ _ _) (congrArg (World.drewN _) (Nat.add_assoc _ _ _))⟩)) | (go_at_call 111; (with_reducible refine (spec_validPairs.calls k1 _ _ l0_1 true _ ?side1 ?side2 A14.out).mono ?_); (case side1 => repeat (first | exact (Kd.C_below HR0_1.out (zB HB)) | (with_reducible refine Kd.C_alloc ?_ _) | (with_reducible refine Kd.C_drewN ?_ _) | (with_reducible refine Kd.C_drew ?_))); (case side2 => exact HC0_1.out); rintro e w' ⟨rfl, ⟨nd, rfl⟩⟩; (try first | exact ⟨rfl, _, World.drewN_drewN _ _ _⟩ | exact ⟨rfl, _, Eq.trans (World.drewN_drewN _ _ _) (congrArg (World.drewN _) (Nat.add_assoc _ _ _))⟩))))
       go_ret; exact ⟨by first | rfl | (simp [errW_none, errW_some] <;> rfl) | (simp [*, errW_none, errW_some] <;> rfl), zB HB⟩
      ·rw [if_neg c16] at H; have c16b0 : decide ((l0_0.length : Int) ≤ 8) = false := decide_eq_false c16; have c16b1 : decide (l0_0.length ≤ 8) = false := decide_eq_false (by omega); clear c16; obtain rfl := Option.some.inj H; have hcz18_0 : wr.cell? ⟨gb116, 0, none⟩ = some (.slice A0_0 l0_0.length c0_0) := (blk_cell BK116.out 0).trans rfl; have hcz18_1 : wr.cell? ⟨gb116, 1, none⟩ = some (.slice A0_1 l0_1.length c0_1) := (blk_cell BK116.out 1).trans rfl; have hfz18_0 := blk_frozen BK116.out 0; have hfz18_1 := blk_frozen BK116.out 1; go_wp2_with (first | (go_at_call 110; (with_reducible refine (spec_validNumbers.calls k1 _ _ l0_0 true _ ?side1 ?side2 A12.out).mono ?_); (case side1 => repeat (first | exact (Kd.C_below HR0_0.out HB.out) | (with_reducible refine Kd.C_alloc ?_ _) | (with_reducible refine Kd.C_drewN ?_ _) | (with_reducible refine Kd.C_drew ?_))); (case side2 => exact HC0_0.out); rintro e w' ⟨rfl, ⟨nd, rfl⟩⟩; (try first | exact ⟨rfl, _, World.drewN_drewN _ _ _⟩ | exact ⟨rfl, _, Eq.trans (World.drewN_drewN _ _ _) (congrArg (World.drewN _) (Nat.add_assoc _ _ _))⟩)) | (go_at_call 111; (with_reducible refine (spec_validPairs.calls k1 _ _ l0_1 true _ ?side1 ?side2 A14.out).mono ?_); (case side1 => repeat (first | exact (Kd.C_below HR0_1.out (zB HB)) | (with_reducible refine Kd.C_alloc ?_ _) | (with_reducible refine Kd.C_drewN ?_ _) | (with_reducible refine Kd.C_drew ?_))); (case side2 => exact HC0_1.out); rintro e w' ⟨rfl, ⟨nd, rfl⟩⟩; (try first | exact ⟨rfl, _, World.drewN_drewN _ _ _⟩ | exact ⟨rfl, _, Eq.trans (World.drewN_drewN _ _ _) (congrArg (World.drewN _) (Nat.add_assoc _ _ _))⟩)))
       repeat (go_quiet (first | (go_at_call 110; (with_reducible refine (spec_validNumbers.calls k1 _ _ l0_0 true _ ?side1 ?side2 A12.out).mono ?_); (case side1 => repeat (first | exact (Kd.C_below HR0_0.out HB.out) | (with_reducible refine Kd.C_alloc ?_ _) | (with_reducible refine Kd.C_drewN ?_ _) | (with_reducible refine Kd.C_drew ?_))); (case side2 => exact HC0_0.out); rintro e w' ⟨rfl, ⟨nd, rfl⟩⟩; (try first | exact ⟨rfl, _, World.drewN_drewN _ _ _⟩ | exact ⟨rfl, _, Eq.trans (World.drewN_drewN _ _ _) (congrArg (World.drewN _) (Nat.add_assoc _ _ _))⟩)) | (go_at_call 111; (with_reducible refine (spec_validPairs.calls k1 _ _ l0_1 true _ ?side1 ?side2 A14.out).mono ?_); (case side1 => repeat (first | exact (Kd.C_below HR0_1.out (zB HB)) | (with_reducible refine Kd.C_alloc ?_ _) | (with_reducible refine Kd.C_drewN ?_ _) | (with_reducible refine Kd.C_drew ?_))); (case side2 => exact HC0_1.out); rintro e w' ⟨rfl, ⟨nd, rfl⟩⟩; (try first | exact ⟨rfl, _, World.drewN_drewN _ _ _⟩ | exact ⟨rfl, _, Eq.trans (World.drewN_drewN _ _ _) (congrArg (World.drewN _) (Nat.add_assoc _ _ _))⟩))); try go_wp2_with (first | (go_at_call 110; (with_reducible refine (spec_validNumbers.calls k1 _ _ l0_0 true _ ?side1 ?side2 A12.out).mono ?_); (case side1 => repeat (first | exact (Kd.C_below HR0_0.out HB.out) | (with_reducible refine Kd.C_alloc ?_ _) | (with_reducible refine Kd.C_drewN ?_ _) | (with_reducible refine Kd.C_drew ?_))); (case side2 => exact HC0_0.out); rintro e w' ⟨rfl, ⟨nd, rfl⟩⟩; (try first | exact ⟨rfl, _, World.drewN_drewN _ _ _⟩ | exact ⟨rfl, _, Eq.trans (World.drewN_drewN _ _ _) (congrArg (World.drewN _) (Nat.add_assoc _ _ _))⟩)) | (go_at_call 111; (with_reducible refine (spec_validPairs.calls k1 _ _ l0_1 true _ ?side1 ?side2 A14.out).mono ?_); (case side1 => repeat (first | exact (Kd.C_below HR0_1.out (zB HB)) | (with_reducible refine Kd.C_alloc ?_ _) | (with_reducible refine Kd.C_drewN ?_ _) | (with_reducible refine Kd.C_drew ?_))); (case side2 => exact HC0_1.out); rintro e w' ⟨rfl, ⟨nd, rfl⟩⟩; (try first | exact ⟨rfl, _, World.drewN_drewN _ _ _⟩ | exact ⟨rfl, _, Eq.trans (World.drewN_drewN _ _ _) (congrArg (World.drewN _) (Nat.add_assoc _ _ _))⟩))))
       go_ret; exact ⟨by first | rfl | (simp [errW_none, errW_some] <;> rfl) | (simp [*, errW_none, errW_some] <;> rfl), zB HB⟩
     ·replace c15 := Bool.eq_false_iff.mpr c15; subst c15; rw [if_neg (show ¬ (false = true) by decide)] at H; obtain rfl := Option.some.inj H; have hcz19_0 : wr.cell? ⟨gb116, 0, none⟩ = some (.slice A0_0 l0_0.length c0_0) := (blk_cell BK116.out 0).trans rfl; have hcz19_1 : wr.cell? ⟨gb116, 1, none⟩ = some (.slice A0_1 l0_1.length c0_1) := (blk_cell BK116.out 1).trans rfl; have hfz19_0 := blk_frozen BK116.out 0; have hfz19_1 := blk_frozen BK116.out 1; go_wp2_with (first | (go_at_call 110; (with_reducible refine (spec_validNumbers.calls k1 _ _ l0_0 true _ ?side1 ?side2 A12.out).mono ?_); (case side1 => repeat (first | exact (Kd.C_below HR0_0.out HB.out) | (with_reducible refine Kd.C_alloc ?_ _) | (with_reducible refine Kd.C_drewN ?_ _) | (with_reducible refine Kd.C_drew ?_))); (case side2 => exact HC0_0.out); rintro e w' ⟨rfl, ⟨nd, rfl⟩⟩; (try first | exact ⟨rfl, _, World.drewN_drewN _ _ _⟩ | exact ⟨rfl, _, Eq.trans (World.drewN_drewN _ _ _) (congrArg (World.drewN _) (Nat.add_assoc _ _ _))⟩)) | (go_at_call 111; (with_reducible refine (spec_validPairs.calls k1 _ _ l0_1 false _ ?side1 ?side2 A14.out).mono ?_); (case side1 => repeat (first | exact (Kd.C_below HR0_1.out (zB HB)) | (with_reducible refine Kd.C_alloc ?_ _) | (with_reducible refine Kd.C_drewN ?_ _) | (with_reducible refine Kd.C_drew ?_))); (case side2 => exact HC0_1.out); rintro e w' ⟨rfl, ⟨nd, rfl⟩⟩; (try first | exact ⟨rfl, _, World.drewN_drewN _ _ _⟩ | exact ⟨rfl, _, Eq.trans (World.drewN_drewN _ _ _) (congrArg (World.drewN _) (Nat.add_assoc _ _ _))⟩)))
      repeat (go_quiet (first | (go_at_call 110; (with_reducible refine (spec_validNumbers.calls k1 _ _ l0_0 true _ ?side1 ?side2 A12.out).mono ?_); (case side1 => repeat (first | exact (Kd.C_below HR0_0.out HB.out) | (with_reducible refine Kd.C_alloc ?_ _) | (with_reducible refine Kd.C_drewN ?_ _) | (with_reducible refine Kd.C_drew ?_))); (case side2 => exact HC0_0.out); rintro e w' ⟨rfl, ⟨nd, rfl⟩⟩; (try first | exact ⟨rfl, _, World.drewN_drewN _ _ _⟩ | exact ⟨rfl, _, Eq.trans (World.drewN_drewN _ _ _) (congrArg (World.drewN _) (Nat.add_assoc _ _ _))⟩)) | (go_at_call 111; (with_reducible refine (spec_validPairs.calls k1 _ _ l0_1 false _ ?side1 ?side2 A14.out).mono ?_); (case side1 => repeat (first | exact (Kd.C_below HR0_1.out (zB HB)) | (with_reducible refine Kd.C_alloc ?_ _) | (with_reducible refine Kd.C_drewN ?_ _) | (with_reducible refine Kd.C_drew ?_))); (case side2 => exact HC0_1.out); rintro e w' ⟨rfl, ⟨nd, rfl⟩⟩; (try first | exact ⟨rfl, _, World.drewN_drewN _ _ _⟩ | exact ⟨rfl, _, Eq.trans (World.drewN_drewN _ _ _) (congrArg (World.drewN _) (Nat.add_assoc _ _ _))⟩))); try go_wp2_with (first | (go_at_call 110; (with_reducible refine (spec_validNumbers.calls k1 _ _ l0_0 true _ ?side1 ?side2 A12.out).mono ?_); (case side1 => repeat (first | exact (Kd.C_below HR0_0.out HB.out) | (with_reducible refine Kd.C_alloc ?_ _) | (with_reducible refine Kd.C_drewN ?_ _) | (with_reducible refine Kd.C_drew ?_))); (case side2 => exact HC0_0.out); rintro e w' ⟨rfl, ⟨nd, rfl⟩⟩; (try first | exact ⟨rfl, _, World.drewN_drewN _ _ _⟩ | exact ⟨rfl, _, Eq.trans (World.drewN_drewN _ _ _) (congrArg (World.drewN _) (Nat.add_assoc _ _ _))⟩)) | (go_at_call 111; (with_reducible refine (spec_validPairs.calls k1 _ _ l0_1 false _ ?side1 ?side2 A14.out).mono ?_); (case side1 => repeat (first | exact (Kd.C_below HR0_1.out (zB HB)) | (with_reducible refine Kd.C_alloc ?_ _) | (with_reducible refine Kd.C_drewN ?_ _) | (with_reducible refine Kd.C_drew ?_))); (case side2 => exact HC0_1.out); rintro e w' ⟨rfl, ⟨nd, rfl⟩⟩; (try first | exact ⟨rfl, _, World.drewN_drewN _ _ _⟩ | exact ⟨rfl, _, Eq.trans (World.drewN_drewN _ _ _) (congrArg (World.drewN _) (Nat.add_assoc _ _ _))⟩))))
      go_ret; exact ⟨by first | rfl | (simp [errW_none, errW_some] <;> rfl) | (simp [*, errW_none, errW_some] <;> rfl), zB HB⟩
    ·replace c13 := Bool.eq_false_iff.mpr c13; subst c13; rw [if_neg (show ¬ (false = true) by decide)] at H; obtain rfl := Option.some.inj H; have hcz20_0 : wr.cell? ⟨gb116, 0, none⟩ = some (.slice A0_0 l0_0.length c0_0) := (blk_cell BK116.out 0).trans rfl; have hcz20_1 : wr.cell? ⟨gb116, 1, none⟩ = some (.slice A0_1 l0_1.length c0_1) := (blk_cell BK116.out 1).trans rfl; have hfz20_0 := blk_frozen BK116.out 0; have hfz20_1 := blk_frozen BK116.out 1; go_wp2_with (first | (go_at_call 110; (with_reducible refine (spec_validNumbers.calls k1 _ _ l0_0 false _ ?side1 ?side2 A12.out).mono ?_); (case side1 => repeat (first | exact (Kd.C_below HR0_0.out HB.out) | (with_reducible refine Kd.C_alloc ?_ _) | (with_reducible refine Kd.C_drewN ?_ _) | (with_reducible refine Kd.C_drew ?_))); (case side2 => exact HC0_0.out); rintro e w' ⟨rfl, ⟨nd, rfl⟩⟩; (try first | exact ⟨rfl, _, World.drewN_drewN _ _ _⟩ | exact ⟨rfl, _, Eq.trans (World.drewN_drewN _ _ _) (congrArg (World.drewN _) (Nat.add_assoc _ _ _))⟩)))
     repeat (go_quiet (first | (go_at_call 110; (with_reducible refine (spec_validNumbers.calls k1 _ _ l0_0 false _ ?side1 ?side2 A12.out).mono ?_); (case side1 => repeat (first | exact (Kd.C_below HR0_0.out HB.out) | (with_reducible refine Kd.C_alloc ?_ _) | (with_reducible refine Kd.C_drewN ?_ _) | (with_reducible refine Kd.C_drew ?_))); (case side2 => exact HC0_0.out); rintro e w' ⟨rfl, ⟨nd, rfl⟩⟩; (try first | exact ⟨rfl, _, World.drewN_drewN _ _ _⟩ | exact ⟨rfl, _, Eq.trans (World.drewN_drewN _ _ _) (congrArg (World.drewN _) (Nat.add_assoc _ _ _))⟩))); try go_wp2_with (first | (go_at_call 110; (with_reducible refine (spec_validNumbers.calls k1 _ _ l0_0 false _ ?side1 ?side2 A12.out).mono ?_); (case side1 => repeat (first | exact (Kd.C_below HR0_0.out HB.out) | (with_reducible refine Kd.C_alloc ?_ _) | (with_reducible refine Kd.C_drewN ?_ _) | (with_reducible refine Kd.C_drew ?_))); (case side2 => exact HC0_0.out); rintro e w' ⟨rfl, ⟨nd, rfl⟩⟩; (try first | exact ⟨rfl, _, World.drewN_drewN _ _ _⟩ | exact ⟨rfl, _, Eq.trans (World.drewN_drewN _ _ _) (congrArg (World.drewN _) (Nat.add_assoc _ _ _))⟩))))
     go_ret; exact ⟨by first | rfl | (simp [errW_none, errW_some] <;> rfl) | (simp [*, errW_none, errW_some] <;> rfl), zB HB⟩

end Go.Proofs.Ytkandhljbbolnaa.Q

namespace Go.Proofs.Ytkandhljbbolnaa.Q
open Go.RowKit Go.Proofs.YtkandhljbbolnaaL.PrintWords Go.Proofs.YtkandhljbbolnaaL.PrintLast Go.Proofs.YtkandhljbbolnaaL.PrintMore
attribute [local go_sem] max2_int min2_int max_two min_two max_three min_three max_four min_four   -- for this text's walks alone
set_option linter.unusedVariables false
set_option linter.unusedSimpArgs false

/-! ### spec_copyFlat: function 85 -/
def spec_copyFlat.f (l0_0 : List Int) (l0_1 : List (S94)) : Option (List Int × (List (S94))) := (some (([] : List Int) : List Int)).bind fun y586 => (if y586.length + l0_0.length < 17592186044416 then ((some (([] : List (S94)) : List (S94))).bind fun y592 => (if y592.length + l0_1.length < 5864062014805 then (some ((y586 ++ l0_0), (y592 ++ l0_1))) else (none))) else (none))
def spec_copyFlat.T1 : Bool × List (List Nat × List Nat) := (true, [([], []), ([], []), ([1], [1]), ([0, 2], [0, 2]), ([], []), ([], []), ([5], [5]), ([4, 6, 3], [4, 6]), ([3, 7], [3, 7]), ([8, 7, 0, 1, 2, 3, 4, 5, 6, 7, 8], [8])])
def spec_copyFlat.B1 : List Nat := [0, 0, 2, 7, 0, 0, 32, 127, 255, 511]
theorem spec_copyFlat.tab1 : rtab .any (opsOf Try.f85 1) = spec_copyFlat.T1 := by kernel_rfl
theorem spec_copyFlat.bits1 : waitsOk spec_copyFlat.T1.2 spec_copyFlat.B1 = true := by kernel_rfl
set_option maxHeartbeats 8000000 in
set_option maxRecDepth 100000 in
theorem spec_copyFlat.calls (A0_0 : Option Addr) (c0_0 : Nat) (l0_0 : List Int) (A0_1 : Option Addr) (c0_1 : Nat) (l0_1 : List (S94)) (r1 : List Int) (r2 : List (S94)) (w : World) (hr0_0 : Kd.C (Kd.int .i64) w A0_0 l0_0.length l0_0) (hc0_0 : l0_0.length ≤ c0_0) (hr0_1 : Kd.C k94 w A0_1 l0_1.length l0_1) (hc0_1 : l0_1.length ≤ c0_1) (h : spec_copyFlat.f l0_0 l0_1 = some (r1, r2)) :
  Calls Try.prog 85 #[.agg #[.slice A0_0 l0_0.length c0_0, .slice A0_1 l0_1.length c0_1]] w fun e w' => ∃ v0_ v1_ : Value, e = .returned (.agg #[v0_, v1_]) ∧ Kd.R (Kd.int .i64) 3 w' w.heap.size (fun _ => True) v0_ r1 ∧ Kd.R k94 94 w' w.heap.size (fun _ => True) v1_ r2 ∧ Below w.heap.size w w' := by
 have hu30 := Try.underlying30; have HR0_0 := Aside0.mk hr0_0; have HC0_0 := Aside0.mk hc0_0; clear hr0_0 hc0_0; have HR0_1 := Aside0.mk hr0_1; have HC0_1 := Aside0.mk hc0_1; clear hr0_1 hc0_1; have HB := Aside0.mk (Below.refl w.heap.size w); have H : ((some (([] : List Int) : List Int)).bind fun y586 => (if y586.length + l0_0.length < 17592186044416 then ((some (([] : List (S94)) : List (S94))).bind fun y592 => (if y592.length + l0_1.length < 5864062014805 then (some ((y586 ++ l0_0), (y592 ++ l0_1))) else (none))) else (none))) = some (r1, r2) := h; clear h; obtain ⟨y586, hy586⟩ : ∃ y_ : List Int, y_ = (([] : List Int)) := ⟨_, rfl⟩
 replace H : (if y586.length + l0_0.length < 17592186044416 then ((some (([] : List (S94)) : List (S94))).bind fun y592 => (if y592.length + l0_1.length < 5864062014805 then (some ((y586 ++ l0_0), (y592 ++ l0_1))) else (none))) else (none)) = some (r1, r2) := by first | (rw [hy586]; with_reducible exact H) | (have H2_ := (Option.bind_some _ _).symm.trans H; rw [hy586]; with_reducible exact H2_) | (have H2_ := (Option.bind_some _ _).symm.trans H; with_reducible exact H2_) | with_reducible exact H | (rw [hy586]; exact H) | exact H
 have Ny586 := Aside0.mk hy586; clear hy586
 by_cases c2 : y586.length + l0_0.length < 17592186044416
 ·rw [if_pos c2] at H; have LMc2 := Aside0.mk c2; clear c2; obtain ⟨y589, hy589⟩ : ∃ y_ : List Int, y_ = (y586 ++ l0_0) := ⟨_, rfl⟩
  replace H : ((some (([] : List (S94)) : List (S94))).bind fun y592 => (if y592.length + l0_1.length < 5864062014805 then (some (y589, (y592 ++ l0_1))) else (none))) = some (r1, r2) := by first | (rw [hy589]; with_reducible exact H) | (have H2_ := (Option.bind_some _ _).symm.trans H; rw [hy589]; with_reducible exact H2_) | (have H2_ := (Option.bind_some _ _).symm.trans H; with_reducible exact H2_) | with_reducible exact H | (rw [hy589]; exact H) | exact H
  have Ny589 := Aside0.mk hy589; clear hy589; obtain ⟨y592, hy592⟩ : ∃ y_ : List (S94), y_ = (([] : List (S94))) := ⟨_, rfl⟩
  replace H : (if y592.length + l0_1.length < 5864062014805 then (some (y589, (y592 ++ l0_1))) else (none)) = some (r1, r2) := by first | (rw [hy592]; with_reducible exact H) | (have H2_ := (Option.bind_some _ _).symm.trans H; rw [hy592]; with_reducible exact H2_) | (have H2_ := (Option.bind_some _ _).symm.trans H; with_reducible exact H2_) | with_reducible exact H | (rw [hy592]; exact H) | exact H
  have Ny592 := Aside0.mk hy592; clear hy592
  by_cases c3 : y592.length + l0_1.length < 5864062014805
  ·rw [if_pos c3] at H; have LMc3 := Aside0.mk c3; clear c3; obtain ⟨y595, hy595⟩ : ∃ y_ : List (S94), y_ = (y592 ++ l0_1) := ⟨_, rfl⟩
   replace H : (some (y589, y595)) = some (r1, r2) := by first | (rw [hy595]; with_reducible exact H) | (have H2_ := (Option.bind_some _ _).symm.trans H; rw [hy595]; with_reducible exact H2_) | (have H2_ := (Option.bind_some _ _).symm.trans H; with_reducible exact H2_) | with_reducible exact H | (rw [hy595]; exact H) | exact H
   have Ny595 := Aside0.mk hy595; clear hy595; simp only [Option.some.injEq, Prod.mk.injEq] at H; obtain ⟨rfl, rfl⟩ := H; go_enter Try.func85, Try.ntmps85
   try go_wp2_with (first | ((with_reducible refine gate_dst (N := 1) rfl ?_); refine zx (N := 1) (cs := #[.slice A0_0 l0_0.length c0_0, .slice A0_1 l0_1.length c0_1]) (t := 30) ?_; intro gb584 hg w4 hbox hb; have BK584 := Aside0.mk (hbox); have GW584 := Aside0.mk ((by rw [hg]; exact (below_size (zB HB)) : w.heap.size ≤ gb584)); have GE584 := GW584; replace HB := Aside0.mk (below_step (zB HB) hb); clear hb hbox hg) | ((with_reducible refine gate_dst (N := 2) rfl ?_); refine zx (N := 2) (cs := #[.slice none 0 0, .slice none 0 0]) (t := 30) ?_; intro gb585 hg w5 hbox hb; have BK585 := Aside0.mk (hbox); have GW585 := Aside0.mk ((by rw [hg]; exact (below_size (zB HB)) : w.heap.size ≤ gb585)); have GE585 := GW585; replace HB := Aside0.mk (below_step (zB HB) hb); have NB584_585 := Aside0.mk ((by rw [hg]; exact Nat.ne_of_lt (blk_lt (g := gb584) (o := .cells #[.slice A0_0 l0_0.length c0_0, .slice A0_1 l0_1.length c0_1] 30 (0, 0)) (zb BK584)) : gb584 ≠ gb585)); have NB585_584 := Aside0.mk NB584_585.out.symm; replace BK584 := Aside0.mk (blk_below (g := gb584) (o := .cells #[.slice A0_0 l0_0.length c0_0, .slice A0_1 l0_1.length c0_1] 30 (0, 0)) (zb BK584) hb); clear hb hbox hg))
   replace BK584 := Aside0.mk (blk_drew BK584.out); replace BK585 := Aside0.mk (blk_drew BK585.out); replace HB := Aside0.mk (below_drew1 HB.out); refine start_ (n := 10) (S := fun w' => w'.cell? ⟨gb584, 0, none⟩ = some (.slice A0_0 l0_0.length c0_0) ∧ w'.cell? ⟨gb584, 1, none⟩ = some (.slice A0_1 l0_1.length c0_1)) (ds := []) #[false, false, false, false, false, false, false, false, false, false] (by kernel_rfl) rfl rfl ⟨(blk_cell BK584.out 0).trans rfl, (blk_cell BK584.out 1).trans rfl⟩ (fun hHeld => ?_); refine with_tabW spec_copyFlat.tab1 spec_copyFlat.bits1 (fun HT_ HW_ => ?_); generalize w5.drew = w6 at BK584 BK585 HB hHeld ⊢; refine pure_ (i := 1) (N := some 4) (v := ?_) (a' := ?_) #[false, true, false, false, false, false, false, false, false, false] rfl rfl (any_of HT_.out (by kernel_rfl)) (fun _ _ _ h => h) (Or.inl ⟨by rfl, ?_⟩) ?_ ?_; rotate_left
   ·intro w'; go_simp; with_reducible rfl
   rotate_left
   ·simp only [Act.put, List.setIfInBounds_toArray, List.set_cons_zero, List.set_cons_succ, i64_w, i32_w]; rfl
   refine pure_ (i := 5) (N := some 8) (v := ?_) (a' := ?_) #[false, true, false, false, false, true, false, false, false, false] rfl rfl (any_of HT_.out (by kernel_rfl)) (fun _ _ _ h => h) (Or.inl ⟨by rfl, ?_⟩) ?_ ?_; rotate_left
   ·intro w'; go_simp; with_reducible rfl
   rotate_left
   ·simp only [Act.put, List.setIfInBounds_toArray, List.set_cons_zero, List.set_cons_succ, i64_w, i32_w]; rfl
   refine take_ (i := 2) (N := some 5) (v := ?_) (a' := ?_) #[false, true, true, false, false, true, false, false, false, false] rfl rfl (take_ofW HT_.out HW_.out (by kernel_rfl)) (fun _ _ _ h => h) (Or.inl ⟨by rfl, ?_⟩) hHeld ?_ ?_; rotate_left
   ·rintro w' ⟨s0, s1⟩; go_simp; with_reducible rfl
   rotate_left
   ·simp only [Act.put, List.setIfInBounds_toArray, List.set_cons_zero, List.set_cons_succ, i64_w, i32_w]; rfl
   refine take_ (i := 6) (N := some 9) (v := ?_) (a' := ?_) #[false, true, true, false, false, true, true, false, false, false] rfl rfl (take_ofW HT_.out HW_.out (by kernel_rfl)) (fun _ _ _ h => h) (Or.inl ⟨by rfl, ?_⟩) hHeld ?_ ?_; rotate_left
   ·rintro w' ⟨s0, s1⟩; go_simp; with_reducible rfl
   rotate_left
   ·simp only [Act.put, List.setIfInBounds_toArray, List.set_cons_zero, List.set_cons_succ, i64_w, i32_w]; rfl
   refine join_ (σ := Value × Value × Value) 3 #[true, true, true, true, true, true, true, false, false, false] (fun s_ => [(3, s_.1), (6, s_.2.1), (7, s_.2.2)]) (fun s_ w' => (w'.cell? ⟨gb584, 0, none⟩ = some (.slice A0_0 l0_0.length c0_0) ∧ w'.cell? ⟨gb584, 1, none⟩ = some (.slice A0_1 l0_1.length c0_1)) ∧ (Kd.R (Kd.int .i64) 3 w' w.heap.size (fun _ => True) s_.2.1 y589) ∧ (Kd.R k94 94 w' w.heap.size (fun _ => True) s_.2.2 y592) ∧ (w'.heap[gb584]? = some (.cells #[.slice A0_0 l0_0.length c0_0, .slice A0_1 l0_1.length c0_1] 30 (0, 0))) ∧ (w'.heap[gb585]? = some (.cells #[.slice none 0 0, .slice none 0 0] 30 (0, 0))) ∧ (Below w.heap.size w w')) ?_ ?_; rotate_left
   ·intro hCont; refine two_ (i := 0) (j := 4) (Ni := some 3) (Nj := some 7) #[true, true, true, false, false, true, true, false, false, false] #[false, true, true, false, true, true, true, false, false, false] rfl rfl rfl rfl (two_of HT_.out (by kernel_rfl)) (by decide) (by decide) (fun K hK => ?_) (fun K hK => ?_)
    ·skip
     refine Kd.R_lit_step (Kd.int .i64) _ 3 ?hg (N := 3) ?hd (xs := ([] : List Int)) (inner := []) (ok := fun _ => True) (okp := fun _ => True) ?hr ?hp (fun _ hk => hk) trivial (Below.refl _ _) (Nat.le_refl _) (by simp) ?_; (case hd => rfl); (case hg => rfl); (case hr => first | (go_simp; done) | (go_simp; rfl)); (case hp => exact (Reps.none _ _)); intro v587 w7 ho8 hb hg_ hnew_; clear hg_ hnew_
     (first | rw [← Ny586.out] at ho8 | (simp only [Int.reduceToNat] at ho8; rw [← Ny586.out] at ho8))
     have HO588 := Aside0.mk (Kd.R_lower ho8 (below_size (zB HB))); replace BK584 := Aside0.mk (blk_below (g := gb584) (o := .cells #[.slice A0_0 l0_0.length c0_0, .slice A0_1 l0_1.length c0_1] 30 (0, 0)) (zb BK584) hb); replace BK585 := Aside0.mk (blk_below (g := gb585) (o := .cells #[.slice none 0 0, .slice none 0 0] 30 (0, 0)) (zb BK585) hb); replace HB := Aside0.mk (below_step (zB HB) hb); clear hb ho8; refine hK.out _ _ ⟨(blk_cell BK584.out 0).trans rfl, (blk_cell BK584.out 1).trans rfl⟩ (fun hHeld => ?_); clear hK K; refine norm_ (a' := ?_) ?_ ?_; rotate_left
     ·show Act.put _ (some 3) _ = _
      simp only [Act.put, List.setIfInBounds_toArray, List.set_cons_zero, List.set_cons_succ, i64_w, i32_w]; rfl
     refine two_ (i := 3) (j := 4) (Ni := some 6) (Nj := some 7) #[true, true, true, true, false, true, true, false, false, false] #[true, true, true, false, true, true, true, false, false, false] rfl rfl rfl rfl (two_of HT_.out (by kernel_rfl)) (by decide) (by decide) (fun K hK => ?_) (fun K hK => ?_)
     ·skip
      refine Kd.R_append_rows_step (Kd.int .i64) (w0 := w) w.heap.size (by rfl) (.tmp 3) (.tmp 5) 22 3 (.int .i64 0) 8 rfl Try.underlying22 info3 rfl (by decide) (by omega) v587 y586 l0_0 _ _ _ (fun _ => True) (fun _ => False) rfl rfl ?aO ?aR (fun _ _ h => h) (fun _ h => h.elim) ?aF ?aB ?aS ?aL ?_
      (case aR => repeat (first | exact (Kd.C_below HR0_0.out HB.out) | (with_reducible refine Kd.C_alloc ?_ _) | (with_reducible refine Kd.C_drewN ?_ _) | (with_reducible refine Kd.C_drew ?_)))
      (case aB => exact (zB HB))
      (case aF => exact (fun _ _ => trivial))
      (case aO => exact (zo HO588))
      (case aS => exact (below_size (zB HB)))
      (case aL => have := LMc2.out; omega)
      intro v590 w9 ho hb hg hat; rw [← Ny589.out] at ho; have n0_ := Aside0.mk (blk_grown (g := gb584) (o := .cells #[.slice A0_0 l0_0.length c0_0, .slice A0_1 l0_1.length c0_1] 30 (0, 0)) (zb BK584) hg (Kd.R_ne HO588.out BK584.out (by decide))); have n1_ := Aside0.mk (blk_grown (g := gb585) (o := .cells #[.slice none 0 0, .slice none 0 0] 30 (0, 0)) (zb BK585) hg (Kd.R_ne HO588.out BK585.out (by decide))); have n2_ := Aside0.mk (hb); have n3_ := Aside0.mk (ho); clear BK584; clear BK585; clear HB; clear HO588; have BK584 := n0_; have BK585 := n1_; have HB := n2_; have HO591 := n3_; clear n0_ n1_ n2_ n3_; clear ho hb hg hat; refine hK.out _ _ ⟨(blk_cell BK584.out 0).trans rfl, (blk_cell BK584.out 1).trans rfl⟩ (fun hHeld => ?_); clear hK K; refine norm_ (a' := ?_) ?_ ?_; rotate_left
      ·show Act.put _ (some 6) _ = _
       simp only [Act.put, List.setIfInBounds_toArray, List.set_cons_zero, List.set_cons_succ, i64_w, i32_w]; rfl
      refine one_ (i := 4) (N := some 7) #[true, true, true, true, true, true, true, false, false, false] rfl rfl (one_of HT_.out (by kernel_rfl)) (by decide) (fun K hK => ?_); refine Kd.R_lit_step k94 _ 94 ?hg (N := 7) ?hd (xs := ([] : List (S94))) (inner := []) (ok := fun _ => True) (okp := fun _ => True) ?hr ?hp (fun _ hk => hk) trivial (Below.refl _ _) (Nat.le_refl _) (by simp) ?_; (case hd => rfl); (case hg => rfl); (case hr => first | (go_simp; done) | (go_simp; rfl)); (case hp => exact (Reps.none _ _)); intro v593 w10 ho11 hb hg_ hnew_; clear hg_ hnew_
      (first | rw [← Ny592.out] at ho11 | (simp only [Int.reduceToNat] at ho11; rw [← Ny592.out] at ho11))
      replace HO591 := Aside0.mk (Kd.R_below (zo HO591) hb); have HO594 := Aside0.mk (Kd.R_lower ho11 (below_size (zB HB))); replace BK584 := Aside0.mk (blk_below (g := gb584) (o := .cells #[.slice A0_0 l0_0.length c0_0, .slice A0_1 l0_1.length c0_1] 30 (0, 0)) (zb BK584) hb); replace BK585 := Aside0.mk (blk_below (g := gb585) (o := .cells #[.slice none 0 0, .slice none 0 0] 30 (0, 0)) (zb BK585) hb); replace HB := Aside0.mk (below_step (zB HB) hb); clear hb ho11; refine hK.out _ _ ⟨(blk_cell BK584.out 0).trans rfl, (blk_cell BK584.out 1).trans rfl⟩ (fun hHeld => ?_); clear hK K; refine norm_ (a' := ?_) ?_ ?_; rotate_left
      ·show Act.put _ (some 7) _ = _
       simp only [Act.put, List.setIfInBounds_toArray, List.set_cons_zero, List.set_cons_succ, i64_w, i32_w]; rfl
      exact norm_ zn (hCont (v587, v590, v593) _ ⟨hHeld, (zo HO591), (zo HO594), (zb BK584), (zb BK585), (zB HB)⟩)
     ·skip
      refine Kd.R_lit_step k94 _ 94 ?hg (N := 7) ?hd (xs := ([] : List (S94))) (inner := []) (ok := fun _ => True) (okp := fun _ => True) ?hr ?hp (fun _ hk => hk) trivial (Below.refl _ _) (Nat.le_refl _) (by simp) ?_; (case hd => rfl); (case hg => rfl); (case hr => first | (go_simp; done) | (go_simp; rfl)); (case hp => exact (Reps.none _ _)); intro v593 w9 ho10 hb hg_ hnew_; clear hg_ hnew_
      (first | rw [← Ny592.out] at ho10 | (simp only [Int.reduceToNat] at ho10; rw [← Ny592.out] at ho10))
      replace HO588 := Aside0.mk (Kd.R_below (zo HO588) hb); have HO594 := Aside0.mk (Kd.R_lower ho10 (below_size (zB HB))); replace BK584 := Aside0.mk (blk_below (g := gb584) (o := .cells #[.slice A0_0 l0_0.length c0_0, .slice A0_1 l0_1.length c0_1] 30 (0, 0)) (zb BK584) hb); replace BK585 := Aside0.mk (blk_below (g := gb585) (o := .cells #[.slice none 0 0, .slice none 0 0] 30 (0, 0)) (zb BK585) hb); replace HB := Aside0.mk (below_step (zB HB) hb); clear hb ho10; refine hK.out _ _ ⟨(blk_cell BK584.out 0).trans rfl, (blk_cell BK584.out 1).trans rfl⟩ (fun hHeld => ?_); clear hK K; refine norm_ (a' := ?_) ?_ ?_; rotate_left
      ·show Act.put _ (some 7) _ = _
       simp only [Act.put, List.setIfInBounds_toArray, List.set_cons_zero, List.set_cons_succ, i64_w, i32_w]; rfl
      refine one_ (i := 3) (N := some 6) #[true, true, true, true, true, true, true, false, false, false] rfl rfl (one_of HT_.out (by kernel_rfl)) (by decide) (fun K hK => ?_); refine Kd.R_append_rows_step (Kd.int .i64) (w0 := w) w.heap.size (by rfl) (.tmp 3) (.tmp 5) 22 3 (.int .i64 0) 8 rfl Try.underlying22 info3 rfl (by decide) (by omega) v587 y586 l0_0 _ _ _ (fun _ => True) (fun _ => False) rfl rfl ?aO ?aR (fun _ _ h => h) (fun _ h => h.elim) ?aF ?aB ?aS ?aL ?_
      (case aR => repeat (first | exact (Kd.C_below HR0_0.out HB.out) | (with_reducible refine Kd.C_alloc ?_ _) | (with_reducible refine Kd.C_drewN ?_ _) | (with_reducible refine Kd.C_drew ?_)))
      (case aB => exact (zB HB))
      (case aF => exact (fun _ _ => trivial))
      (case aO => exact (zo HO588))
      (case aS => exact (below_size (zB HB)))
      (case aL => have := LMc2.out; omega)
      intro v590 w11 ho hb hg hat; rw [← Ny589.out] at ho; have n0_ := Aside0.mk (blk_grown (g := gb584) (o := .cells #[.slice A0_0 l0_0.length c0_0, .slice A0_1 l0_1.length c0_1] 30 (0, 0)) (zb BK584) hg (Kd.R_ne HO588.out BK584.out (by decide))); have n1_ := Aside0.mk (blk_grown (g := gb585) (o := .cells #[.slice none 0 0, .slice none 0 0] 30 (0, 0)) (zb BK585) hg (Kd.R_ne HO588.out BK585.out (by decide))); have n2_ := Aside0.mk (Kd.R_over' (zo HO594) (Kd.R_typed (zo HO588)) (by decide) hg); have n3_ := Aside0.mk (hb); have n4_ := Aside0.mk (ho); clear BK584; clear BK585; clear HO594; clear HB; clear HO588; have BK584 := n0_; have BK585 := n1_; have HO594 := n2_; have HB := n3_; have HO591 := n4_; clear n0_ n1_ n2_ n3_ n4_; clear ho hb hg hat; refine hK.out _ _ ⟨(blk_cell BK584.out 0).trans rfl, (blk_cell BK584.out 1).trans rfl⟩ (fun hHeld => ?_); clear hK K; refine norm_ (a' := ?_) ?_ ?_; rotate_left
      ·show Act.put _ (some 6) _ = _
       simp only [Act.put, List.setIfInBounds_toArray, List.set_cons_zero, List.set_cons_succ, i64_w, i32_w]; rfl
      exact norm_ zn (hCont (v587, v590, v593) _ ⟨hHeld, (zo HO591), (zo HO594), (zb BK584), (zb BK585), (zB HB)⟩)
    ·skip
     refine Kd.R_lit_step k94 _ 94 ?hg (N := 7) ?hd (xs := ([] : List (S94))) (inner := []) (ok := fun _ => True) (okp := fun _ => True) ?hr ?hp (fun _ hk => hk) trivial (Below.refl _ _) (Nat.le_refl _) (by simp) ?_; (case hd => rfl); (case hg => rfl); (case hr => first | (go_simp; done) | (go_simp; rfl)); (case hp => exact (Reps.none _ _)); intro v593 w7 ho8 hb hg_ hnew_; clear hg_ hnew_
     (first | rw [← Ny592.out] at ho8 | (simp only [Int.reduceToNat] at ho8; rw [← Ny592.out] at ho8))
     have HO594 := Aside0.mk (Kd.R_lower ho8 (below_size (zB HB))); replace BK584 := Aside0.mk (blk_below (g := gb584) (o := .cells #[.slice A0_0 l0_0.length c0_0, .slice A0_1 l0_1.length c0_1] 30 (0, 0)) (zb BK584) hb); replace BK585 := Aside0.mk (blk_below (g := gb585) (o := .cells #[.slice none 0 0, .slice none 0 0] 30 (0, 0)) (zb BK585) hb); replace HB := Aside0.mk (below_step (zB HB) hb); clear hb ho8; refine hK.out _ _ ⟨(blk_cell BK584.out 0).trans rfl, (blk_cell BK584.out 1).trans rfl⟩ (fun hHeld => ?_); clear hK K; refine norm_ (a' := ?_) ?_ ?_; rotate_left
     ·show Act.put _ (some 7) _ = _
      simp only [Act.put, List.setIfInBounds_toArray, List.set_cons_zero, List.set_cons_succ, i64_w, i32_w]; rfl
     refine one_ (i := 0) (N := some 3) #[true, true, true, false, true, true, true, false, false, false] rfl rfl (one_of HT_.out (by kernel_rfl)) (by decide) (fun K hK => ?_); refine Kd.R_lit_step (Kd.int .i64) _ 3 ?hg (N := 3) ?hd (xs := ([] : List Int)) (inner := []) (ok := fun _ => True) (okp := fun _ => True) ?hr ?hp (fun _ hk => hk) trivial (Below.refl _ _) (Nat.le_refl _) (by simp) ?_; (case hd => rfl); (case hg => rfl); (case hr => first | (go_simp; done) | (go_simp; rfl)); (case hp => exact (Reps.none _ _)); intro v587 w9 ho10 hb hg_ hnew_; clear hg_ hnew_
     (first | rw [← Ny586.out] at ho10 | (simp only [Int.reduceToNat] at ho10; rw [← Ny586.out] at ho10))
     replace HO594 := Aside0.mk (Kd.R_below (zo HO594) hb); have HO588 := Aside0.mk (Kd.R_lower ho10 (below_size (zB HB))); replace BK584 := Aside0.mk (blk_below (g := gb584) (o := .cells #[.slice A0_0 l0_0.length c0_0, .slice A0_1 l0_1.length c0_1] 30 (0, 0)) (zb BK584) hb); replace BK585 := Aside0.mk (blk_below (g := gb585) (o := .cells #[.slice none 0 0, .slice none 0 0] 30 (0, 0)) (zb BK585) hb); replace HB := Aside0.mk (below_step (zB HB) hb); clear hb ho10; refine hK.out _ _ ⟨(blk_cell BK584.out 0).trans rfl, (blk_cell BK584.out 1).trans rfl⟩ (fun hHeld => ?_); clear hK K; refine norm_ (a' := ?_) ?_ ?_; rotate_left
     ·show Act.put _ (some 3) _ = _
      simp only [Act.put, List.setIfInBounds_toArray, List.set_cons_zero, List.set_cons_succ, i64_w, i32_w]; rfl
     refine one_ (i := 3) (N := some 6) #[true, true, true, true, true, true, true, false, false, false] rfl rfl (one_of HT_.out (by kernel_rfl)) (by decide) (fun K hK => ?_); refine Kd.R_append_rows_step (Kd.int .i64) (w0 := w) w.heap.size (by rfl) (.tmp 3) (.tmp 5) 22 3 (.int .i64 0) 8 rfl Try.underlying22 info3 rfl (by decide) (by omega) v587 y586 l0_0 _ _ _ (fun _ => True) (fun _ => False) rfl rfl ?aO ?aR (fun _ _ h => h) (fun _ h => h.elim) ?aF ?aB ?aS ?aL ?_
     (case aR => repeat (first | exact (Kd.C_below HR0_0.out HB.out) | (with_reducible refine Kd.C_alloc ?_ _) | (with_reducible refine Kd.C_drewN ?_ _) | (with_reducible refine Kd.C_drew ?_)))
     (case aB => exact (zB HB))
     (case aF => exact (fun _ _ => trivial))
     (case aO => exact (zo HO588))
     (case aS => exact (below_size (zB HB)))
     (case aL => have := LMc2.out; omega)
     intro v590 w11 ho hb hg hat; rw [← Ny589.out] at ho; have n0_ := Aside0.mk (blk_grown (g := gb584) (o := .cells #[.slice A0_0 l0_0.length c0_0, .slice A0_1 l0_1.length c0_1] 30 (0, 0)) (zb BK584) hg (Kd.R_ne HO588.out BK584.out (by decide))); have n1_ := Aside0.mk (blk_grown (g := gb585) (o := .cells #[.slice none 0 0, .slice none 0 0] 30 (0, 0)) (zb BK585) hg (Kd.R_ne HO588.out BK585.out (by decide))); have n2_ := Aside0.mk (Kd.R_over' (zo HO594) (Kd.R_typed (zo HO588)) (by decide) hg); have n3_ := Aside0.mk (hb); have n4_ := Aside0.mk (ho); clear BK584; clear BK585; clear HO594; clear HB; clear HO588; have BK584 := n0_; have BK585 := n1_; have HO594 := n2_; have HB := n3_; have HO591 := n4_; clear n0_ n1_ n2_ n3_ n4_; clear ho hb hg hat; refine hK.out _ _ ⟨(blk_cell BK584.out 0).trans rfl, (blk_cell BK584.out 1).trans rfl⟩ (fun hHeld => ?_); clear hK K; refine norm_ (a' := ?_) ?_ ?_; rotate_left
     ·show Act.put _ (some 6) _ = _
      simp only [Act.put, List.setIfInBounds_toArray, List.set_cons_zero, List.set_cons_succ, i64_w, i32_w]; rfl
     exact norm_ zn (hCont (v587, v590, v593) _ ⟨hHeld, (zo HO591), (zo HO594), (zb BK584), (zb BK585), (zB HB)⟩)
   rintro ⟨v587, v590, v593⟩ w12 ⟨hS_, h0_, h1_, h2_, h3_, h4_⟩; have n0_ : Aside0 (Kd.R (Kd.int .i64) 3 w12 w.heap.size (fun _ => True) v590 y589) := ⟨h0_⟩
   have n1_ : Aside0 (Kd.R k94 94 w12 w.heap.size (fun _ => True) v593 y592) := ⟨h1_⟩
   have n2_ : Aside0 (w12.heap[gb584]? = some (.cells #[.slice A0_0 l0_0.length c0_0, .slice A0_1 l0_1.length c0_1] 30 (0, 0))) := ⟨h2_⟩
   have n3_ : Aside0 (w12.heap[gb585]? = some (.cells #[.slice none 0 0, .slice none 0 0] 30 (0, 0))) := ⟨h3_⟩
   have n4_ : Aside0 (Below w.heap.size w w12) := ⟨h4_⟩
   clear BK584; clear BK585; clear HB; clear h0_ h1_ h2_ h3_ h4_; have HO591 := n0_; have HO594 := n1_; have BK584 := n2_; have BK585 := n3_; have HB := n4_; clear n0_ n1_ n2_ n3_ n4_; have hHeld : w12.cell? ⟨gb584, 0, none⟩ = some (.slice A0_0 l0_0.length c0_0) ∧ w12.cell? ⟨gb584, 1, none⟩ = some (.slice A0_1 l0_1.length c0_1) := hS_; refine norm_ (a' := ?_) ?_ ?_; rotate_left
   ·simp only [putAll, Act.put, List.setIfInBounds_toArray, List.set_cons_zero, List.set_cons_succ]; rfl
   refine one_ (i := 7) (N := some 10) #[true, true, true, true, true, true, true, true, false, false] rfl rfl (one_of HT_.out (by kernel_rfl)) (by decide) (fun K hK => ?_); refine Kd.R_append_rows_step k94 (w0 := w) w.heap.size (by rfl) (.tmp 7) (.tmp 9) 28 94 (.agg #[(.string ⟨#[]⟩), (.int .i64 0)]) 24 rfl Try.underlying28 info94 rfl (by decide) (by omega) v593 y592 l0_1 _ _ _ (fun _ => True) (fun _ => False) rfl rfl ?aO ?aR (fun _ _ h => h) (fun _ h => h.elim) ?aF ?aB ?aS ?aL ?_
   (case aR => repeat (first | exact (Kd.C_below HR0_1.out HB.out) | (with_reducible refine Kd.C_alloc ?_ _) | (with_reducible refine Kd.C_drewN ?_ _) | (with_reducible refine Kd.C_drew ?_)))
   (case aB => exact (zB HB))
   (case aF => exact (fun _ _ => trivial))
   (case aO => exact (zo HO594))
   (case aS => exact (below_size (zB HB)))
   (case aL => have := LMc3.out; omega)
   intro v596 w13 ho hb hg hat; rw [← Ny595.out] at ho; have n0_ := Aside0.mk (blk_grown (g := gb584) (o := .cells #[.slice A0_0 l0_0.length c0_0, .slice A0_1 l0_1.length c0_1] 30 (0, 0)) (zb BK584) hg (Kd.R_ne HO594.out BK584.out (by decide))); have n1_ := Aside0.mk (blk_grown (g := gb585) (o := .cells #[.slice none 0 0, .slice none 0 0] 30 (0, 0)) (zb BK585) hg (Kd.R_ne HO594.out BK585.out (by decide))); have n2_ := Aside0.mk (Kd.R_over' (zo HO591) (Kd.R_typed (zo HO594)) (by decide) hg); have n3_ := Aside0.mk (hb); have n4_ := Aside0.mk (ho); clear BK584; clear BK585; clear HO591; clear HB; clear HO594; have BK584 := n0_; have BK585 := n1_; have HO591 := n2_; have HB := n3_; have HO597 := n4_; clear n0_ n1_ n2_ n3_ n4_; clear ho hb hg hat; obtain ⟨Ao14, co14, eo14⟩ := Kd.R_slice HO597.out
   (first | subst eo14 | (injection eo14 with f1_ f2_ f3_; have f4_ := f1_.symm; have f5_ := f3_.symm; clear f1_ f2_ f3_; subst f4_; subst f5_))
   obtain ⟨Ao15, co15, eo15⟩ := Kd.R_slice HO591.out
   (first | subst eo15 | (injection eo15 with f1_ f2_ f3_; have f4_ := f1_.symm; have f5_ := f3_.symm; clear f1_ f2_ f3_; subst f4_; subst f5_))
   refine hK.out _ _ ⟨(blk_cell BK584.out 0).trans rfl, (blk_cell BK584.out 1).trans rfl⟩ (fun hHeld => ?_); clear hK K; refine norm_ (a' := ?_) ?_ ?_; rotate_left
   ·show Act.put _ (some 10) _ = _
    simp only [Act.put, List.setIfInBounds_toArray, List.set_cons_zero, List.set_cons_succ, i64_w, i32_w]; rfl
   refine pure_ (i := 8) (N := some 11) (v := ?_) (a' := ?_) #[true, true, true, true, true, true, true, true, true, false] rfl rfl (any_of HT_.out (by kernel_rfl)) (fun _ _ _ h => h) (Or.inl ⟨by rfl, ?_⟩) ?_ ?_; rotate_left
   ·intro w'; go_simp; with_reducible rfl
   rotate_left
   ·simp only [Act.put, List.setIfInBounds_toArray, List.set_cons_zero, List.set_cons_succ, i64_w, i32_w]; rfl
   refine one_ (i := 9) (N := none) #[true, true, true, true, true, true, true, true, true, true] rfl rfl (one_of HT_.out (by kernel_rfl)) (by decide) (fun K hK => ?_); have hs16 : w13.cell? ⟨gb585, 0, none⟩ = some (.slice none 0 0) := (blk_cell BK585.out 0).trans rfl; have hfs16 := blk_frozen BK585.out 0; have hns16_0 := NB584_585.out; have hms16_0 := NB585_584.out; have hs17 : w13.cell? ⟨gb585, 1, none⟩ = some (.slice none 0 0) := (blk_cell BK585.out 1).trans rfl; have hfs17 := blk_frozen BK585.out 1; have hns17_0 := NB584_585.out; have hms17_0 := NB585_584.out; refine skip_ (w1 := ?_) (by rfl) rfl ?_ ?_; rotate_left
   ·go_simp; rfl
   refine hK.out _ _ ⟨((cell_far (p := ⟨gb585, _, none⟩) NB584_585.out _).trans (((cell_far (p := ⟨gb585, _, none⟩) NB584_585.out _).trans (hHeld.1)))), ((cell_far (p := ⟨gb585, _, none⟩) NB584_585.out _).trans (((cell_far (p := ⟨gb585, _, none⟩) NB584_585.out _).trans (hHeld.2))))⟩ (fun hHeld => ?_); clear hK K; refine done_ (done_of HT_.out (by kernel_rfl)) ?_
   try go_wp2
   refine bodyPost_ret (results_cell_row rfl _ _ gb585 30 #[.slice Ao15 y589.length co15, .slice Ao14 y595.length co14] (0, 0) _ rfl (by (with_reducible repeat (first | refine blk_drewN ?_ _ | refine blk_drew ?_ | refine blk_alloc ?_ _)); refine blk_put (cs := #[.slice Ao15 y589.length co15, .slice none 0 0]) ?_ 1 _ rfl; (with_reducible repeat (first | refine blk_drewN ?_ _ | refine blk_drew ?_ | refine blk_alloc ?_ _)); refine blk_put (cs := #[.slice none 0 0, .slice none 0 0]) ?_ 0 _ rfl; (with_reducible repeat (first | refine blk_drewN ?_ _ | refine blk_drew ?_ | refine blk_alloc ?_ _)); exact BK585.out) Try.underlying30 rfl (by kernel_rfl)) rfl ?_; exact ⟨_, _, by first | rfl | (simp [errW_none, errW_some] <;> rfl) | (simp [*, errW_none, errW_some] <;> rfl), by (with_reducible repeat (first | apply Kd.R_alloc | apply Kd.R_drewN | apply Kd.R_drew)); exact Kd.R_mono (Kd.R_far (p := ⟨gb585, 1, none⟩) (Kd.R_far (p := ⟨gb585, 0, none⟩) (Kd.R_types HO591.out BK585.out (by decide)) (fun _ hk => hk.2) (.slice Ao15 y589.length co15)) (fun _ hk => hk.2) (.slice Ao14 y595.length co14)) (fun _ hk => trivial), by (with_reducible repeat (first | apply Kd.R_alloc | apply Kd.R_drewN | apply Kd.R_drew)); exact Kd.R_mono (Kd.R_far (p := ⟨gb585, 1, none⟩) (Kd.R_far (p := ⟨gb585, 0, none⟩) (Kd.R_types HO597.out BK585.out (by decide)) (fun _ hk => hk.2) (.slice Ao15 y589.length co15)) (fun _ hk => hk.2) (.slice Ao14 y595.length co14)) (fun _ hk => trivial), zB HB⟩
  ·rw [if_neg c3] at H; exact absurd H (by simp)
 ·rw [if_neg c2] at H; exact absurd H (by simp)

end Go.Proofs.Ytkandhljbbolnaa.Q

namespace Go.Proofs.Ytkandhljbbolnaa.Q
open Go.RowKit Go.Proofs.YtkandhljbbolnaaL.PrintWords Go.Proofs.YtkandhljbbolnaaL.PrintLast Go.Proofs.YtkandhljbbolnaaL.PrintMore
attribute [local go_sem] max2_int min2_int max_two min_two max_three min_three max_four min_four   -- for this text's walks alone
set_option linter.unusedVariables false
set_option linter.unusedSimpArgs false

/-! ### spec_dropPair: function 108 -/
def spec_dropPair.f (l0 : List (S94)) (a1 : Int) : Option ((List (S94))) := (some (([] : List (S94)) : List (S94))).bind fun y1171 => (if 0 ≤ a1 then (if a1 ≤ (l0.length : Int) then ((some (l0.take (a1 : Int).toNat : List (S94))).bind fun y1174 => (if y1171.length + y1174.length < 5864062014805 then ((some (y1171 ++ y1174 : List (S94))).bind fun y1178 => (if 0 ≤ (wrap64 (a1 + 1)) then (if (wrap64 (a1 + 1)) ≤ (l0.length : Int) then ((some (l0.drop ((wrap64 (a1 + 1)) : Int).toNat : List (S94))).bind fun y1181 => (if y1178.length + y1181.length < 5864062014805 then (some (y1178 ++ y1181)) else (none))) else (none)) else (none))) else (none))) else (none)) else (none))
def spec_dropPair.T1 : Bool × List (List Nat × List Nat) := (true, [([], []), ([], []), ([], []), ([1, 2], [1, 2]), ([0, 3], [0, 3]), ([], []), ([], []), ([6], [6]), ([5, 7], [5, 7]), ([4, 8, 4], [4, 8]), ([9, 9, 0, 1, 2, 3, 4, 5, 6, 7, 8, 9], [9])])
def spec_dropPair.B1 : List Nat := [0, 0, 0, 6, 15, 0, 0, 64, 224, 511, 1023]
theorem spec_dropPair.tab1 : rtab .any (opsOf Try.f108 1) = spec_dropPair.T1 := by kernel_rfl
theorem spec_dropPair.bits1 : waitsOk spec_dropPair.T1.2 spec_dropPair.B1 = true := by kernel_rfl
set_option maxHeartbeats 8000000 in
set_option maxRecDepth 100000 in
theorem spec_dropPair.calls (A0 : Option Addr) (c0 : Nat) (l0 : List (S94)) (a1 : Int) (r : List (S94)) (w : World) (hr0 : Kd.C k94 w A0 l0.length l0) (hc0 : l0.length ≤ c0) (h : spec_dropPair.f l0 a1 = some r) :
  Calls Try.prog 108 #[.slice A0 l0.length c0, .int .i64 a1] w fun e w' => ∃ v0_ : Value, e = .returned (v0_) ∧ Kd.R k94 94 w' w.heap.size (fun _ => True) v0_ r ∧ Below w.heap.size w w' := by
 have HR0 := Aside0.mk hr0; have HC0 := Aside0.mk hc0; clear hr0 hc0; have HB := Aside0.mk (Below.refl w.heap.size w); have H : ((some (([] : List (S94)) : List (S94))).bind fun y1171 => (if 0 ≤ a1 then (if a1 ≤ (l0.length : Int) then ((some (l0.take (a1 : Int).toNat : List (S94))).bind fun y1174 => (if y1171.length + y1174.length < 5864062014805 then ((some (y1171 ++ y1174 : List (S94))).bind fun y1178 => (if 0 ≤ (wrap64 (a1 + 1)) then (if (wrap64 (a1 + 1)) ≤ (l0.length : Int) then ((some (l0.drop ((wrap64 (a1 + 1)) : Int).toNat : List (S94))).bind fun y1181 => (if y1178.length + y1181.length < 5864062014805 then (some (y1178 ++ y1181)) else (none))) else (none)) else (none))) else (none))) else (none)) else (none))) = some r := h; clear h; obtain ⟨y1171, hy1171⟩ : ∃ y_ : List (S94), y_ = (([] : List (S94))) := ⟨_, rfl⟩
 replace H : (if 0 ≤ a1 then (if a1 ≤ (l0.length : Int) then ((some (l0.take (a1 : Int).toNat : List (S94))).bind fun y1174 => (if y1171.length + y1174.length < 5864062014805 then ((some (y1171 ++ y1174 : List (S94))).bind fun y1178 => (if 0 ≤ (wrap64 (a1 + 1)) then (if (wrap64 (a1 + 1)) ≤ (l0.length : Int) then ((some (l0.drop ((wrap64 (a1 + 1)) : Int).toNat : List (S94))).bind fun y1181 => (if y1178.length + y1181.length < 5864062014805 then (some (y1178 ++ y1181)) else (none))) else (none)) else (none))) else (none))) else (none)) else (none)) = some r := by first | (rw [hy1171]; with_reducible exact H) | (have H2_ := (Option.bind_some _ _).symm.trans H; rw [hy1171]; with_reducible exact H2_) | (have H2_ := (Option.bind_some _ _).symm.trans H; with_reducible exact H2_) | with_reducible exact H | (rw [hy1171]; exact H) | exact H
 have Ny1171 := Aside0.mk hy1171; clear hy1171
 by_cases c3 : 0 ≤ a1
 ·rw [if_pos c3] at H; have c3b0 := eq_true c3; have c3b1 : decide (0 ≤ a1) = true := decide_eq_true c3; clear c3
  by_cases c4 : a1 ≤ (l0.length : Int)
  ·rw [if_pos c4] at H; have c4b0 := eq_true c4; have c4b1 : decide (a1 ≤ (l0.length : Int)) = true := decide_eq_true c4; clear c4; obtain ⟨y1174, hy1174⟩ : ∃ y_ : List (S94), y_ = (l0.take (a1 : Int).toNat) := ⟨_, rfl⟩
   replace H : (if y1171.length + y1174.length < 5864062014805 then ((some (y1171 ++ y1174 : List (S94))).bind fun y1178 => (if 0 ≤ (wrap64 (a1 + 1)) then (if (wrap64 (a1 + 1)) ≤ (l0.length : Int) then ((some (l0.drop ((wrap64 (a1 + 1)) : Int).toNat : List (S94))).bind fun y1181 => (if y1178.length + y1181.length < 5864062014805 then (some (y1178 ++ y1181)) else (none))) else (none)) else (none))) else (none)) = some r := by first | (rw [hy1174]; with_reducible exact H) | (have H2_ := (Option.bind_some _ _).symm.trans H; rw [hy1174]; with_reducible exact H2_) | (have H2_ := (Option.bind_some _ _).symm.trans H; with_reducible exact H2_) | with_reducible exact H | (rw [hy1174]; exact H) | exact H
   have Ny1174 := Aside0.mk hy1174; clear hy1174
   by_cases c5 : y1171.length + y1174.length < 5864062014805
   ·rw [if_pos c5] at H; have LMc5 := Aside0.mk c5; clear c5; obtain ⟨y1178, hy1178⟩ : ∃ y_ : List (S94), y_ = (y1171 ++ y1174) := ⟨_, rfl⟩
    replace H : (if 0 ≤ (wrap64 (a1 + 1)) then (if (wrap64 (a1 + 1)) ≤ (l0.length : Int) then ((some (l0.drop ((wrap64 (a1 + 1)) : Int).toNat : List (S94))).bind fun y1181 => (if y1178.length + y1181.length < 5864062014805 then (some (y1178 ++ y1181)) else (none))) else (none)) else (none)) = some r := by first | (rw [hy1178]; with_reducible exact H) | (have H2_ := (Option.bind_some _ _).symm.trans H; rw [hy1178]; with_reducible exact H2_) | (have H2_ := (Option.bind_some _ _).symm.trans H; with_reducible exact H2_) | with_reducible exact H | (rw [hy1178]; exact H) | exact H
    have Ny1178 := Aside0.mk hy1178; clear hy1178; obtain ⟨ji6, hji6⟩ : ∃ j_ : Int, (wrap64 (a1 + 1)) = j_ := ⟨_, rfl⟩
    replace H : (if 0 ≤ (ji6) then (if (ji6) ≤ (l0.length : Int) then ((some (l0.drop ((ji6) : Int).toNat : List (S94))).bind fun y1181 => (if y1178.length + y1181.length < 5864062014805 then (some (y1178 ++ y1181)) else (none))) else (none)) else (none)) = some r := by first | (rw [hji6] at H; exact H) | (simp only [hji6] at H ⊢; exact H)
    have hji6w : (IntKind.i64.wrap (a1 + 1)) = ji6 := (i64_w _).trans hji6
    by_cases c7 : 0 ≤ (ji6)
    ·rw [if_pos c7] at H; have c7b0 := eq_true c7; have c7b1 : decide (0 ≤ (ji6)) = true := decide_eq_true c7; clear c7
     by_cases c8 : (ji6) ≤ (l0.length : Int)
     ·rw [if_pos c8] at H; have c8b0 := eq_true c8; have c8b1 : decide ((ji6) ≤ (l0.length : Int)) = true := decide_eq_true c8; clear c8; obtain ⟨y1181, hy1181⟩ : ∃ y_ : List (S94), y_ = (l0.drop ((ji6) : Int).toNat) := ⟨_, rfl⟩
      replace H : (if y1178.length + y1181.length < 5864062014805 then (some (y1178 ++ y1181)) else (none)) = some r := by first | (rw [hy1181]; with_reducible exact H) | (have H2_ := (Option.bind_some _ _).symm.trans H; rw [hy1181]; with_reducible exact H2_) | (have H2_ := (Option.bind_some _ _).symm.trans H; with_reducible exact H2_) | with_reducible exact H | (rw [hy1181]; exact H) | exact H
      have Ny1181 := Aside0.mk hy1181; clear hy1181
      by_cases c9 : y1178.length + y1181.length < 5864062014805
      ·rw [if_pos c9] at H; have LMc9 := Aside0.mk c9; clear c9; obtain ⟨y1185, hy1185⟩ : ∃ y_ : List (S94), y_ = (y1178 ++ y1181) := ⟨_, rfl⟩
       replace H : (some y1185) = some r := by first | (rw [hy1185]; with_reducible exact H) | (have H2_ := (Option.bind_some _ _).symm.trans H; rw [hy1185]; with_reducible exact H2_) | (have H2_ := (Option.bind_some _ _).symm.trans H; with_reducible exact H2_) | with_reducible exact H | (rw [hy1185]; exact H) | exact H
       have Ny1185 := Aside0.mk hy1185; clear hy1185; obtain rfl := Option.some.inj H; go_enter Try.func108, Try.ntmps108
       try go_wp2
       replace HB := Aside0.mk (below_drew1 HB.out); have q11 : (a1 : Int) ≤ ((l0.length : Int) : Int) := of_decide_eq_true za; obtain ⟨i011, hi011, _, hsz11, _⟩ := info_parts info94; have hroom11 : l0.length ≤ c0 := HC0.out; have hC11 : Kd.C k94 _ A0 l0.length l0 := HR0.out; have hcut11 := cut_to (P := Try.prog) 28 94 .i64 Try.underlying28 hi011 A0 l0.length c0 a1 (of_decide_eq_true za) q11 hroom11; have hr11 := Kd.C_take (m := (a1 : Int).toNat) hC11 (by omega); have hy11 : y1174.length = (a1 : Int).toNat := (by rw [Ny1174.out, List.length_take]; omega)
       rw [← Ny1174.out] at hr11; rw [← hy11] at hcut11; have HR1177 := Aside0.mk hr11; have HC1177 := Aside0.mk (show y1174.length ≤ c0 from by omega); clear hr11 hC11 hroom11 hi011 hsz11; have KY11 := Aside0.mk hy11; clear hy11; replace q11 := eq_true q11; have q12 : ((ji6) : Int) ≤ ((l0.length : Int) : Int) := of_decide_eq_true za; obtain ⟨i012, hi012, _, hsz12, _⟩ := info_parts info94; have hroom12 : l0.length ≤ c0 := HC0.out; have hC12 : Kd.C k94 _ A0 l0.length l0 := HR0.out; have q012 : (0 : Int) ≤ ((ji6) : Int) := of_decide_eq_true za; have hcut12 := cut_from (P := Try.prog) 28 94 .i64 Try.underlying28 hi012 2 hsz12 A0 l0.length c0 (ji6) q012 q12; have hr12 := Kd.C_drop (m := ((ji6) : Int).toNat) (c := c0) hC12 (by omega) hroom12; obtain ⟨A12, hA12⟩ : ∃ A1, A1 = (if c0 = ((ji6) : Int).toNat then A0 else (A0 : Option Addr).map (·.add (((ji6) : Int).toNat * 2))) := ⟨_, rfl⟩
       obtain ⟨c12, hc12⟩ : ∃ c1, c1 = c0 - ((ji6) : Int).toNat := ⟨_, rfl⟩
       have hy12 : y1181.length = l0.length - ((ji6) : Int).toNat := (by rw [Ny1181.out, List.length_drop] <;> omega)
       rw [show (l0).drop ((ji6) : Int).toNat = y1181 from Ny1181.out.symm] at hr12; replace hr12 : Kd.C k94 _ A12 y1181.length y1181 := (by rw [hA12]; exact hr12)
       rw [← hy12, ← hA12, ← hc12] at hcut12; have HR1184 := Aside0.mk hr12; have HC1184 := Aside0.mk (show y1181.length ≤ c12 from by rw [hy12, hc12]; exact Nat.sub_le_sub_right hroom12 _); clear hr12 hC12 hroom12 hi012 hsz12 hc12; have KY12 := Aside0.mk hy12; have KA12 := Aside0.mk hA12; clear hy12 hA12; replace q12 := eq_true q12; refine start_ (n := 11) (S := fun w' => True) (ds := []) #[false, false, false, false, false, false, false, false, false, false, false] (by kernel_rfl) rfl rfl trivial (fun hHeld => ?_); refine with_tabW spec_dropPair.tab1 spec_dropPair.bits1 (fun HT_ HW_ => ?_); generalize w.drew = w10 at HB HR1177 HR1184 hHeld ⊢; refine pure_ (i := 1) (N := some 6) (v := ?_) (a' := ?_) #[false, true, false, false, false, false, false, false, false, false, false] rfl rfl (any_of HT_.out (by kernel_rfl)) (fun _ _ _ h => h) (Or.inl ⟨by rfl, ?_⟩) ?_ ?_; rotate_left
       ·intro w'; go_simp; with_reducible rfl
       rotate_left
       ·simp only [Act.put, List.setIfInBounds_toArray, List.set_cons_zero, List.set_cons_succ, i64_w, i32_w]; rfl
       refine pure_ (i := 2) (N := some 7) (v := ?_) (a' := ?_) #[false, true, true, false, false, false, false, false, false, false, false] rfl rfl (any_of HT_.out (by kernel_rfl)) (fun _ _ _ h => h) (Or.inl ⟨by rfl, ?_⟩) ?_ ?_; rotate_left
       ·intro w'; go_simp; with_reducible rfl
       rotate_left
       ·simp only [Act.put, List.setIfInBounds_toArray, List.set_cons_zero, List.set_cons_succ, i64_w, i32_w]; rfl
       refine pure_ (i := 3) (N := some 8) (v := ?_) (a' := ?_) #[false, true, true, true, false, false, false, false, false, false, false] rfl rfl (any_of HT_.out (by kernel_rfl)) (fun _ _ _ h => h) (Or.inl ⟨by rfl, ?_⟩) ?_ ?_; rotate_left
       ·intro w'; go_simp; with_reducible rfl
       rotate_left
       ·simp only [Act.put, List.setIfInBounds_toArray, List.set_cons_zero, List.set_cons_succ, i64_w, i32_w]; rfl
       refine pure_ (i := 5) (N := some 10) (v := ?_) (a' := ?_) #[false, true, true, true, false, true, false, false, false, false, false] rfl rfl (any_of HT_.out (by kernel_rfl)) (fun _ _ _ h => h) (Or.inl ⟨by rfl, ?_⟩) ?_ ?_; rotate_left
       ·intro w'; go_simp; with_reducible rfl
       rotate_left
       ·simp only [Act.put, List.setIfInBounds_toArray, List.set_cons_zero, List.set_cons_succ, i64_w, i32_w]; rfl
       refine pure_ (i := 6) (N := some 11) (v := ?_) (a' := ?_) #[false, true, true, true, false, true, true, false, false, false, false] rfl rfl (any_of HT_.out (by kernel_rfl)) (fun _ _ _ h => h) (Or.inl ⟨by rfl, ?_⟩) ?_ ?_; rotate_left
       ·intro w'; go_simp; with_reducible rfl
       rotate_left
       ·simp only [Act.put, List.setIfInBounds_toArray, List.set_cons_zero, List.set_cons_succ, i64_w, i32_w]; rfl
       refine pure_ (i := 7) (N := some 12) (v := ?_) (a' := ?_) #[false, true, true, true, false, true, true, true, false, false, false] rfl rfl (any_of HT_.out (by kernel_rfl)) (fun _ _ _ h => h) (Or.inl ⟨by rfl, ?_⟩) ?_ ?_; rotate_left
       ·intro w'; go_simp; with_reducible rfl
       rotate_left
       ·simp only [Act.put, List.setIfInBounds_toArray, List.set_cons_zero, List.set_cons_succ, i64_w, i32_w]; rfl
       refine pure_ (i := 8) (N := some 13) (v := ?_) (a' := ?_) #[false, true, true, true, false, true, true, true, true, false, false] rfl rfl (any_of HT_.out (by kernel_rfl)) (fun _ _ _ h => h) (Or.inl ⟨by rfl, ?_⟩) ?_ ?_; rotate_left
       ·intro w'; go_simp; with_reducible rfl
       rotate_left
       ·simp only [Act.put, List.setIfInBounds_toArray, List.set_cons_zero, List.set_cons_succ, i64_w, i32_w]; rfl
       refine one_ (i := 0) (N := some 5) #[true, true, true, true, false, true, true, true, true, false, false] rfl rfl (one_of HT_.out (by kernel_rfl)) (by decide) (fun K hK => ?_); refine Kd.R_lit_step k94 _ 94 ?hg (N := 5) ?hd (xs := ([] : List (S94))) (inner := []) (ok := fun _ => True) (okp := fun _ => True) ?hr ?hp (fun _ hk => hk) trivial (Below.refl _ _) (Nat.le_refl _) (by simp) ?_; (case hd => rfl); (case hg => rfl); (case hr => first | (go_simp; done) | (go_simp; rfl)); (case hp => exact (Reps.none _ _)); intro v1172 w13 ho14 hb hg_ hnew_; clear hg_ hnew_
       (first | rw [← Ny1171.out] at ho14 | (simp only [Int.reduceToNat] at ho14; rw [← Ny1171.out] at ho14))
       have HO1173 := Aside0.mk (Kd.R_lower ho14 (below_size (zB HB))); replace HB := Aside0.mk (below_step (zB HB) hb); clear hb ho14; refine hK.out _ _ trivial (fun hHeld => ?_); clear hK K; refine norm_ (a' := ?_) ?_ ?_; rotate_left
       ·show Act.put _ (some 5) _ = _
        simp only [Act.put, List.setIfInBounds_toArray, List.set_cons_zero, List.set_cons_succ, i64_w, i32_w]; rfl
       refine one_ (i := 4) (N := some 9) #[true, true, true, true, true, true, true, true, true, false, false] rfl rfl (one_of HT_.out (by kernel_rfl)) (by decide) (fun K hK => ?_); refine Kd.R_append_rows_step k94 (w0 := w) w.heap.size (by rfl) (.tmp 5) (.tmp 8) 28 94 (.agg #[(.string ⟨#[]⟩), (.int .i64 0)]) 24 rfl Try.underlying28 info94 rfl (by decide) (by omega) v1172 y1171 y1174 _ _ _ (fun _ => True) (fun _ => False) rfl rfl ?aO ?aR (fun _ _ h => h) (fun _ h => h.elim) ?aF ?aB ?aS ?aL ?_
       (case aR => repeat (first | exact (Kd.C_below HR1177.out HB.out) | (with_reducible refine Kd.C_alloc ?_ _) | (with_reducible refine Kd.C_drewN ?_ _) | (with_reducible refine Kd.C_drew ?_)))
       (case aB => exact (zB HB))
       (case aF => exact (fun _ _ => trivial))
       (case aO => exact (zo HO1173))
       (case aS => exact (below_size (zB HB)))
       (case aL => have := LMc5.out; omega)
       intro v1179 w15 ho hb hg hat; rw [← Ny1178.out] at ho; have n0_ := Aside0.mk (hb); have n1_ := Aside0.mk (ho); clear HB; clear HO1173; have HB := n0_; have HO1180 := n1_; clear n0_ n1_; clear ho hb hg hat; refine hK.out _ _ trivial (fun hHeld => ?_); clear hK K; refine norm_ (a' := ?_) ?_ ?_; rotate_left
       ·show Act.put _ (some 9) _ = _
        simp only [Act.put, List.setIfInBounds_toArray, List.set_cons_zero, List.set_cons_succ, i64_w, i32_w]; rfl
       refine one_ (i := 9) (N := some 14) #[true, true, true, true, true, true, true, true, true, true, false] rfl rfl (one_of HT_.out (by kernel_rfl)) (by decide) (fun K hK => ?_); refine Kd.R_append_rows_step k94 (w0 := w) w.heap.size (by rfl) (.tmp 9) (.tmp 13) 28 94 (.agg #[(.string ⟨#[]⟩), (.int .i64 0)]) 24 rfl Try.underlying28 info94 rfl (by decide) (by omega) v1179 y1178 y1181 _ _ _ (fun _ => True) (fun _ => False) rfl rfl ?aO ?aR (fun _ _ h => h) (fun _ h => h.elim) ?aF ?aB ?aS ?aL ?_
       (case aR => repeat (first | exact (Kd.C_below HR1184.out HB.out) | (with_reducible refine Kd.C_alloc ?_ _) | (with_reducible refine Kd.C_drewN ?_ _) | (with_reducible refine Kd.C_drew ?_)))
       (case aB => exact (zB HB))
       (case aF => exact (fun _ _ => trivial))
       (case aO => exact (zo HO1180))
       (case aS => exact (below_size (zB HB)))
       (case aL => have := LMc9.out; omega)
       intro v1186 w16 ho hb hg hat; rw [← Ny1185.out] at ho; have n0_ := Aside0.mk (hb); have n1_ := Aside0.mk (ho); clear HB; clear HO1180; have HB := n0_; have HO1187 := n1_; clear n0_ n1_; clear ho hb hg hat; refine hK.out _ _ trivial (fun hHeld => ?_); clear hK K; refine norm_ (a' := ?_) ?_ ?_; rotate_left
       ·show Act.put _ (some 14) _ = _
        simp only [Act.put, List.setIfInBounds_toArray, List.set_cons_zero, List.set_cons_succ, i64_w, i32_w]; rfl
       refine pure_ (i := 10) (N := some 4) (v := ?_) (a' := ?_) #[true, true, true, true, true, true, true, true, true, true, true] rfl rfl (any_of HT_.out (by kernel_rfl)) (fun _ _ _ h => h) (Or.inl ⟨by rfl, ?_⟩) ?_ ?_; rotate_left
       ·intro w'; go_simp; with_reducible rfl
       rotate_left
       ·simp only [Act.put, List.setIfInBounds_toArray, List.set_cons_zero, List.set_cons_succ, i64_w, i32_w]; rfl
       refine done_ (done_of HT_.out (by kernel_rfl)) ?_
       try go_wp2
       go_ret; exact ⟨_, by first | rfl | (simp [errW_none, errW_some] <;> rfl) | (simp only [← hji6]; first | rfl | (simp [errW_none, errW_some] <;> rfl)) | (simp [*, errW_none, errW_some] <;> rfl), by (with_reducible repeat (first | apply Kd.R_alloc | apply Kd.R_drewN | apply Kd.R_drew)); exact HO1187.out, zB HB⟩
      ·rw [if_neg c9] at H; exact absurd H (by simp)
     ·rw [if_neg c8] at H; exact absurd H (by simp)
    ·rw [if_neg c7] at H; exact absurd H (by simp)
   ·rw [if_neg c5] at H; exact absurd H (by simp)
  ·rw [if_neg c4] at H; exact absurd H (by simp)
 ·rw [if_neg c3] at H; exact absurd H (by simp)

end Go.Proofs.Ytkandhljbbolnaa.Q

namespace Go.Proofs.Ytkandhljbbolnaa.Q
open Go.RowKit Go.Proofs.YtkandhljbbolnaaL.PrintWords Go.Proofs.YtkandhljbbolnaaL.PrintLast Go.Proofs.YtkandhljbbolnaaL.PrintMore
attribute [local go_sem] max2_int min2_int max_two min_two max_three min_three max_four min_four   -- for this text's walks alone
set_option linter.unusedVariables false
set_option linter.unusedSimpArgs false

/-! ### spec_DropName: function 56 -/
def spec_DropName.j0 : Nat → Int → Bool → List Int → List (S94) → Option (List Int × (List (S94)) × Bool)
 | 0, _, _, _, _ => none
 | k + 1, x6, x18, x1189000, x1189001 => if x18 = true then (some (([] : List Int), ([] : List (S94)), false)) else ((spec_copyFlat.f x1189000 x1189001).bind fun bt1192 => ((spec_dropPair.f bt1192.2 x6).bind fun t1199 => (some (bt1192.1, t1199, true))))
def spec_DropName.f (k : Nat) (l0_0 : List Int) (l0_1 : List (S94)) (a1 : ByteArray) : Option (List Int × (List (S94)) × Bool) := (spec_pairAt.f k l0_1 a1).bind fun t1190 => ((spec_validFlat.f k l0_0 l0_1).bind fun t1191 => (if t1191 = true then (spec_DropName.j0 k t1190 (decide (t1190 < 0)) l0_0 l0_1) else (spec_DropName.j0 k t1190 true l0_0 l0_1)))
theorem spec_DropName.mono_l : ∀ k, (∀ y0 y1 y2 y3, LeO (spec_DropName.j0 k y0 y1 y2 y3) (spec_DropName.j0 (k + 1) y0 y1 y2 y3))
 | 0 => fun _ _ _ _ r h => by simp [spec_DropName.j0] at h
 | k + 1 => by
  have ih0 := spec_DropName.mono_l k
  ·intro y0 y1 y2 y3; unfold spec_DropName.j0
   repeat' first
   | (with_reducible exact ih0 _ _ _ _)
   | (with_reducible exact spec_pairAt.mono _ _ _)
   | (with_reducible exact spec_validFlat.mono _ _ _)
   | (with_reducible exact LeO.refl _)
   | (with_reducible exact LeO.none _)
   | (with_reducible refine LeO.ite ?_ ?_)
   | (with_reducible refine LeO.bind ?_ (fun _ => ?_))
   | exact ih0 _ _ _ _
   | exact spec_pairAt.mono _ _ _
   | exact spec_validFlat.mono _ _ _
   | exact LeO.none _
   | refine LeO.ite ?_ ?_
   | refine LeO.bind ?_ (fun _ => ?_)
theorem spec_DropName.mono : ∀ a0 a1 a2 k, LeO (spec_DropName.f k a0 a1 a2) (spec_DropName.f (k + 1) a0 a1 a2) := by
 intro a0 a1 a2 k; have ih0 := spec_DropName.mono_l k; unfold spec_DropName.f
 repeat' first
   | (with_reducible exact ih0 _ _ _ _)
   | (with_reducible exact spec_pairAt.mono _ _ _)
   | (with_reducible exact spec_validFlat.mono _ _ _)
   | (with_reducible exact LeO.refl _)
   | (with_reducible exact LeO.none _)
   | (with_reducible refine LeO.ite ?_ ?_)
   | (with_reducible refine LeO.bind ?_ (fun _ => ?_))
   | exact ih0 _ _ _ _
   | exact spec_pairAt.mono _ _ _
   | exact spec_validFlat.mono _ _ _
   | exact LeO.none _
   | refine LeO.ite ?_ ?_
   | refine LeO.bind ?_ (fun _ => ?_)
set_option maxHeartbeats 8000000 in
set_option maxRecDepth 100000 in
theorem spec_DropName.calls (k : Nat) (A0_0 : Option Addr) (c0_0 : Nat) (l0_0 : List Int) (A0_1 : Option Addr) (c0_1 : Nat) (l0_1 : List (S94)) (a1 : ByteArray) (r1 : List Int) (r2 : List (S94)) (r3 : Bool) (w : World) (hr0_0 : Kd.C (Kd.int .i64) w A0_0 l0_0.length l0_0) (hc0_0 : l0_0.length ≤ c0_0) (hr0_1 : Kd.C k94 w A0_1 l0_1.length l0_1) (hc0_1 : l0_1.length ≤ c0_1) (h : spec_DropName.f k l0_0 l0_1 a1 = some (r1, r2, r3)) :
  Calls Try.prog 56 #[.agg #[.slice A0_0 l0_0.length c0_0, .slice A0_1 l0_1.length c0_1], .string a1] w fun e w' => ∃ v0_ v1_ : Value, e = .returned (.tuple #[.agg #[v0_, v1_], .bool r3]) ∧ Kd.R (Kd.int .i64) 3 w' w.heap.size (fun _ => True) v0_ r1 ∧ Kd.R k94 94 w' w.heap.size (fun _ => True) v1_ r2 ∧ Below w.heap.size w w' := by
 have hu30 := Try.underlying30; have HR0_0 := Aside0.mk hr0_0; have HC0_0 := Aside0.mk hc0_0; clear hr0_0 hc0_0; have HR0_1 := Aside0.mk hr0_1; have HC0_1 := Aside0.mk hc0_1; clear hr0_1 hc0_1; have HB := Aside0.mk (Below.refl w.heap.size w); have H : ((spec_pairAt.f k l0_1 a1).bind fun t1190 => ((spec_validFlat.f k l0_0 l0_1).bind fun t1191 => (if t1191 = true then (spec_DropName.j0 k t1190 (decide (t1190 < 0)) l0_0 l0_1) else (spec_DropName.j0 k t1190 true l0_0 l0_1)))) = some (r1, r2, r3) := h; clear h; replace H := Option.bind_eq_some_iff.mp H; obtain ⟨t1190, A30, H⟩ := H
 (try dsimp only at H)
 have A3 := Aside0.mk A30; clear A30; have HC4 := Aside0.mk H; clear H; go_enter Try.func56, Try.ntmps56; go_upto_region 2 with (first | ((with_reducible refine gate_dst (N := 2) rfl ?_); refine zx (N := 2) (cs := #[.slice A0_0 l0_0.length c0_0, .slice A0_1 l0_1.length c0_1]) (t := 30) ?_; intro gb1188 hg w5 hbox hb; have BK1188 := Aside0.mk (hbox); have GW1188 := Aside0.mk ((by rw [hg]; exact (below_size (zB HB)) : w.heap.size ≤ gb1188)); have GE1188 := GW1188; replace HB := Aside0.mk (below_step (zB HB) hb); clear hb hbox hg) | ((with_reducible refine gate_dst (N := 4) rfl ?_); refine zx (N := 4) (cs := #[.slice none 0 0, .slice none 0 0]) (t := 30) ?_; intro gb1189 hg w6 hbox hb; have BK1189 := Aside0.mk (hbox); have GW1189 := Aside0.mk ((by rw [hg]; exact (below_size (zB HB)) : w.heap.size ≤ gb1189)); have GE1189 := GW1189; replace HB := Aside0.mk (below_step (zB HB) hb); have NB1188_1189 := Aside0.mk ((by rw [hg]; exact Nat.ne_of_lt (blk_lt (g := gb1188) (o := .cells #[.slice A0_0 l0_0.length c0_0, .slice A0_1 l0_1.length c0_1] 30 (0, 0)) (zb BK1188)) : gb1188 ≠ gb1189)); have NB1189_1188 := Aside0.mk NB1188_1189.out.symm; replace BK1188 := Aside0.mk (blk_below (g := gb1188) (o := .cells #[.slice A0_0 l0_0.length c0_0, .slice A0_1 l0_1.length c0_1] 30 (0, 0)) (zb BK1188) hb); clear hb hbox hg; have hnb7 := NB1188_1189.out; have hnc7 := NB1189_1188.out; have hcz8_0 : w6.cell? ⟨gb1188, 0, none⟩ = some (.slice A0_0 l0_0.length c0_0) := (blk_cell BK1188.out 0).trans rfl; have hcz8_1 : w6.cell? ⟨gb1188, 1, none⟩ = some (.slice A0_1 l0_1.length c0_1) := (blk_cell BK1188.out 1).trans rfl; have hfz8_0 := blk_frozen BK1188.out 0; have hfz8_1 := blk_frozen BK1188.out 1) | ((with_reducible refine gate_callee (f := 107) rfl ?_); refine goesL_ (some 11) rfl rfl Try.func107 (by kernel_rfl) rfl #[.slice A0_1 l0_1.length c0_1, .string a1] rfl zl ?_; (with_reducible refine (spec_pairAt.calls k _ _ l0_1 a1 t1190 _ ?side1 ?side2 A3.out).mono ?_); (case side1 => repeat (first | exact (Kd.C_below HR0_1.out HB.out) | (with_reducible refine Kd.C_alloc ?_ _) | (with_reducible refine Kd.C_drewN ?_ _) | (with_reducible refine Kd.C_drew ?_))); (case side2 => exact HC0_1.out); rintro e w' ⟨rfl, ⟨nd, rfl⟩⟩; refine ⟨_, rfl, ?_⟩))
 (try simp only [Act.put, List.setIfInBounds_toArray, List.set_cons_zero, List.set_cons_succ])
 go_cut [18] (fun v18 wc => ∃ (kq : Nat) (x18_3 : Bool), v18 = .bool x18_3 ∧ Aside0 (spec_DropName.j0 kq t1190 x18_3 l0_0 l0_1 = some (r1, r2, r3)) ∧ Aside0 (kq ≤ k) ∧ Aside0 (wc.heap[gb1188]? = some (.cells #[(.slice A0_0 l0_0.length c0_0), (.slice A0_1 l0_1.length c0_1)] 30 (0, 0))) ∧ Aside0 (wc.heap[gb1189]? = some (.cells #[(.slice none 0 0), (.slice none 0 0)] 30 (0, 0))) ∧ Aside0 (Below w.heap.size w wc))
 case first =>
  have H := HC4.out; clear HC4; replace H := Option.bind_eq_some_iff.mp H; obtain ⟨t1191, A90, H⟩ := H
  (try dsimp only at H)
  have A9 := Aside0.mk A90; clear A90
  by_cases c10 : t1191 = true
  ·subst c10; rw [if_pos rfl] at H; have H' := Aside0.mk H; clear H; have hnb11 := NB1188_1189.out; have hnc11 := NB1189_1188.out; have hcz12_0 : w6.cell? ⟨gb1188, 0, none⟩ = some (.slice A0_0 l0_0.length c0_0) := (blk_cell BK1188.out 0).trans rfl; have hcz12_1 : w6.cell? ⟨gb1188, 1, none⟩ = some (.slice A0_1 l0_1.length c0_1) := (blk_cell BK1188.out 1).trans rfl; have hfz12_0 := blk_frozen BK1188.out 0; have hfz12_1 := blk_frozen BK1188.out 1; go_wp2_with (first | ((with_reducible refine gate_callee (f := 59) rfl ?_); refine goesL_ (some 13) rfl rfl Try.func59 (by kernel_rfl) rfl #[.agg #[.slice A0_0 l0_0.length c0_0, .slice A0_1 l0_1.length c0_1]] rfl zl ?_; (with_reducible refine (spec_validFlat.calls k _ _ l0_0 _ _ l0_1 true _ ?side1 ?side2 ?side3 ?side4 A9.out).mono ?_); (case side1 => repeat (first | exact (Kd.C_below HR0_0.out HB.out) | (with_reducible refine Kd.C_alloc ?_ _) | (with_reducible refine Kd.C_drewN ?_ _) | (with_reducible refine Kd.C_drew ?_))); (case side2 => exact HC0_0.out); (case side3 => repeat (first | exact (Kd.C_below HR0_1.out HB.out) | (with_reducible refine Kd.C_alloc ?_ _) | (with_reducible refine Kd.C_drewN ?_ _) | (with_reducible refine Kd.C_drew ?_))); (case side4 => exact HC0_1.out); rintro e w13 ⟨rfl, hb⟩; refine ⟨_, rfl, ?_⟩; replace BK1188 := Aside0.mk (blk_below (g := gb1188) (o := .cells #[.slice A0_0 l0_0.length c0_0, .slice A0_1 l0_1.length c0_1] 30 (0, 0)) (zb BK1188) hb); replace BK1189 := Aside0.mk (blk_below (g := gb1189) (o := .cells #[.slice none 0 0, .slice none 0 0] 30 (0, 0)) (zb BK1189) hb); replace HB := Aside0.mk (below_step (zB HB) hb); (try clear hb); (try clear hb2); (try clear hk); (try clear hi))); go_meet
   case rel => exact ⟨_, (decide (t1190 < 0)), zr, H', ⟨by first | omega | exact Nat.le_refl _⟩, ⟨zb BK1188⟩, ⟨zb BK1189⟩, ⟨zB HB⟩⟩
  ·replace c10 := Bool.eq_false_iff.mpr c10; subst c10; rw [if_neg (show ¬ (false = true) by decide)] at H; have H' := Aside0.mk H; clear H; have hnb14 := NB1188_1189.out; have hnc14 := NB1189_1188.out; have hcz15_0 : w6.cell? ⟨gb1188, 0, none⟩ = some (.slice A0_0 l0_0.length c0_0) := (blk_cell BK1188.out 0).trans rfl; have hcz15_1 : w6.cell? ⟨gb1188, 1, none⟩ = some (.slice A0_1 l0_1.length c0_1) := (blk_cell BK1188.out 1).trans rfl; have hfz15_0 := blk_frozen BK1188.out 0; have hfz15_1 := blk_frozen BK1188.out 1; go_wp2_with (first | ((with_reducible refine gate_callee (f := 59) rfl ?_); refine goesL_ (some 13) rfl rfl Try.func59 (by kernel_rfl) rfl #[.agg #[.slice A0_0 l0_0.length c0_0, .slice A0_1 l0_1.length c0_1]] rfl zl ?_; (with_reducible refine (spec_validFlat.calls k _ _ l0_0 _ _ l0_1 false _ ?side1 ?side2 ?side3 ?side4 A9.out).mono ?_); (case side1 => repeat (first | exact (Kd.C_below HR0_0.out HB.out) | (with_reducible refine Kd.C_alloc ?_ _) | (with_reducible refine Kd.C_drewN ?_ _) | (with_reducible refine Kd.C_drew ?_))); (case side2 => exact HC0_0.out); (case side3 => repeat (first | exact (Kd.C_below HR0_1.out HB.out) | (with_reducible refine Kd.C_alloc ?_ _) | (with_reducible refine Kd.C_drewN ?_ _) | (with_reducible refine Kd.C_drew ?_))); (case side4 => exact HC0_1.out); rintro e w16 ⟨rfl, hb⟩; refine ⟨_, rfl, ?_⟩; replace BK1188 := Aside0.mk (blk_below (g := gb1188) (o := .cells #[.slice A0_0 l0_0.length c0_0, .slice A0_1 l0_1.length c0_1] 30 (0, 0)) (zb BK1188) hb); replace BK1189 := Aside0.mk (blk_below (g := gb1189) (o := .cells #[.slice none 0 0, .slice none 0 0] 30 (0, 0)) (zb BK1189) hb); replace HB := Aside0.mk (below_step (zB HB) hb); (try clear hb); (try clear hb2); (try clear hk); (try clear hi))); go_meet
   case rel => exact ⟨_, (true), zr, H', ⟨by first | omega | exact Nat.le_refl _⟩, ⟨zb BK1188⟩, ⟨zb BK1189⟩, ⟨zB HB⟩⟩
 case rest =>
  clear HC4; (try clear c1); (try clear p2); (try clear c5); (try clear c7); (try clear c10); (try clear c11); (try clear c14); (try clear hcz12_0); (try clear hcz12_1); (try clear hcz15_0); (try clear hcz15_1); (try clear hcz8_0); (try clear hcz8_1); (try clear hfz12_0); (try clear hfz12_1); (try clear hfz15_0); (try clear hfz15_1); (try clear hfz8_0); (try clear hfz8_1); obtain ⟨kq, x18_3, rfl, HA, HJ3, BK1188, BK1189, HB⟩ := hcut
  cases kq with
  | zero => exact absurd HA.out (by simp [spec_DropName.j0])
  | succ kj3 =>
   have H := HA.out; clear HA; simp only [spec_DropName.j0] at H
   by_cases c17 : x18_3 = true
   ·subst c17; rw [if_pos rfl] at H; simp only [Option.some.injEq, Prod.mk.injEq] at H; obtain ⟨rfl, rfl, rfl⟩ := H; have hnb18 := NB1189_1188.out; have hnc18 := NB1188_1189.out; have hcz19_0 : wc.cell? ⟨gb1189, 0, none⟩ = some (.slice none 0 0) := (blk_cell BK1189.out 0).trans rfl; have hcz19_1 : wc.cell? ⟨gb1189, 1, none⟩ = some (.slice none 0 0) := (blk_cell BK1189.out 1).trans rfl; have hfz19_0 := blk_frozen BK1189.out 0; have hfz19_1 := blk_frozen BK1189.out 1; go_wp2; refine bodyPost_ret (results_ct rfl _ _ gb1189 30 #[.slice none 0 0, .slice none 0 0] (0, 0) _ rfl (by (with_reducible repeat (first | refine blk_drewN ?_ _ | refine blk_drew ?_ | refine blk_alloc ?_ _)); refine blk_put (cs := #[.slice none 0 0, .slice none 0 0]) ?_ 1 _ rfl; (with_reducible repeat (first | refine blk_drewN ?_ _ | refine blk_drew ?_ | refine blk_alloc ?_ _)); refine blk_put (cs := #[.slice none 0 0, .slice none 0 0]) ?_ 0 _ rfl; (with_reducible repeat (first | refine blk_drewN ?_ _ | refine blk_drew ?_ | refine blk_alloc ?_ _)); exact BK1189.out) Try.underlying30 rfl (by kernel_rfl)) rfl ?_; exact ⟨_, _, by first | rfl | (simp [errW_none, errW_some] <;> rfl) | (simp [*, errW_none, errW_some] <;> rfl), by first | exact Kd.R_nil _ _ _ _ _ | exact Kd.N_nil _ _ _ _ _ | exact Kd.V_nil _ _ _ _ _ | exact Kd.Q_nil _ _ _ _ _ | exact Kd.S_nil _ _ _ _ _, by first | exact Kd.R_nil _ _ _ _ _ | exact Kd.N_nil _ _ _ _ _ | exact Kd.V_nil _ _ _ _ _ | exact Kd.Q_nil _ _ _ _ _ | exact Kd.S_nil _ _ _ _ _, zB HB⟩
   ·replace c17 := Bool.eq_false_iff.mpr c17; subst c17; rw [if_neg (show ¬ (false = true) by decide)] at H; replace H := Option.bind_eq_some_iff.mp H; obtain ⟨⟨t1192, t1195⟩, A200, H⟩ := H
    (try dsimp only at H)
    have A20 := Aside0.mk A200; clear A200; replace H := Option.bind_eq_some_iff.mp H; obtain ⟨t1199, A210, H⟩ := H
    (try dsimp only at H)
    have A21 := Aside0.mk A210; clear A210; simp only [Option.some.injEq, Prod.mk.injEq] at H; obtain ⟨rfl, rfl, rfl⟩ := H; have hnb22 := NB1188_1189.out; have hnc22 := NB1189_1188.out; have hcz23_0 : wc.cell? ⟨gb1188, 0, none⟩ = some (.slice A0_0 l0_0.length c0_0) := (blk_cell BK1188.out 0).trans rfl; have hcz23_1 : wc.cell? ⟨gb1188, 1, none⟩ = some (.slice A0_1 l0_1.length c0_1) := (blk_cell BK1188.out 1).trans rfl; have hfz23_0 := blk_frozen BK1188.out 0; have hfz23_1 := blk_frozen BK1188.out 1; go_wp2_with (first | ((with_reducible refine gate_callee (f := 85) rfl ?_); refine goesL_ (some 21) rfl rfl Try.func85 (by kernel_rfl) rfl #[.agg #[.slice A0_0 l0_0.length c0_0, .slice A0_1 l0_1.length c0_1]] rfl zl ?_; (with_reducible refine (spec_copyFlat.calls _ _ l0_0 _ _ l0_1 t1192 t1195 _ ?side1 ?side2 ?side3 ?side4 A20.out).mono ?_); (case side1 => repeat (first | exact (Kd.C_below HR0_0.out HB.out) | (with_reducible refine Kd.C_alloc ?_ _) | (with_reducible refine Kd.C_drewN ?_ _) | (with_reducible refine Kd.C_drew ?_))); (case side2 => exact HC0_0.out); (case side3 => repeat (first | exact (Kd.C_below HR0_1.out HB.out) | (with_reducible refine Kd.C_alloc ?_ _) | (with_reducible refine Kd.C_drewN ?_ _) | (with_reducible refine Kd.C_drew ?_))); (case side4 => exact HC0_1.out); rintro e w24 ⟨v1193, v1196, rfl, ho0, ho1, hb⟩; refine ⟨_, rfl, ?_⟩; have HO1194 := Aside0.mk (Kd.R_lower ho0 (below_size (zB HB))); have HO1197 := Aside0.mk (Kd.R_lower ho1 (below_size (zB HB))); replace BK1188 := Aside0.mk (blk_below (g := gb1188) (o := .cells #[.slice A0_0 l0_0.length c0_0, .slice A0_1 l0_1.length c0_1] 30 (0, 0)) (zb BK1188) hb); replace BK1189 := Aside0.mk (blk_below (g := gb1189) (o := .cells #[.slice none 0 0, .slice none 0 0] 30 (0, 0)) (zb BK1189) hb); replace HB := Aside0.mk (below_step (zB HB) hb); (try clear hb); (try clear hb2); (try clear hk); (try clear hi); (try clear ho0); (try clear ho1)) | ((with_reducible refine gate_dst (N := 7) rfl ?_); refine zx (N := 7) (cs := #[.slice none 0 0, .slice none 0 0]) (t := 30) ?_; intro gb1198 hg w25 hbox hb; replace HO1194 := Aside0.mk (Kd.R_below (zo HO1194) hb); replace HO1197 := Aside0.mk (Kd.R_below (zo HO1197) hb); have BK1198 := Aside0.mk (hbox); have GW1198 := Aside0.mk ((by rw [hg]; exact (below_size (zB HB)) : w.heap.size ≤ gb1198)); have GE1198 := GW1198; replace HB := Aside0.mk (below_step (zB HB) hb); have NB1188_1198 := Aside0.mk ((by rw [hg]; exact Nat.ne_of_lt (blk_lt (g := gb1188) (o := .cells #[.slice A0_0 l0_0.length c0_0, .slice A0_1 l0_1.length c0_1] 30 (0, 0)) (zb BK1188)) : gb1188 ≠ gb1198)); have NB1198_1188 := Aside0.mk NB1188_1198.out.symm; replace BK1188 := Aside0.mk (blk_below (g := gb1188) (o := .cells #[.slice A0_0 l0_0.length c0_0, .slice A0_1 l0_1.length c0_1] 30 (0, 0)) (zb BK1188) hb); have NB1189_1198 := Aside0.mk ((by rw [hg]; exact Nat.ne_of_lt (blk_lt (g := gb1189) (o := .cells #[.slice none 0 0, .slice none 0 0] 30 (0, 0)) (zb BK1189)) : gb1189 ≠ gb1198)); have NB1198_1189 := Aside0.mk NB1189_1198.out.symm; replace BK1189 := Aside0.mk (blk_below (g := gb1189) (o := .cells #[.slice none 0 0, .slice none 0 0] 30 (0, 0)) (zb BK1189) hb); clear hb hbox hg; obtain ⟨Ao26, co26, eo26⟩ := Kd.R_slice HO1194.out; subst eo26; have hnb27 := NB1198_1188.out; have hnc27 := NB1188_1198.out; have hnb28 := NB1198_1189.out; have hnc28 := NB1189_1198.out; have hcz29_0 : w25.cell? ⟨gb1198, 0, none⟩ = some (.slice none 0 0) := (blk_cell BK1198.out 0).trans rfl; have hcz29_1 : w25.cell? ⟨gb1198, 1, none⟩ = some (.slice none 0 0) := (blk_cell BK1198.out 1).trans rfl; have hfz29_0 := blk_frozen BK1198.out 0; have hfz29_1 := blk_frozen BK1198.out 1; obtain ⟨Ao30, co30, eo30⟩ := Kd.R_slice HO1197.out; subst eo30) | ((with_reducible refine gate_callee (f := 108) rfl ?_); refine goesL_ (some 25) rfl rfl Try.func108 (by kernel_rfl) rfl #[.slice Ao30 t1195.length co30, .int .i64 t1190] rfl zl ?_; (with_reducible refine (spec_dropPair.calls _ _ t1195 t1190 t1199 _ ?side1 ?side2 A21.out).mono ?_); (case side1 => refine (Kd.R_reads' (e := 94) (base := w.heap.size) (ok := fun k_ => True) (n := t1195.length) (c := co30) ?_).2.2; exact (by (with_reducible repeat (first | apply Kd.R_alloc | apply Kd.R_drewN | apply Kd.R_drew)); exact (Kd.R_mono (Kd.R_far (p := ⟨gb1198, 1, none⟩) (Kd.R_far (p := ⟨gb1198, 0, none⟩) (Kd.R_types HO1197.out BK1198.out (by decide)) (fun _ hk => hk.2) (.slice Ao26 t1192.length co26)) (fun _ hk => hk.2) (.slice Ao30 t1195.length co30)) (fun _ h_ => h_.1)))); (case side2 => exact (Kd.R_reads' HO1197.out).2.1); rintro e w31 ⟨v1200, rfl, ho0, hb⟩; refine ⟨_, rfl, ?_⟩; replace HO1194 := Aside0.mk (Kd.R_below (by (with_reducible repeat (first | apply Kd.R_alloc | apply Kd.R_drewN | apply Kd.R_drew)); exact (Kd.R_mono (Kd.R_far (p := ⟨gb1198, 1, none⟩) (Kd.R_far (p := ⟨gb1198, 0, none⟩) (Kd.R_types HO1194.out BK1198.out (by decide)) (fun _ hk => hk.2) (.slice Ao26 t1192.length co26)) (fun _ hk => hk.2) (.slice Ao30 t1195.length co30)) (fun _ h_ => h_.1))) hb); have HO1201 := Aside0.mk (Kd.R_lower (Kd.R_new' ho0 (Kd.R_lt (by (with_reducible repeat (first | apply Kd.R_alloc | apply Kd.R_drewN | apply Kd.R_drew)); exact (Kd.R_mono (Kd.R_far (p := ⟨gb1198, 1, none⟩) (Kd.R_far (p := ⟨gb1198, 0, none⟩) (Kd.R_types HO1197.out BK1198.out (by decide)) (fun _ hk => hk.2) (.slice Ao26 t1192.length co26)) (fun _ hk => hk.2) (.slice Ao30 t1195.length co30)) (fun _ h_ => h_.1))))) (below_size (zB HB))); replace HO1197 := Aside0.mk (Kd.R_elder' (by (with_reducible repeat (first | apply Kd.R_alloc | apply Kd.R_drewN | apply Kd.R_drew)); exact (Kd.R_mono (Kd.R_far (p := ⟨gb1198, 1, none⟩) (Kd.R_far (p := ⟨gb1198, 0, none⟩) (Kd.R_types HO1197.out BK1198.out (by decide)) (fun _ hk => hk.2) (.slice Ao26 t1192.length co26)) (fun _ hk => hk.2) (.slice Ao30 t1195.length co30)) (fun _ h_ => h_.1))) (Kd.R_base ho0) hb); replace BK1188 := Aside0.mk (blk_below (g := gb1188) (o := .cells #[.slice A0_0 l0_0.length c0_0, .slice A0_1 l0_1.length c0_1] 30 (0, 0)) (zf BK1188) hb); replace BK1189 := Aside0.mk (blk_below (g := gb1189) (o := .cells #[.slice none 0 0, .slice none 0 0] 30 (0, 0)) (zf BK1189) hb); replace BK1198 := Aside0.mk (blk_below (g := gb1198) (o := .cells #[.slice Ao26 t1192.length co26, .slice Ao30 t1195.length co30] 30 (0, 0)) (by (with_reducible repeat (first | refine blk_drewN ?_ _ | refine blk_drew ?_ | refine blk_alloc ?_ _)); refine blk_put (cs := #[.slice Ao26 t1192.length co26, .slice none 0 0]) ?_ 1 _ rfl; (with_reducible repeat (first | refine blk_drewN ?_ _ | refine blk_drew ?_ | refine blk_alloc ?_ _)); refine blk_put (cs := #[.slice none 0 0, .slice none 0 0]) ?_ 0 _ rfl; (with_reducible repeat (first | refine blk_drewN ?_ _ | refine blk_drew ?_ | refine blk_alloc ?_ _)); exact BK1198.out) hb); replace HB := Aside0.mk (below_step (zB HB) hb); (try clear hb); (try clear hb2); (try clear hk); (try clear hi); (try clear ho0); obtain ⟨Ao32, co32, eo32⟩ := Kd.R_slice HO1201.out; subst eo32; have hcz33_0 : w31.cell? ⟨gb1198, 0, none⟩ = some (.slice Ao26 t1192.length co26) := (blk_cell BK1198.out 0).trans rfl; have hcz33_1 : w31.cell? ⟨gb1198, 1, none⟩ = some (.slice Ao30 t1195.length co30) := (blk_cell BK1198.out 1).trans rfl; have hfz33_0 := blk_frozen BK1198.out 0; have hfz33_1 := blk_frozen BK1198.out 1; have hcz34_0 : w31.cell? ⟨gb1189, 0, none⟩ = some (.slice none 0 0) := (blk_cell BK1189.out 0).trans rfl; have hcz34_1 : w31.cell? ⟨gb1189, 1, none⟩ = some (.slice none 0 0) := (blk_cell BK1189.out 1).trans rfl; have hfz34_0 := blk_frozen BK1189.out 0; have hfz34_1 := blk_frozen BK1189.out 1)); refine bodyPost_ret (results_ct rfl _ _ gb1189 30 #[.slice Ao26 t1192.length co26, .slice Ao32 t1199.length co32] (0, 0) _ rfl (by (with_reducible repeat (first | refine blk_drewN ?_ _ | refine blk_drew ?_ | refine blk_alloc ?_ _)); refine blk_put (cs := #[.slice Ao26 t1192.length co26, .slice none 0 0]) ?_ 1 _ rfl; (with_reducible repeat (first | refine blk_drewN ?_ _ | refine blk_drew ?_ | refine blk_alloc ?_ _)); refine blk_put (cs := #[.slice none 0 0, .slice none 0 0]) ?_ 0 _ rfl; (with_reducible repeat (first | refine blk_drewN ?_ _ | refine blk_drew ?_ | refine blk_alloc ?_ _)); refine blk_far ?_ NB1189_1198.out _; (with_reducible repeat (first | refine blk_drewN ?_ _ | refine blk_drew ?_ | refine blk_alloc ?_ _)); exact BK1189.out) Try.underlying30 rfl (by kernel_rfl)) rfl ?_; exact ⟨_, _, by first | rfl | (simp [errW_none, errW_some] <;> rfl) | (simp [*, errW_none, errW_some] <;> rfl), by (with_reducible repeat (first | apply Kd.R_alloc | apply Kd.R_drewN | apply Kd.R_drew)); exact Kd.R_mono (Kd.R_far (p := ⟨gb1189, 1, none⟩) (Kd.R_far (p := ⟨gb1189, 0, none⟩) (Kd.R_far (p := ⟨gb1198, 1, none⟩) (Kd.R_types (Kd.R_types HO1194.out BK1198.out (by decide)) BK1189.out (by decide)) (fun _ hk => hk.1.2) (.slice Ao32 t1199.length co32)) (fun _ hk => hk.2) (.slice Ao26 t1192.length co26)) (fun _ hk => hk.2) (.slice Ao32 t1199.length co32)) (fun _ hk => trivial), by (with_reducible repeat (first | apply Kd.R_alloc | apply Kd.R_drewN | apply Kd.R_drew)); exact Kd.R_mono (Kd.R_far (p := ⟨gb1189, 1, none⟩) (Kd.R_far (p := ⟨gb1189, 0, none⟩) (Kd.R_far (p := ⟨gb1198, 1, none⟩) (Kd.R_types (Kd.R_types HO1201.out BK1198.out (by decide)) BK1189.out (by decide)) (fun _ hk => hk.1.2) (.slice Ao32 t1199.length co32)) (fun _ hk => hk.2) (.slice Ao26 t1192.length co26)) (fun _ hk => hk.2) (.slice Ao32 t1199.length co32)) (fun _ hk => trivial), zB HB⟩

end Go.Proofs.Ytkandhljbbolnaa.Q
