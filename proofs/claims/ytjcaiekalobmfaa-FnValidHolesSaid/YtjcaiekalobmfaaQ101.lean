-- written by px.py (a program of this claim's), over the kit's print. Not trusted: Lean checks it.
import Derived.Test.YtjcaiekalobmfaaQ0
import Derived.Test.YtjcaiekalobmfaaQ37
import Derived.Test.YtjcaiekalobmfaaQ39
namespace Go.Proofs.Ytjcaiekalobmfaa.Q
open Go.RowKit Go.Proofs.YtjcaiekalobmfaaL.PrintWords Go.Proofs.YtjcaiekalobmfaaL.PrintLast Go.Proofs.YtjcaiekalobmfaaL.PrintMore
attribute [local go_sem] max2_int min2_int max_two min_two max_three min_three max_four min_four   -- for this text's walks alone
set_option linter.unusedVariables false
set_option linter.unusedSimpArgs false

/-! ### spec_validHoles: function 107 -/
def spec_validHoles.l0 : Nat → Int → List (S130) → List (S116) → Option (Bool)
  | 0, _, _, _ => none
  | k + 1, x3, x899000, x899001 => if x3 < (x899000.length : Int) then (if 0 ≤ x3 then (if (rd_T130 x899000 x3).f0 = true then (if ((rd_T130 x899000 x3).f1) = 0 then ((spec_validNumber.f ((rd_T130 x899000 x3).f1)).bind fun t902 => (if t902 = true then (spec_validHoles.l0 k (wrap64 (x3 + 1)) x899000 x899001) else (some false))) else (some false)) else ((spec_validNumber.f ((rd_T130 x899000 x3).f1)).bind fun t904 => (if t904 = true then (spec_validHoles.l0 k (wrap64 (x3 + 1)) x899000 x899001) else (some false)))) else (none)) else (if (x899000.length : Int) ≤ 8 then ((spec_validFlat.f k ([] : List Int) x899001).bind fun t905 => (some t905)) else (some false))
def spec_validHoles.f (k : Nat) (l0_0 : List (S130)) (l0_1 : List (S116)) : Option (Bool) := spec_validHoles.l0 k 0 l0_0 l0_1
theorem spec_validHoles.mono_l : ∀ k, (∀ y0 y1 y2, LeO (spec_validHoles.l0 k y0 y1 y2) (spec_validHoles.l0 (k + 1) y0 y1 y2))
  | 0 => fun _ _ _ r h => by simp [spec_validHoles.l0] at h
  | k + 1 => by
    have ih0 := spec_validHoles.mono_l k
    · intro y0 y1 y2
      unfold spec_validHoles.l0
      repeat' first
      | (with_reducible exact ih0 _ _ _)
      | (with_reducible exact spec_validFlat.mono _ _ _)
      | (with_reducible exact LeO.refl _)
      | (with_reducible exact LeO.none _)
      | (with_reducible refine LeO.ite ?_ ?_)
      | (with_reducible refine LeO.bind ?_ (fun _ => ?_))
      | exact ih0 _ _ _
      | exact spec_validFlat.mono _ _ _
      | exact LeO.none _
      | refine LeO.ite ?_ ?_
      | refine LeO.bind ?_ (fun _ => ?_)
theorem spec_validHoles.mono : ∀ a0 a1 k, LeO (spec_validHoles.f k a0 a1) (spec_validHoles.f (k + 1) a0 a1) := by
  intro a0 a1 k
  have ih0 := spec_validHoles.mono_l k
  unfold spec_validHoles.f
  repeat' first
      | (with_reducible exact ih0 _ _ _)
      | (with_reducible exact spec_validFlat.mono _ _ _)
      | (with_reducible exact LeO.refl _)
      | (with_reducible exact LeO.none _)
      | (with_reducible refine LeO.ite ?_ ?_)
      | (with_reducible refine LeO.bind ?_ (fun _ => ?_))
      | exact ih0 _ _ _
      | exact spec_validFlat.mono _ _ _
      | exact LeO.none _
      | refine LeO.ite ?_ ?_
      | refine LeO.bind ?_ (fun _ => ?_)
set_option maxHeartbeats 8000000 in
set_option maxRecDepth 100000 in
theorem spec_validHoles.calls (k : Nat) (A0_0 : Option Addr) (c0_0 : Nat) (l0_0 : List (S130)) (A0_1 : Option Addr) (c0_1 : Nat) (l0_1 : List (S116)) (r : Bool) (w : World) (hr0_0 : Kd.C k130 w A0_0 l0_0.length l0_0) (hc0_0 : l0_0.length ≤ c0_0) (hr0_1 : Kd.C k116 w A0_1 l0_1.length l0_1) (hc0_1 : l0_1.length ≤ c0_1) (h : spec_validHoles.f k l0_0 l0_1 = some r) :
    Calls Try.prog 107 #[.agg #[.slice A0_0 l0_0.length c0_0, .slice A0_1 l0_1.length c0_1]] w fun e w' => e = .returned (.bool r) ∧ Below w.heap.size w w' := by
  have hu83 := Try.underlying83
  have hu60 := Try.underlying60
  have HR0_0 := Aside0.mk hr0_0
  have HC0_0 := Aside0.mk hc0_0
  clear hr0_0 hc0_0
  have HR0_1 := Aside0.mk hr0_1
  have HC0_1 := Aside0.mk hc0_1
  clear hr0_1 hc0_1
  have HB := Aside0.mk (Below.refl w.heap.size w)
  have H : (spec_validHoles.l0 k 0 l0_0 l0_1) = some r := h
  clear h
  have H' := Aside0.mk H
  clear H
  go_enter Try.func107, Try.ntmps107
  go_wp2_with (first | ((with_reducible refine gate_dst (N := 1) rfl ?_); refine box_event ?hg (N := 1) ?hd (cs := #[.slice A0_0 l0_0.length c0_0, .slice A0_1 l0_1.length c0_1]) (t := 83) ?hr ?_; (case hd => rfl); (case hg => rfl); (case hr => first | (go_simp; done) | (go_simp; rfl)); intro gb898 hg w2 hbox hb; have n0_ := Aside0.mk (below_step (by repeat (first | (with_reducible first | exact HB.out | apply below_alloc | apply pw_below_drewN | apply below_drew1) | exact HB.out)) hb); have n1_ := Aside0.mk (hbox); have n2_ := Aside0.mk ((by rw [hg]; exact (below_size (by repeat (first | (with_reducible first | exact HB.out | apply below_alloc | apply pw_below_drewN | apply below_drew1) | exact HB.out))) : w.heap.size ≤ gb898)); have n3_ := Aside0.mk ((by rw [hg]; exact (below_size (by repeat (first | (with_reducible first | exact HB.out | apply below_alloc | apply pw_below_drewN | apply below_drew1) | exact HB.out))) : w.heap.size ≤ gb898)); clear HB; have HB := n0_; have BK898 := n1_; have GW898 := n2_; have GE898 := n3_; clear n0_ n1_ n2_ n3_; clear hb hbox hg))
  go_loopg [3] k (fun kq v3 w' => ∃ (x3_1 : Int), v3 = .int .i64 x3_1 ∧ Aside0 (spec_validHoles.l0 kq x3_1 l0_0 l0_1 = some r) ∧ Aside0 (kq ≤ k) ∧ Aside0 (w'.heap[gb898]? = some (.cells #[(.slice A0_0 l0_0.length c0_0), (.slice A0_1 l0_1.length c0_1)] 83 (0, 0))) ∧ Aside0 (Below w.heap.size w w'))
  case atStart => exact ⟨(0), (by first | rfl | (simp; done) | (simp [*]; done)), H', ⟨Nat.le_refl _⟩, ⟨by (with_reducible repeat (first | refine blk_drewN ?_ _ | refine blk_drew ?_ | refine blk_alloc ?_ _)); exact BK898.out⟩, ⟨by repeat (first | (with_reducible first | exact HB.out | apply below_alloc | apply pw_below_drewN | apply below_drew1 | refine below_set ?_ GE898.out) | exact HB.out)⟩⟩
  case round =>
    clear H'
    try clear c1
    try clear p2
    obtain ⟨x3_1, rfl, HA, HK1, BK898, HB⟩ := hrel
    cases gk with
    | zero => exact absurd HA.out (by simp [spec_validHoles.l0])
    | succ k1 =>
      have H := HA.out
      clear HA
      simp only [spec_validHoles.l0] at H
      by_cases c3 : x3_1 < (l0_0.length : Int)
      · rw [if_pos c3] at H
        have c3b0 : decide (x3_1 < (l0_0.length : Int)) = true := decide_eq_true c3
        clear c3
        by_cases c4 : 0 ≤ x3_1
        · rw [if_pos c4] at H
          have c4b0 : decide (0 ≤ x3_1) = true := decide_eq_true c4
          clear c4
          obtain ⟨bq5, hbq5⟩ : ∃ b_ : Bool, b_ = ((rd_T130 l0_0 x3_1).f0) := ⟨_, rfl⟩
          replace H : (if bq5 = true then (if ((rd_T130 l0_0 x3_1).f1) = 0 then ((spec_validNumber.f ((rd_T130 l0_0 x3_1).f1)).bind fun t902 => (if t902 = true then (spec_validHoles.l0 k1 (wrap64 (x3_1 + 1)) l0_0 l0_1) else (some false))) else (some false)) else ((spec_validNumber.f ((rd_T130 l0_0 x3_1).f1)).bind fun t904 => (if t904 = true then (spec_validHoles.l0 k1 (wrap64 (x3_1 + 1)) l0_0 l0_1) else (some false)))) = some r := by rw [← hbq5] at H; exact H
          have Nbq5 := Aside0.mk hbq5
          clear hbq5
          by_cases c6 : bq5 = true
          · subst c6
            have H1 : (if ((rd_T130 l0_0 x3_1).f1) = 0 then ((spec_validNumber.f ((rd_T130 l0_0 x3_1).f1)).bind fun t902 => (if t902 = true then (spec_validHoles.l0 k1 (wrap64 (x3_1 + 1)) l0_0 l0_1) else (some false))) else (some false)) = some r := by rw [if_pos rfl] at H; exact H
            clear H
            have H := H1
            clear H1
            by_cases c7 : ((rd_T130 l0_0 x3_1).f1) = 0
            · rw [if_pos c7] at H
              have c7b0 : (((rd_T130 l0_0 x3_1).f1) == 0) = true := beq_iff_eq.mpr c7
              have c7b1 : (((rd_T130 l0_0 x3_1).f1) != 0) = false := bne_eq_false_iff_eq.mpr c7
              clear c7
              replace H := Option.bind_eq_some_iff.mp H
              obtain ⟨t902, A80, H⟩ := H
              replace H : (if t902 = true then (spec_validHoles.l0 k1 (wrap64 (x3_1 + 1)) l0_0 l0_1) else (some false)) = some r := H
              have A8 := Aside0.mk A80
              clear A80
              by_cases c9 : t902 = true
              · subst c9
                have H1 : (spec_validHoles.l0 k1 (wrap64 (x3_1 + 1)) l0_0 l0_1) = some r := by rw [if_pos rfl] at H; exact H
                clear H
                have H := H1
                clear H1
                have H' := Aside0.mk H
                clear H
                have hcz10_0 : wr.cell? ⟨gb898, 0, none⟩ = some (.slice A0_0 l0_0.length c0_0) := (blk_cell BK898.out 0).trans rfl
                have hcz10_1 : wr.cell? ⟨gb898, 1, none⟩ = some (.slice A0_1 l0_1.length c0_1) := (blk_cell BK898.out 1).trans rfl
                have hfz10_0 := blk_frozen BK898.out 0
                have hfz10_1 := blk_frozen BK898.out 1
                have p899 : 0 ≤ (x3_1 : Int) := of_decide_eq_true (by first | (with_reducible assumption) | assumption)
                have q899 : x3_1 < (l0_0.length : Int) := of_decide_eq_true (by first | (with_reducible assumption) | assumption)
                obtain ⟨ad899, e899, hx899_0, hx899_1⟩ := at_T130 HR0_0.out x3_1 p899 q899
                (try rw [← Nbq5.out] at hx899_0)
                cases e899
                replace hx899_0 := (HB.out.cell (World.block_lt_of_cell? w _ hx899_0)).trans hx899_0
                replace hx899_1 := (HB.out.cell (World.block_lt_of_cell? w _ hx899_1)).trans hx899_1
                replace p899 := eq_true p899
                replace q899 := eq_true q899
                have p900 : 0 ≤ (x3_1 : Int) := of_decide_eq_true (by first | (with_reducible assumption) | assumption)
                have q900 : x3_1 < (l0_0.length : Int) := of_decide_eq_true (by first | (with_reducible assumption) | assumption)
                obtain ⟨ad900, e900, hx900_0, hx900_1⟩ := at_T130 HR0_0.out x3_1 p900 q900
                (try rw [← Nbq5.out] at hx900_0)
                obtain rfl : ad899 = ad900 := (by injection e900)
                replace hx900_0 := (HB.out.cell (World.block_lt_of_cell? w _ hx900_0)).trans hx900_0
                replace hx900_1 := (HB.out.cell (World.block_lt_of_cell? w _ hx900_1)).trans hx900_1
                replace p900 := eq_true p900
                replace q900 := eq_true q900
                have p901 : 0 ≤ (x3_1 : Int) := of_decide_eq_true (by first | (with_reducible assumption) | assumption)
                have q901 : x3_1 < (l0_0.length : Int) := of_decide_eq_true (by first | (with_reducible assumption) | assumption)
                obtain ⟨ad901, e901, hx901_0, hx901_1⟩ := at_T130 HR0_0.out x3_1 p901 q901
                (try rw [← Nbq5.out] at hx901_0)
                obtain rfl : ad899 = ad901 := (by injection e901)
                replace hx901_0 := (HB.out.cell (World.block_lt_of_cell? w _ hx901_0)).trans hx901_0
                replace hx901_1 := (HB.out.cell (World.block_lt_of_cell? w _ hx901_1)).trans hx901_1
                replace p901 := eq_true p901
                replace q901 := eq_true q901
                go_wp2_with (first | (go_at_call 135; (with_reducible refine (spec_validNumber.calls ((rd_T130 l0_0 x3_1).f1) true _ A8.out).mono ?_); rintro e w' ⟨rfl, ⟨nd, rfl⟩⟩))
                go_roundg k1
                case measure => have := HK1.out; omega
                case rel => exact ⟨(wrap64 (x3_1 + 1)), (by first | rfl | (simp; done) | (simp [*]; done)), H', ⟨by have := HK1.out; omega⟩, ⟨by (with_reducible repeat (first | refine blk_drewN ?_ _ | refine blk_drew ?_ | refine blk_alloc ?_ _)); exact BK898.out⟩, ⟨by repeat (first | (with_reducible first | exact HB.out | apply below_alloc | apply pw_below_drewN | apply below_drew1 | refine below_set ?_ GE898.out) | exact HB.out)⟩⟩
              · replace c9 := Bool.eq_false_iff.mpr c9
                subst c9
                have H1 : (some false) = some r := by rw [if_neg (show ¬ (false = true) by decide)] at H; exact H
                clear H
                have H := H1
                clear H1
                obtain rfl := Option.some.inj H
                have hcz11_0 : wr.cell? ⟨gb898, 0, none⟩ = some (.slice A0_0 l0_0.length c0_0) := (blk_cell BK898.out 0).trans rfl
                have hcz11_1 : wr.cell? ⟨gb898, 1, none⟩ = some (.slice A0_1 l0_1.length c0_1) := (blk_cell BK898.out 1).trans rfl
                have hfz11_0 := blk_frozen BK898.out 0
                have hfz11_1 := blk_frozen BK898.out 1
                have p899 : 0 ≤ (x3_1 : Int) := of_decide_eq_true (by first | (with_reducible assumption) | assumption)
                have q899 : x3_1 < (l0_0.length : Int) := of_decide_eq_true (by first | (with_reducible assumption) | assumption)
                obtain ⟨ad899, e899, hx899_0, hx899_1⟩ := at_T130 HR0_0.out x3_1 p899 q899
                (try rw [← Nbq5.out] at hx899_0)
                cases e899
                replace hx899_0 := (HB.out.cell (World.block_lt_of_cell? w _ hx899_0)).trans hx899_0
                replace hx899_1 := (HB.out.cell (World.block_lt_of_cell? w _ hx899_1)).trans hx899_1
                replace p899 := eq_true p899
                replace q899 := eq_true q899
                have p900 : 0 ≤ (x3_1 : Int) := of_decide_eq_true (by first | (with_reducible assumption) | assumption)
                have q900 : x3_1 < (l0_0.length : Int) := of_decide_eq_true (by first | (with_reducible assumption) | assumption)
                obtain ⟨ad900, e900, hx900_0, hx900_1⟩ := at_T130 HR0_0.out x3_1 p900 q900
                (try rw [← Nbq5.out] at hx900_0)
                obtain rfl : ad899 = ad900 := (by injection e900)
                replace hx900_0 := (HB.out.cell (World.block_lt_of_cell? w _ hx900_0)).trans hx900_0
                replace hx900_1 := (HB.out.cell (World.block_lt_of_cell? w _ hx900_1)).trans hx900_1
                replace p900 := eq_true p900
                replace q900 := eq_true q900
                have p901 : 0 ≤ (x3_1 : Int) := of_decide_eq_true (by first | (with_reducible assumption) | assumption)
                have q901 : x3_1 < (l0_0.length : Int) := of_decide_eq_true (by first | (with_reducible assumption) | assumption)
                obtain ⟨ad901, e901, hx901_0, hx901_1⟩ := at_T130 HR0_0.out x3_1 p901 q901
                (try rw [← Nbq5.out] at hx901_0)
                obtain rfl : ad899 = ad901 := (by injection e901)
                replace hx901_0 := (HB.out.cell (World.block_lt_of_cell? w _ hx901_0)).trans hx901_0
                replace hx901_1 := (HB.out.cell (World.block_lt_of_cell? w _ hx901_1)).trans hx901_1
                replace p901 := eq_true p901
                replace q901 := eq_true q901
                go_wp2_with (first | (go_at_call 135; (with_reducible refine (spec_validNumber.calls ((rd_T130 l0_0 x3_1).f1) false _ A8.out).mono ?_); rintro e w' ⟨rfl, ⟨nd, rfl⟩⟩))
                go_ret
                exact ⟨by first | rfl | (simp [errW_none, errW_some] <;> rfl) | (simp [*, errW_none, errW_some] <;> rfl), by repeat (first | (with_reducible first | exact HB.out | apply below_alloc | apply pw_below_drewN | apply below_drew1 | refine below_set ?_ GE898.out) | exact HB.out)⟩
            · rw [if_neg c7] at H
              have c7b0 : (((rd_T130 l0_0 x3_1).f1) == 0) = false := beq_eq_false_iff_ne.mpr c7
              have c7b1 : (((rd_T130 l0_0 x3_1).f1) != 0) = true := bne_iff_ne.mpr c7
              obtain rfl := Option.some.inj H
              have hcz12_0 : wr.cell? ⟨gb898, 0, none⟩ = some (.slice A0_0 l0_0.length c0_0) := (blk_cell BK898.out 0).trans rfl
              have hcz12_1 : wr.cell? ⟨gb898, 1, none⟩ = some (.slice A0_1 l0_1.length c0_1) := (blk_cell BK898.out 1).trans rfl
              have hfz12_0 := blk_frozen BK898.out 0
              have hfz12_1 := blk_frozen BK898.out 1
              have p899 : 0 ≤ (x3_1 : Int) := of_decide_eq_true (by first | (with_reducible assumption) | assumption)
              have q899 : x3_1 < (l0_0.length : Int) := of_decide_eq_true (by first | (with_reducible assumption) | assumption)
              obtain ⟨ad899, e899, hx899_0, hx899_1⟩ := at_T130 HR0_0.out x3_1 p899 q899
              (try rw [← Nbq5.out] at hx899_0)
              cases e899
              replace hx899_0 := (HB.out.cell (World.block_lt_of_cell? w _ hx899_0)).trans hx899_0
              replace hx899_1 := (HB.out.cell (World.block_lt_of_cell? w _ hx899_1)).trans hx899_1
              replace p899 := eq_true p899
              replace q899 := eq_true q899
              have p900 : 0 ≤ (x3_1 : Int) := of_decide_eq_true (by first | (with_reducible assumption) | assumption)
              have q900 : x3_1 < (l0_0.length : Int) := of_decide_eq_true (by first | (with_reducible assumption) | assumption)
              obtain ⟨ad900, e900, hx900_0, hx900_1⟩ := at_T130 HR0_0.out x3_1 p900 q900
              (try rw [← Nbq5.out] at hx900_0)
              obtain rfl : ad899 = ad900 := (by injection e900)
              replace hx900_0 := (HB.out.cell (World.block_lt_of_cell? w _ hx900_0)).trans hx900_0
              replace hx900_1 := (HB.out.cell (World.block_lt_of_cell? w _ hx900_1)).trans hx900_1
              replace p900 := eq_true p900
              replace q900 := eq_true q900
              go_wp2
              go_ret
              exact ⟨by first | rfl | (simp [errW_none, errW_some] <;> rfl) | (simp [*, errW_none, errW_some] <;> rfl), by repeat (first | (with_reducible first | exact HB.out | apply below_alloc | apply pw_below_drewN | apply below_drew1 | refine below_set ?_ GE898.out) | exact HB.out)⟩
          · replace c6 := Bool.eq_false_iff.mpr c6
            subst c6
            have H1 : ((spec_validNumber.f ((rd_T130 l0_0 x3_1).f1)).bind fun t904 => (if t904 = true then (spec_validHoles.l0 k1 (wrap64 (x3_1 + 1)) l0_0 l0_1) else (some false))) = some r := by rw [if_neg (show ¬ (false = true) by decide)] at H; exact H
            clear H
            have H := H1
            clear H1
            replace H := Option.bind_eq_some_iff.mp H
            obtain ⟨t904, A130, H⟩ := H
            replace H : (if t904 = true then (spec_validHoles.l0 k1 (wrap64 (x3_1 + 1)) l0_0 l0_1) else (some false)) = some r := H
            have A13 := Aside0.mk A130
            clear A130
            by_cases c14 : t904 = true
            · subst c14
              have H1 : (spec_validHoles.l0 k1 (wrap64 (x3_1 + 1)) l0_0 l0_1) = some r := by rw [if_pos rfl] at H; exact H
              clear H
              have H := H1
              clear H1
              have H' := Aside0.mk H
              clear H
              have hcz15_0 : wr.cell? ⟨gb898, 0, none⟩ = some (.slice A0_0 l0_0.length c0_0) := (blk_cell BK898.out 0).trans rfl
              have hcz15_1 : wr.cell? ⟨gb898, 1, none⟩ = some (.slice A0_1 l0_1.length c0_1) := (blk_cell BK898.out 1).trans rfl
              have hfz15_0 := blk_frozen BK898.out 0
              have hfz15_1 := blk_frozen BK898.out 1
              have p899 : 0 ≤ (x3_1 : Int) := of_decide_eq_true (by first | (with_reducible assumption) | assumption)
              have q899 : x3_1 < (l0_0.length : Int) := of_decide_eq_true (by first | (with_reducible assumption) | assumption)
              obtain ⟨ad899, e899, hx899_0, hx899_1⟩ := at_T130 HR0_0.out x3_1 p899 q899
              (try rw [← Nbq5.out] at hx899_0)
              cases e899
              replace hx899_0 := (HB.out.cell (World.block_lt_of_cell? w _ hx899_0)).trans hx899_0
              replace hx899_1 := (HB.out.cell (World.block_lt_of_cell? w _ hx899_1)).trans hx899_1
              replace p899 := eq_true p899
              replace q899 := eq_true q899
              have p903 : 0 ≤ (x3_1 : Int) := of_decide_eq_true (by first | (with_reducible assumption) | assumption)
              have q903 : x3_1 < (l0_0.length : Int) := of_decide_eq_true (by first | (with_reducible assumption) | assumption)
              obtain ⟨ad903, e903, hx903_0, hx903_1⟩ := at_T130 HR0_0.out x3_1 p903 q903
              (try rw [← Nbq5.out] at hx903_0)
              obtain rfl : ad899 = ad903 := (by injection e903)
              replace hx903_0 := (HB.out.cell (World.block_lt_of_cell? w _ hx903_0)).trans hx903_0
              replace hx903_1 := (HB.out.cell (World.block_lt_of_cell? w _ hx903_1)).trans hx903_1
              replace p903 := eq_true p903
              replace q903 := eq_true q903
              go_wp2_with (first | (go_at_call 135; (with_reducible refine (spec_validNumber.calls ((rd_T130 l0_0 x3_1).f1) true _ A13.out).mono ?_); rintro e w' ⟨rfl, ⟨nd, rfl⟩⟩))
              go_roundg k1
              case measure => have := HK1.out; omega
              case rel => exact ⟨(wrap64 (x3_1 + 1)), (by first | rfl | (simp; done) | (simp [*]; done)), H', ⟨by have := HK1.out; omega⟩, ⟨by (with_reducible repeat (first | refine blk_drewN ?_ _ | refine blk_drew ?_ | refine blk_alloc ?_ _)); exact BK898.out⟩, ⟨by repeat (first | (with_reducible first | exact HB.out | apply below_alloc | apply pw_below_drewN | apply below_drew1 | refine below_set ?_ GE898.out) | exact HB.out)⟩⟩
            · replace c14 := Bool.eq_false_iff.mpr c14
              subst c14
              have H1 : (some false) = some r := by rw [if_neg (show ¬ (false = true) by decide)] at H; exact H
              clear H
              have H := H1
              clear H1
              obtain rfl := Option.some.inj H
              have hcz16_0 : wr.cell? ⟨gb898, 0, none⟩ = some (.slice A0_0 l0_0.length c0_0) := (blk_cell BK898.out 0).trans rfl
              have hcz16_1 : wr.cell? ⟨gb898, 1, none⟩ = some (.slice A0_1 l0_1.length c0_1) := (blk_cell BK898.out 1).trans rfl
              have hfz16_0 := blk_frozen BK898.out 0
              have hfz16_1 := blk_frozen BK898.out 1
              have p899 : 0 ≤ (x3_1 : Int) := of_decide_eq_true (by first | (with_reducible assumption) | assumption)
              have q899 : x3_1 < (l0_0.length : Int) := of_decide_eq_true (by first | (with_reducible assumption) | assumption)
              obtain ⟨ad899, e899, hx899_0, hx899_1⟩ := at_T130 HR0_0.out x3_1 p899 q899
              (try rw [← Nbq5.out] at hx899_0)
              cases e899
              replace hx899_0 := (HB.out.cell (World.block_lt_of_cell? w _ hx899_0)).trans hx899_0
              replace hx899_1 := (HB.out.cell (World.block_lt_of_cell? w _ hx899_1)).trans hx899_1
              replace p899 := eq_true p899
              replace q899 := eq_true q899
              have p903 : 0 ≤ (x3_1 : Int) := of_decide_eq_true (by first | (with_reducible assumption) | assumption)
              have q903 : x3_1 < (l0_0.length : Int) := of_decide_eq_true (by first | (with_reducible assumption) | assumption)
              obtain ⟨ad903, e903, hx903_0, hx903_1⟩ := at_T130 HR0_0.out x3_1 p903 q903
              (try rw [← Nbq5.out] at hx903_0)
              obtain rfl : ad899 = ad903 := (by injection e903)
              replace hx903_0 := (HB.out.cell (World.block_lt_of_cell? w _ hx903_0)).trans hx903_0
              replace hx903_1 := (HB.out.cell (World.block_lt_of_cell? w _ hx903_1)).trans hx903_1
              replace p903 := eq_true p903
              replace q903 := eq_true q903
              go_wp2_with (first | (go_at_call 135; (with_reducible refine (spec_validNumber.calls ((rd_T130 l0_0 x3_1).f1) false _ A13.out).mono ?_); rintro e w' ⟨rfl, ⟨nd, rfl⟩⟩))
              go_ret
              exact ⟨by first | rfl | (simp [errW_none, errW_some] <;> rfl) | (simp [*, errW_none, errW_some] <;> rfl), by repeat (first | (with_reducible first | exact HB.out | apply below_alloc | apply pw_below_drewN | apply below_drew1 | refine below_set ?_ GE898.out) | exact HB.out)⟩
        · rw [if_neg c4] at H
          exact absurd H (by simp)
      · rw [if_neg c3] at H
        have c3b0 : decide (x3_1 < (l0_0.length : Int)) = false := decide_eq_false c3
        clear c3
        by_cases c17 : (l0_0.length : Int) ≤ 8
        · rw [if_pos c17] at H
          have c17b0 : decide ((l0_0.length : Int) ≤ 8) = true := decide_eq_true c17
          have c17b1 : decide (l0_0.length ≤ 8) = true := decide_eq_true (by omega)
          clear c17
          replace H := Option.bind_eq_some_iff.mp H
          obtain ⟨t905, A180, H⟩ := H
          replace H : (some t905) = some r := H
          have A18 := Aside0.mk A180
          clear A180
          obtain rfl := Option.some.inj H
          have hcz19_0 : wr.cell? ⟨gb898, 0, none⟩ = some (.slice A0_0 l0_0.length c0_0) := (blk_cell BK898.out 0).trans rfl
          have hcz19_1 : wr.cell? ⟨gb898, 1, none⟩ = some (.slice A0_1 l0_1.length c0_1) := (blk_cell BK898.out 1).trans rfl
          have hfz19_0 := blk_frozen BK898.out 0
          have hfz19_1 := blk_frozen BK898.out 1
          go_wp2_with (first | (go_at_call 78; (refine (spec_validFlat.calls k1 _ _ ([] : List Int) _ _ l0_1 t905 _ ?side1 ?side2 ?side3 ?side4 A18.out).mono ?_); (case side1 => exact Kd.C_nil _ _); (case side2 => exact Nat.le_refl _); (case side3 => repeat (first | exact (Kd.C_below HR0_1.out HB.out) | (with_reducible refine Kd.C_alloc ?_ _) | (with_reducible refine Kd.C_drewN ?_ _) | (with_reducible refine Kd.C_drew ?_))); (case side4 => exact HC0_1.out); rintro e w20 ⟨rfl, hb⟩; have n0_ := Aside0.mk (blk_below (g := gb898) (o := .cells #[.slice A0_0 l0_0.length c0_0, .slice A0_1 l0_1.length c0_1] 83 (0, 0)) (by (with_reducible repeat (first | refine blk_drewN ?_ _ | refine blk_drew ?_ | refine blk_alloc ?_ _)); exact BK898.out) hb); have n1_ := Aside0.mk (below_step (by repeat (first | (with_reducible first | exact HB.out | apply below_alloc | apply pw_below_drewN | apply below_drew1 | refine below_set ?_ GE898.out) | exact HB.out)) hb); clear BK898; clear HB; have BK898 := n0_; have HB := n1_; clear n0_ n1_; (try clear hb); (try clear hb2); (try clear hk); (try clear hi)))
          go_ret
          exact ⟨by first | rfl | (simp [errW_none, errW_some] <;> rfl) | (simp [*, errW_none, errW_some] <;> rfl), by repeat (first | (with_reducible first | exact HB.out | apply below_alloc | apply pw_below_drewN | apply below_drew1 | refine below_set ?_ GE898.out) | exact HB.out)⟩
        · rw [if_neg c17] at H
          have c17b0 : decide ((l0_0.length : Int) ≤ 8) = false := decide_eq_false c17
          have c17b1 : decide (l0_0.length ≤ 8) = false := decide_eq_false (by omega)
          clear c17
          obtain rfl := Option.some.inj H
          have hcz21_0 : wr.cell? ⟨gb898, 0, none⟩ = some (.slice A0_0 l0_0.length c0_0) := (blk_cell BK898.out 0).trans rfl
          have hcz21_1 : wr.cell? ⟨gb898, 1, none⟩ = some (.slice A0_1 l0_1.length c0_1) := (blk_cell BK898.out 1).trans rfl
          have hfz21_0 := blk_frozen BK898.out 0
          have hfz21_1 := blk_frozen BK898.out 1
          go_wp2
          go_ret
          exact ⟨by first | rfl | (simp [errW_none, errW_some] <;> rfl) | (simp [*, errW_none, errW_some] <;> rfl), by repeat (first | (with_reducible first | exact HB.out | apply below_alloc | apply pw_below_drewN | apply below_drew1 | refine below_set ?_ GE898.out) | exact HB.out)⟩

end Go.Proofs.Ytjcaiekalobmfaa.Q
