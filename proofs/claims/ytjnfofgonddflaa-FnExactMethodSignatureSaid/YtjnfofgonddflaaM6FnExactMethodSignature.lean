-- written by px.py and merge.py (programs of this claim's), over the kit's print. Not trusted: Lean checks it.
import Derived.Test.YtjnfofgonddflaaQ0
import Derived.Test.YtjnfofgonddflaaM0FnExactMethodSignature
import Derived.Test.YtjnfofgonddflaaM1FnExactMethodSignature
import Derived.Test.YtjnfofgonddflaaM3FnExactMethodSignature
import Derived.Test.YtjnfofgonddflaaM5FnExactMethodSignature
namespace Go.Proofs.Ytjnfofgonddflaa.Q
open Go.RowKit Go.Proofs.YtjnfofgonddflaaL.PrintWords Go.Proofs.YtjnfofgonddflaaL.PrintLast Go.Proofs.YtjnfofgonddflaaL.PrintMore
attribute [local go_sem] max2_int min2_int max_two min_two max_three min_three max_four min_four   -- for this text's walks alone
set_option linter.unusedVariables false
set_option linter.unusedSimpArgs false

/-! ### laws_FnExactMethodSignature: function 12 -/
def laws_FnExactMethodSignature.f (k : Nat) (l0_0 : List (S85)) : Option (Bool) := (laws_szSignature.f k l0_0 1048576).bind fun t635 => (if t635 < 0 then (some true) else ((laws_toSignature.f k l0_0).bind fun t636 => ((spec_MethodSignature.f k t636).bind fun bt639 => ((laws_toSignature.f k l0_0).bind fun t644 => ((impl_MethodSignature.f k t644).bind fun bt648 => ((laws_eqSignature.f k bt648.1 bt639.1).bind fun t653 => (if t653 = true then (if (bt648.2 != bt639.2) = true then (some false) else ((laws_toSignature.f k l0_0).bind fun t654 => ((laws_eqSignature.f k t644 t654).bind fun t657 => (if t657 = true then ((laws_markSignature.f k t644 1).bind fun bt658 => (if bt658.1 < 0 then (some false) else ((laws_eqSignature.f k bt648.1 bt639.1).bind fun t660 => (if t660 = true then ((laws_markSignature.f k bt648.1 1).bind fun bt661 => ((laws_heldSignature.f k bt661.2 1).bind fun t663 => (if t663 < 0 then (some false) else (if t663 = bt661.1 then ((laws_toSignature.f k l0_0).bind fun t664 => ((impl_MethodSignature.f k t664).bind fun bt667 => ((laws_eqSignature.f k bt667.1 bt639.1).bind fun t672 => (if t672 = true then (if (bt667.2 != bt639.2) = true then (some false) else ((laws_heldSignature.f k bt661.2 1).bind fun t673 => (if t673 < 0 then (some false) else (if t673 = bt661.1 then (some true) else (some false))))) else (some false))))) else (some false))))) else (some false))))) else (some false))))) else (some false))))))))
theorem laws_FnExactMethodSignature.mono : ∀ a0 k, LeO (laws_FnExactMethodSignature.f k a0) (laws_FnExactMethodSignature.f (k + 1) a0) := by
 intro a0 k
 unfold laws_FnExactMethodSignature.f
 repeat' first
   | (with_reducible exact impl_MethodSignature.mono _ _)
   | (with_reducible exact laws_eqSignature.mono _ _ _)
   | (with_reducible exact laws_heldSignature.mono _ _ _)
   | (with_reducible exact laws_markSignature.mono _ _ _)
   | (with_reducible exact laws_szSignature.mono _ _ _)
   | (with_reducible exact laws_toSignature.mono _ _)
   | (with_reducible exact spec_MethodSignature.mono _ _)
   | (with_reducible exact LeO.refl _)
   | (with_reducible exact LeO.none _)
   | (with_reducible refine LeO.ite ?_ ?_)
   | (with_reducible refine LeO.bind ?_ (fun _ => ?_))
   | exact impl_MethodSignature.mono _ _
   | exact laws_eqSignature.mono _ _ _
   | exact laws_heldSignature.mono _ _ _
   | exact laws_markSignature.mono _ _ _
   | exact laws_szSignature.mono _ _ _
   | exact laws_toSignature.mono _ _
   | exact spec_MethodSignature.mono _ _
   | exact LeO.none _
   | refine LeO.ite ?_ ?_
   | refine LeO.bind ?_ (fun _ => ?_)
set_option maxHeartbeats 8000000 in
set_option maxRecDepth 100000 in
theorem laws_FnExactMethodSignature.calls (k : Nat) (A0_0 : Option Addr) (c0_0 : Nat) (l0_0 : List (S85)) (r : Bool) (w : World) (hr0_0 : Kd.C k85 w A0_0 l0_0.length l0_0) (hc0_0 : l0_0.length ≤ c0_0) (h : laws_FnExactMethodSignature.f k l0_0 = some r) (hr_ : r = true) :
  Calls Try.prog 12 #[.agg #[.slice A0_0 l0_0.length c0_0]] w fun e w' => e = .returned (.bool r) ∧ Below w.heap.size w w' := by
 have hu31 := Try.underlying31
 have hu25 := Try.underlying25
 have HR_ := Aside0.mk hr_
 clear hr_
 have HR0_0 := Aside0.mk hr0_0
 have HC0_0 := Aside0.mk hc0_0
 clear hr0_0 hc0_0
 have HB := Aside0.mk (Below.refl w.heap.size w)
 have H : ((laws_szSignature.f k l0_0 1048576).bind fun t635 => (if t635 < 0 then (some true) else ((laws_toSignature.f k l0_0).bind fun t636 => ((spec_MethodSignature.f k t636).bind fun bt639 => ((laws_toSignature.f k l0_0).bind fun t644 => ((impl_MethodSignature.f k t644).bind fun bt648 => ((laws_eqSignature.f k bt648.1 bt639.1).bind fun t653 => (if t653 = true then (if (bt648.2 != bt639.2) = true then (some false) else ((laws_toSignature.f k l0_0).bind fun t654 => ((laws_eqSignature.f k t644 t654).bind fun t657 => (if t657 = true then ((laws_markSignature.f k t644 1).bind fun bt658 => (if bt658.1 < 0 then (some false) else ((laws_eqSignature.f k bt648.1 bt639.1).bind fun t660 => (if t660 = true then ((laws_markSignature.f k bt648.1 1).bind fun bt661 => ((laws_heldSignature.f k bt661.2 1).bind fun t663 => (if t663 < 0 then (some false) else (if t663 = bt661.1 then ((laws_toSignature.f k l0_0).bind fun t664 => ((impl_MethodSignature.f k t664).bind fun bt667 => ((laws_eqSignature.f k bt667.1 bt639.1).bind fun t672 => (if t672 = true then (if (bt667.2 != bt639.2) = true then (some false) else ((laws_heldSignature.f k bt661.2 1).bind fun t673 => (if t673 < 0 then (some false) else (if t673 = bt661.1 then (some true) else (some false))))) else (some false))))) else (some false))))) else (some false))))) else (some false))))) else (some false))))))))) = some r := h
 clear h
 replace H := Option.bind_eq_some_iff.mp H
 obtain ⟨t635, A20, H⟩ := H
 (try dsimp only at H)
 have A2 := Aside0.mk A20
 clear A20
 by_cases c3 : t635 < 0
 ·rw [if_pos c3] at H
  have c3b0 : decide (t635 < 0) = true := decide_eq_true c3
  clear c3
  obtain rfl := Option.some.inj H
  go_enter Try.func12, Try.ntmps12
  go_wp2_with (first | ((with_reducible refine gate_dst (N := 1) rfl ?_); refine box_event ?hg (N := 1) ?hd (cs := #[.slice A0_0 l0_0.length c0_0]) (t := 31) ?hr ?_; (case hd => rfl); (case hg => rfl); (case hr => first | (go_simp; done) | (go_simp; rfl)); intro gb634 hg w4 hbox hb; have BK634 := Aside0.mk (hbox); have GW634 := Aside0.mk ((by rw [hg]; exact (below_size (zB HB)) : w.heap.size ≤ gb634)); have GE634 := Aside0.mk ((by rw [hg]; exact (below_size (zB HB)) : w.heap.size ≤ gb634)); replace HB := Aside0.mk (below_step (zB HB) hb); clear hb hbox hg; have hcz5_0 : w4.cell? ⟨gb634, 0, none⟩ = some (.slice A0_0 l0_0.length c0_0) := (blk_cell BK634.out 0).trans rfl; have hfz5_0 := blk_frozen BK634.out 0) | ((with_reducible refine gate_callee (f := 18) rfl ?_); refine goesL_ (some 16) rfl rfl Try.func18 (by kernel_rfl) rfl #[.agg #[.slice A0_0 l0_0.length c0_0], .int .i64 1048576] rfl zl ?_; (with_reducible refine (laws_szSignature.calls k _ _ l0_0 1048576 t635 _ ?side1 ?side2 A2.out).mono ?_); (case side1 => repeat (first | exact (Kd.C_below HR0_0.out HB.out) | (with_reducible refine Kd.C_alloc ?_ _) | (with_reducible refine Kd.C_drewN ?_ _) | (with_reducible refine Kd.C_drew ?_))); (case side2 => exact HC0_0.out); rintro e w6 ⟨rfl, hb⟩; refine ⟨_, rfl, ?_⟩; replace BK634 := Aside0.mk (blk_below (g := gb634) (o := .cells #[.slice A0_0 l0_0.length c0_0] 31 (0, 0)) (zb BK634) hb); replace HB := Aside0.mk (below_step (zB HB) hb); (try clear hb); (try clear hb2); (try clear hk); (try clear hi)))
  go_ret
  exact ⟨by first | rfl | (simp [errW_none, errW_some] <;> rfl) | (simp [*, errW_none, errW_some] <;> rfl), zB HB⟩
 ·rw [if_neg c3] at H
  have c3b0 : decide (t635 < 0) = false := decide_eq_false c3
  clear c3
  replace H := Option.bind_eq_some_iff.mp H
  obtain ⟨t636, A70, H⟩ := H
  (try dsimp only at H)
  have A7 := Aside0.mk A70
  clear A70
  replace H := Option.bind_eq_some_iff.mp H
  obtain ⟨⟨t639, t642⟩, A80, H⟩ := H
  (try dsimp only at H)
  have A8 := Aside0.mk A80
  clear A80
  replace H := Option.bind_eq_some_iff.mp H
  obtain ⟨t644, A90, H⟩ := H
  (try dsimp only at H)
  have A9 := Aside0.mk A90
  clear A90
  replace H := Option.bind_eq_some_iff.mp H
  obtain ⟨⟨t648, t651⟩, A100, H⟩ := H
  (try dsimp only at H)
  have A10 := Aside0.mk A100
  clear A100
  replace H := Option.bind_eq_some_iff.mp H
  obtain ⟨t653, A110, H⟩ := H
  (try dsimp only at H)
  have A11 := Aside0.mk A110
  clear A110
  by_cases c12 : t653 = true
  ·subst c12
   rw [if_pos rfl] at H
   by_cases c13 : (t651 != t642) = true
   ·rw [if_pos c13] at H
    have c13b0 : (t651 != t642) = true := c13
    (try (have c13b1 : decide (t651 = t642) = false := by simpa using c13))
    (try (have c13b2 : (t651 == t642) = false := by simpa using c13))
    (try (have c13b3 : ¬ (t651 = t642) := by simpa using c13))
    clear c13
    obtain rfl := Option.some.inj H
    exact absurd HR_.out (by decide)
   ·rw [if_neg c13] at H
    have c13b0 : (t651 != t642) = false := by simpa using c13
    (try (have c13b1 : decide (t651 = t642) = true := by simpa using c13))
    (try (have c13b2 : (t651 == t642) = true := by simpa using c13))
    clear c13
    replace H := Option.bind_eq_some_iff.mp H
    obtain ⟨t654, A140, H⟩ := H
    (try dsimp only at H)
    have A14 := Aside0.mk A140
    clear A140
    replace H := Option.bind_eq_some_iff.mp H
    obtain ⟨t657, A150, H⟩ := H
    (try dsimp only at H)
    have A15 := Aside0.mk A150
    clear A150
    by_cases c16 : t657 = true
    ·subst c16
     rw [if_pos rfl] at H
     replace H := Option.bind_eq_some_iff.mp H
     obtain ⟨⟨t658, t659⟩, A170, H⟩ := H
     (try dsimp only at H)
     have A17 := Aside0.mk A170
     clear A170
     by_cases c18 : t658 < 0
     ·rw [if_pos c18] at H
      have c18b0 : decide (t658 < 0) = true := decide_eq_true c18
      clear c18
      obtain rfl := Option.some.inj H
      exact absurd HR_.out (by decide)
     ·rw [if_neg c18] at H
      have c18b0 : decide (t658 < 0) = false := decide_eq_false c18
      clear c18
      replace H := Option.bind_eq_some_iff.mp H
      obtain ⟨t660, A190, H⟩ := H
      (try dsimp only at H)
      have A19 := Aside0.mk A190
      clear A190
      by_cases c20 : t660 = true
      ·subst c20
       rw [if_pos rfl] at H
       replace H := Option.bind_eq_some_iff.mp H
       obtain ⟨⟨t661, t662⟩, A210, H⟩ := H
       (try dsimp only at H)
       have A21 := Aside0.mk A210
       clear A210
       replace H := Option.bind_eq_some_iff.mp H
       obtain ⟨t663, A220, H⟩ := H
       (try dsimp only at H)
       have A22 := Aside0.mk A220
       clear A220
       by_cases c23 : t663 < 0
       ·rw [if_pos c23] at H
        have c23b0 : decide (t663 < 0) = true := decide_eq_true c23
        clear c23
        obtain rfl := Option.some.inj H
        exact absurd HR_.out (by decide)
       ·rw [if_neg c23] at H
        have c23b0 : decide (t663 < 0) = false := decide_eq_false c23
        clear c23
        by_cases c24 : t663 = t661
        ·rw [if_pos c24] at H
         have c24b0 : (t663 == t661) = true := beq_iff_eq.mpr c24
         have c24b1 : (t663 != t661) = false := bne_eq_false_iff_eq.mpr c24
         clear c24
         replace H := Option.bind_eq_some_iff.mp H
         obtain ⟨t664, A250, H⟩ := H
         (try dsimp only at H)
         have A25 := Aside0.mk A250
         clear A250
         replace H := Option.bind_eq_some_iff.mp H
         obtain ⟨⟨t667, t670⟩, A260, H⟩ := H
         (try dsimp only at H)
         have A26 := Aside0.mk A260
         clear A260
         replace H := Option.bind_eq_some_iff.mp H
         obtain ⟨t672, A270, H⟩ := H
         (try dsimp only at H)
         have A27 := Aside0.mk A270
         clear A270
         by_cases c28 : t672 = true
         ·subst c28
          rw [if_pos rfl] at H
          by_cases c29 : (t670 != t642) = true
          ·rw [if_pos c29] at H
           have c29b0 : (t670 != t642) = true := c29
           (try (have c29b1 : decide (t670 = t642) = false := by simpa using c29))
           (try (have c29b2 : (t670 == t642) = false := by simpa using c29))
           (try (have c29b3 : ¬ (t670 = t642) := by simpa using c29))
           clear c29
           obtain rfl := Option.some.inj H
           exact absurd HR_.out (by decide)
          ·rw [if_neg c29] at H
           have c29b0 : (t670 != t642) = false := by simpa using c29
           (try (have c29b1 : decide (t670 = t642) = true := by simpa using c29))
           (try (have c29b2 : (t670 == t642) = true := by simpa using c29))
           clear c29
           replace H := Option.bind_eq_some_iff.mp H
           obtain ⟨t673, A300, H⟩ := H
           (try dsimp only at H)
           have A30 := Aside0.mk A300
           clear A300
           by_cases c31 : t673 < 0
           ·rw [if_pos c31] at H
            have c31b0 : decide (t673 < 0) = true := decide_eq_true c31
            clear c31
            obtain rfl := Option.some.inj H
            exact absurd HR_.out (by decide)
           ·rw [if_neg c31] at H
            have c31b0 : decide (t673 < 0) = false := decide_eq_false c31
            clear c31
            by_cases c32 : t673 = t661
            ·rw [if_pos c32] at H
             have c32b0 : (t673 == t661) = true := beq_iff_eq.mpr c32
             have c32b1 : (t673 != t661) = false := bne_eq_false_iff_eq.mpr c32
             clear c32
             obtain rfl := Option.some.inj H
             go_enter Try.func12, Try.ntmps12
             try go_wp2_with (first | ((with_reducible refine gate_dst (N := 1) rfl ?_); refine box_event ?hg (N := 1) ?hd (cs := #[.slice A0_0 l0_0.length c0_0]) (t := 31) ?hr ?_; (case hd => rfl); (case hg => rfl); (case hr => first | (go_simp; done) | (go_simp; rfl)); intro gb634 hg w33 hbox hb; have BK634 := Aside0.mk (hbox); have GW634 := Aside0.mk ((by rw [hg]; exact (below_size (zB HB)) : w.heap.size ≤ gb634)); have GE634 := Aside0.mk ((by rw [hg]; exact (below_size (zB HB)) : w.heap.size ≤ gb634)); replace HB := Aside0.mk (below_step (zB HB) hb); clear hb hbox hg; have hcz34_0 : w33.cell? ⟨gb634, 0, none⟩ = some (.slice A0_0 l0_0.length c0_0) := (blk_cell BK634.out 0).trans rfl; have hfz34_0 := blk_frozen BK634.out 0) | ((with_reducible refine gate_callee (f := 18) rfl ?_); refine goesL_ (some 16) rfl rfl Try.func18 (by kernel_rfl) rfl #[.agg #[.slice A0_0 l0_0.length c0_0], .int .i64 1048576] rfl zl ?_; (with_reducible refine (laws_szSignature.calls k _ _ l0_0 1048576 t635 _ ?side1 ?side2 A2.out).mono ?_); (case side1 => repeat (first | exact (Kd.C_below HR0_0.out HB.out) | (with_reducible refine Kd.C_alloc ?_ _) | (with_reducible refine Kd.C_drewN ?_ _) | (with_reducible refine Kd.C_drew ?_))); (case side2 => exact HC0_0.out); rintro e w35 ⟨rfl, hb⟩; refine ⟨_, rfl, ?_⟩; replace BK634 := Aside0.mk (blk_below (g := gb634) (o := .cells #[.slice A0_0 l0_0.length c0_0] 31 (0, 0)) (zb BK634) hb); replace HB := Aside0.mk (below_step (zB HB) hb); (try clear hb); (try clear hb2); (try clear hk); (try clear hi); have hcz36_0 : w35.cell? ⟨gb634, 0, none⟩ = some (.slice A0_0 l0_0.length c0_0) := (blk_cell BK634.out 0).trans rfl; have hfz36_0 := blk_frozen BK634.out 0) | ((with_reducible refine gate_callee (f := 20) rfl ?_); refine goesL_ (some 21) rfl rfl Try.func20 (by kernel_rfl) rfl #[.agg #[.slice A0_0 l0_0.length c0_0]] rfl zl ?_; (with_reducible refine (laws_toSignature.calls k _ _ l0_0 t636 _ ?side1 ?side2 A7.out).mono ?_); (case side1 => repeat (first | exact (Kd.C_below HR0_0.out HB.out) | (with_reducible refine Kd.C_alloc ?_ _) | (with_reducible refine Kd.C_drewN ?_ _) | (with_reducible refine Kd.C_drew ?_))); (case side2 => exact HC0_0.out); rintro e w37 ⟨v637, rfl, ho0, hb⟩; refine ⟨_, rfl, ?_⟩; have HO638 := Aside0.mk (Kd.R_lower ho0 (below_size (zB HB))); replace BK634 := Aside0.mk (blk_below (g := gb634) (o := .cells #[.slice A0_0 l0_0.length c0_0] 31 (0, 0)) (zb BK634) hb); replace HB := Aside0.mk (below_step (zB HB) hb); (try clear hb); (try clear hb2); (try clear hk); (try clear hi); (try clear ho0); obtain ⟨Ao38, co38, eo38⟩ := Kd.R_slice HO638.out; subst eo38) | ((with_reducible refine gate_callee (f := 40) rfl ?_); refine goesL_ (some 22) rfl rfl Try.func40 (by kernel_rfl) rfl #[.agg #[.slice Ao38 t636.length co38]] rfl zl ?_; (with_reducible refine (spec_MethodSignature.calls k _ _ t636 t639 t642 _ ?side1 ?side2 A8.out).mono ?_); (case side1 => repeat (first | exact (Kd.R_reads' HO638.out).2.2 | (with_reducible refine Kd.C_alloc ?_ _) | (with_reducible refine Kd.C_drewN ?_ _) | (with_reducible refine Kd.C_drew ?_))); (case side2 => exact (Kd.R_reads' HO638.out).2.1); rintro e w39 ⟨v640, rfl, ho0, hb⟩; refine ⟨_, rfl, ?_⟩; have HO641 := Aside0.mk (Kd.R_lower (Kd.R_new' ho0 (Kd.R_lt (zo HO638))) (below_size (zB HB))); replace HO638 := Aside0.mk (Kd.R_elder' (zo HO638) (Kd.R_base ho0) hb); replace BK634 := Aside0.mk (blk_below (g := gb634) (o := .cells #[.slice A0_0 l0_0.length c0_0] 31 (0, 0)) (zb BK634) hb); replace HB := Aside0.mk (below_step (zB HB) hb); (try clear hb); (try clear hb2); (try clear hk); (try clear hi); (try clear ho0)) | ((with_reducible refine gate_dst (N := 4) rfl ?_); refine box_event ?hg (N := 4) ?hd (cs := #[.slice none 0 0]) (t := 25) ?hr ?_; (case hd => rfl); (case hg => rfl); (case hr => first | (go_simp; done) | (go_simp; rfl)); intro gb643 hg w40 hbox hb; replace HO638 := Aside0.mk (Kd.R_below (zo HO638) hb); replace HO641 := Aside0.mk (Kd.R_below (zo HO641) hb); have BK643 := Aside0.mk (hbox); have GW643 := Aside0.mk ((by rw [hg]; exact (below_size (zB HB)) : w.heap.size ≤ gb643)); have GE643 := Aside0.mk ((by rw [hg]; exact (below_size (zB HB)) : w.heap.size ≤ gb643)); replace HB := Aside0.mk (below_step (zB HB) hb); have NB634_643 := Aside0.mk ((by rw [hg]; exact Nat.ne_of_lt (blk_lt (g := gb634) (o := .cells #[.slice A0_0 l0_0.length c0_0] 31 (0, 0)) (zb BK634)) : gb634 ≠ gb643)); have NB643_634 := Aside0.mk ((by rw [hg]; exact Nat.ne_of_gt (blk_lt (g := gb634) (o := .cells #[.slice A0_0 l0_0.length c0_0] 31 (0, 0)) (zb BK634)) : gb643 ≠ gb634)); replace BK634 := Aside0.mk (blk_below (g := gb634) (o := .cells #[.slice A0_0 l0_0.length c0_0] 31 (0, 0)) (zb BK634) hb); clear hb hbox hg; obtain ⟨Ao41, co41, eo41⟩ := Kd.R_slice HO641.out; subst eo41; have hnb42 := NB643_634.out; have hnc42 := NB634_643.out; have hcz43_0 : w40.cell? ⟨gb643, 0, none⟩ = some (.slice none 0 0) := (blk_cell BK643.out 0).trans rfl; have hfz43_0 := blk_frozen BK643.out 0; have hcz44_0 : w40.cell? ⟨gb634, 0, none⟩ = some (.slice A0_0 l0_0.length c0_0) := (blk_cell BK634.out 0).trans rfl; have hfz44_0 := blk_frozen BK634.out 0) | ((with_reducible refine gate_callee (f := 20) rfl ?_); refine goesL_ (some 26) rfl rfl Try.func20 (by kernel_rfl) rfl #[.agg #[.slice A0_0 l0_0.length c0_0]] rfl zl ?_; (with_reducible refine (laws_toSignature.calls k _ _ l0_0 t644 _ ?side1 ?side2 A9.out).mono ?_); (case side1 => exact Kd.C_below HR0_0.out (zB HB)); (case side2 => exact HC0_0.out); rintro e w45 ⟨v645, rfl, ho0, hb⟩; refine ⟨_, rfl, ?_⟩; have HO646 := Aside0.mk (Kd.R_lower (Kd.R_new' (Kd.R_new' ho0 (Kd.R_lt (by (with_reducible repeat (first | apply Kd.R_alloc | apply Kd.R_drewN | apply Kd.R_drew)); exact (Kd.R_mono (Kd.R_far (p := ⟨gb643, 0, none⟩) (Kd.R_types HO638.out BK643.out (by decide)) (fun _ hk => hk.2) (.slice Ao41 t639.length co41)) (fun _ h_ => h_.1))))) (Kd.R_lt (by (with_reducible repeat (first | apply Kd.R_alloc | apply Kd.R_drewN | apply Kd.R_drew)); exact (Kd.R_mono (Kd.R_far (p := ⟨gb643, 0, none⟩) (Kd.R_types HO641.out BK643.out (by decide)) (fun _ hk => hk.2) (.slice Ao41 t639.length co41)) (fun _ h_ => h_.1))))) (below_size (zB HB))); replace HO638 := Aside0.mk (Kd.R_elder' (by (with_reducible repeat (first | apply Kd.R_alloc | apply Kd.R_drewN | apply Kd.R_drew)); exact (Kd.R_mono (Kd.R_far (p := ⟨gb643, 0, none⟩) (Kd.R_types HO638.out BK643.out (by decide)) (fun _ hk => hk.2) (.slice Ao41 t639.length co41)) (fun _ h_ => h_.1))) (Kd.R_base ho0) hb); replace HO641 := Aside0.mk (Kd.R_elder' (by (with_reducible repeat (first | apply Kd.R_alloc | apply Kd.R_drewN | apply Kd.R_drew)); exact (Kd.R_mono (Kd.R_far (p := ⟨gb643, 0, none⟩) (Kd.R_types HO641.out BK643.out (by decide)) (fun _ hk => hk.2) (.slice Ao41 t639.length co41)) (fun _ h_ => h_.1))) (Kd.R_base ho0) hb); replace BK634 := Aside0.mk (blk_below (g := gb634) (o := .cells #[.slice A0_0 l0_0.length c0_0] 31 (0, 0)) (zf BK634) hb); replace BK643 := Aside0.mk (blk_below (g := gb643) (o := .cells #[.slice Ao41 t639.length co41] 25 (0, 0)) (by (with_reducible repeat (first | refine blk_drewN ?_ _ | refine blk_drew ?_ | refine blk_alloc ?_ _)); refine blk_put (cs := #[.slice none 0 0]) ?_ 0 _ rfl; (with_reducible repeat (first | refine blk_drewN ?_ _ | refine blk_drew ?_ | refine blk_alloc ?_ _)); exact BK643.out) hb); replace HB := Aside0.mk (below_step (zB HB) hb); (try clear hb); (try clear hb2); (try clear hk); (try clear hi); (try clear ho0)) | ((with_reducible refine gate_dst (N := 6) rfl ?_); refine box_event ?hg (N := 6) ?hd (cs := #[.slice none 0 0]) (t := 25) ?hr ?_; (case hd => rfl); (case hg => rfl); (case hr => first | (go_simp; done) | (go_simp; rfl)); intro gb647 hg w46 hbox hb; replace HO638 := Aside0.mk (Kd.R_below (zo HO638) hb); replace HO641 := Aside0.mk (Kd.R_below (zo HO641) hb); replace HO646 := Aside0.mk (Kd.R_below (zo HO646) hb); have BK647 := Aside0.mk (hbox); have GW647 := Aside0.mk ((by rw [hg]; exact (below_size (zB HB)) : w.heap.size ≤ gb647)); have GE647 := Aside0.mk ((by rw [hg]; exact (below_size (zB HB)) : w.heap.size ≤ gb647)); replace HB := Aside0.mk (below_step (zB HB) hb); have NB634_647 := Aside0.mk ((by rw [hg]; exact Nat.ne_of_lt (blk_lt (g := gb634) (o := .cells #[.slice A0_0 l0_0.length c0_0] 31 (0, 0)) (zb BK634)) : gb634 ≠ gb647)); have NB647_634 := Aside0.mk ((by rw [hg]; exact Nat.ne_of_gt (blk_lt (g := gb634) (o := .cells #[.slice A0_0 l0_0.length c0_0] 31 (0, 0)) (zb BK634)) : gb647 ≠ gb634)); replace BK634 := Aside0.mk (blk_below (g := gb634) (o := .cells #[.slice A0_0 l0_0.length c0_0] 31 (0, 0)) (zb BK634) hb); have NB643_647 := Aside0.mk ((by rw [hg]; exact Nat.ne_of_lt (blk_lt (g := gb643) (o := .cells #[.slice Ao41 t639.length co41] 25 (0, 0)) (zb BK643)) : gb643 ≠ gb647)); have NB647_643 := Aside0.mk ((by rw [hg]; exact Nat.ne_of_gt (blk_lt (g := gb643) (o := .cells #[.slice Ao41 t639.length co41] 25 (0, 0)) (zb BK643)) : gb647 ≠ gb643)); replace BK643 := Aside0.mk (blk_below (g := gb643) (o := .cells #[.slice Ao41 t639.length co41] 25 (0, 0)) (zb BK643) hb); clear hb hbox hg; obtain ⟨Ao47, co47, eo47⟩ := Kd.R_slice HO646.out; subst eo47; have hnb48 := NB647_634.out; have hnc48 := NB634_647.out; have hnb49 := NB647_643.out; have hnc49 := NB643_647.out; have hcz50_0 : w46.cell? ⟨gb647, 0, none⟩ = some (.slice none 0 0) := (blk_cell BK647.out 0).trans rfl; have hfz50_0 := blk_frozen BK647.out 0) | ((with_reducible refine gate_callee (f := 41) rfl ?_); refine goesL_ (some 29) rfl rfl Try.func41 (by kernel_rfl) rfl #[.agg #[.slice Ao47 t644.length co47]] rfl zl ?_; (with_reducible refine (impl_MethodSignature.calls k _ _ t644 t648 t651 _ ?side1 ?side2 A10.out).mono ?_); (case side1 => refine (Kd.R_reads' (e := 41) (base := w.heap.size) (ok := fun k_ => ((True ∧ some k_ ≠ (.slice Ao38 t636.length co38 : Value).ownBlock) ∧ some k_ ≠ (.slice Ao41 t639.length co41 : Value).ownBlock)) (n := t644.length) (c := co47) ?_).2.2; exact (by (with_reducible repeat (first | apply Kd.R_alloc | apply Kd.R_drewN | apply Kd.R_drew)); exact (Kd.R_mono (Kd.R_far (p := ⟨gb647, 0, none⟩) (Kd.R_types HO646.out BK647.out (by decide)) (fun _ hk => hk.2) (.slice Ao47 t644.length co47)) (fun _ h_ => h_.1)))); (case side2 => exact (Kd.R_reads' HO646.out).2.1); rintro e w51 ⟨v649, rfl, ho0, hb⟩; refine ⟨_, rfl, ?_⟩; have HO650 := Aside0.mk (Kd.R_lower (Kd.R_new' (Kd.R_new' (Kd.R_new' ho0 (Kd.R_lt (by (with_reducible repeat (first | apply Kd.R_alloc | apply Kd.R_drewN | apply Kd.R_drew)); exact (Kd.R_mono (Kd.R_far (p := ⟨gb647, 0, none⟩) (Kd.R_types HO638.out BK647.out (by decide)) (fun _ hk => hk.2) (.slice Ao47 t644.length co47)) (fun _ h_ => h_.1))))) (Kd.R_lt (by (with_reducible repeat (first | apply Kd.R_alloc | apply Kd.R_drewN | apply Kd.R_drew)); exact (Kd.R_mono (Kd.R_far (p := ⟨gb647, 0, none⟩) (Kd.R_types HO641.out BK647.out (by decide)) (fun _ hk => hk.2) (.slice Ao47 t644.length co47)) (fun _ h_ => h_.1))))) (Kd.R_lt (by (with_reducible repeat (first | apply Kd.R_alloc | apply Kd.R_drewN | apply Kd.R_drew)); exact (Kd.R_mono (Kd.R_far (p := ⟨gb647, 0, none⟩) (Kd.R_types HO646.out BK647.out (by decide)) (fun _ hk => hk.2) (.slice Ao47 t644.length co47)) (fun _ h_ => h_.1))))) (below_size (zB HB))); replace HO638 := Aside0.mk (Kd.R_elder' (by (with_reducible repeat (first | apply Kd.R_alloc | apply Kd.R_drewN | apply Kd.R_drew)); exact (Kd.R_mono (Kd.R_far (p := ⟨gb647, 0, none⟩) (Kd.R_types HO638.out BK647.out (by decide)) (fun _ hk => hk.2) (.slice Ao47 t644.length co47)) (fun _ h_ => h_.1))) (Kd.R_base ho0) hb); replace HO641 := Aside0.mk (Kd.R_elder' (by (with_reducible repeat (first | apply Kd.R_alloc | apply Kd.R_drewN | apply Kd.R_drew)); exact (Kd.R_mono (Kd.R_far (p := ⟨gb647, 0, none⟩) (Kd.R_types HO641.out BK647.out (by decide)) (fun _ hk => hk.2) (.slice Ao47 t644.length co47)) (fun _ h_ => h_.1))) (Kd.R_base ho0) hb); replace HO646 := Aside0.mk (Kd.R_elder' (by (with_reducible repeat (first | apply Kd.R_alloc | apply Kd.R_drewN | apply Kd.R_drew)); exact (Kd.R_mono (Kd.R_far (p := ⟨gb647, 0, none⟩) (Kd.R_types HO646.out BK647.out (by decide)) (fun _ hk => hk.2) (.slice Ao47 t644.length co47)) (fun _ h_ => h_.1))) (Kd.R_base ho0) hb); replace BK634 := Aside0.mk (blk_below (g := gb634) (o := .cells #[.slice A0_0 l0_0.length c0_0] 31 (0, 0)) (zf BK634) hb); replace BK643 := Aside0.mk (blk_below (g := gb643) (o := .cells #[.slice Ao41 t639.length co41] 25 (0, 0)) (zf BK643) hb); replace BK647 := Aside0.mk (blk_below (g := gb647) (o := .cells #[.slice Ao47 t644.length co47] 25 (0, 0)) (by (with_reducible repeat (first | refine blk_drewN ?_ _ | refine blk_drew ?_ | refine blk_alloc ?_ _)); refine blk_put (cs := #[.slice none 0 0]) ?_ 0 _ rfl; (with_reducible repeat (first | refine blk_drewN ?_ _ | refine blk_drew ?_ | refine blk_alloc ?_ _)); exact BK647.out) hb); replace HB := Aside0.mk (below_step (zB HB) hb); (try clear hb); (try clear hb2); (try clear hk); (try clear hi); (try clear ho0)) | ((with_reducible refine gate_dst (N := 7) rfl ?_); refine box_event ?hg (N := 7) ?hd (cs := #[.slice none 0 0]) (t := 25) ?hr ?_; (case hd => rfl); (case hg => rfl); (case hr => first | (go_simp; done) | (go_simp; rfl)); intro gb652 hg w52 hbox hb; replace HO638 := Aside0.mk (Kd.R_below (zo HO638) hb); replace HO641 := Aside0.mk (Kd.R_below (zo HO641) hb); replace HO646 := Aside0.mk (Kd.R_below (zo HO646) hb); replace HO650 := Aside0.mk (Kd.R_below (zo HO650) hb); have BK652 := Aside0.mk (hbox); have GW652 := Aside0.mk ((by rw [hg]; exact (below_size (zB HB)) : w.heap.size ≤ gb652)); have GE652 := Aside0.mk ((by rw [hg]; exact (below_size (zB HB)) : w.heap.size ≤ gb652)); replace HB := Aside0.mk (below_step (zB HB) hb); have NB634_652 := Aside0.mk ((by rw [hg]; exact Nat.ne_of_lt (blk_lt (g := gb634) (o := .cells #[.slice A0_0 l0_0.length c0_0] 31 (0, 0)) (zb BK634)) : gb634 ≠ gb652)); have NB652_634 := Aside0.mk ((by rw [hg]; exact Nat.ne_of_gt (blk_lt (g := gb634) (o := .cells #[.slice A0_0 l0_0.length c0_0] 31 (0, 0)) (zb BK634)) : gb652 ≠ gb634)); replace BK634 := Aside0.mk (blk_below (g := gb634) (o := .cells #[.slice A0_0 l0_0.length c0_0] 31 (0, 0)) (zb BK634) hb); have NB643_652 := Aside0.mk ((by rw [hg]; exact Nat.ne_of_lt (blk_lt (g := gb643) (o := .cells #[.slice Ao41 t639.length co41] 25 (0, 0)) (zb BK643)) : gb643 ≠ gb652)); have NB652_643 := Aside0.mk ((by rw [hg]; exact Nat.ne_of_gt (blk_lt (g := gb643) (o := .cells #[.slice Ao41 t639.length co41] 25 (0, 0)) (zb BK643)) : gb652 ≠ gb643)); replace BK643 := Aside0.mk (blk_below (g := gb643) (o := .cells #[.slice Ao41 t639.length co41] 25 (0, 0)) (zb BK643) hb); have NB647_652 := Aside0.mk ((by rw [hg]; exact Nat.ne_of_lt (blk_lt (g := gb647) (o := .cells #[.slice Ao47 t644.length co47] 25 (0, 0)) (zb BK647)) : gb647 ≠ gb652)); have NB652_647 := Aside0.mk ((by rw [hg]; exact Nat.ne_of_gt (blk_lt (g := gb647) (o := .cells #[.slice Ao47 t644.length co47] 25 (0, 0)) (zb BK647)) : gb652 ≠ gb647)); replace BK647 := Aside0.mk (blk_below (g := gb647) (o := .cells #[.slice Ao47 t644.length co47] 25 (0, 0)) (zb BK647) hb); clear hb hbox hg; obtain ⟨Ao53, co53, eo53⟩ := Kd.R_slice HO650.out; subst eo53; have hnb54 := NB652_634.out; have hnc54 := NB634_652.out; have hnb55 := NB652_643.out; have hnc55 := NB643_652.out; have hnb56 := NB652_647.out; have hnc56 := NB647_652.out; have hcz57_0 : w52.cell? ⟨gb652, 0, none⟩ = some (.slice none 0 0) := (blk_cell BK652.out 0).trans rfl; have hfz57_0 := blk_frozen BK652.out 0; have hcz58_0 : w52.cell? ⟨gb643, 0, none⟩ = some (.slice Ao41 t639.length co41) := (blk_cell BK643.out 0).trans rfl; have hfz58_0 := blk_frozen BK643.out 0) | ((with_reducible refine gate_callee (f := 22) rfl ?_); refine goesL_ (some 34) rfl rfl Try.func22 (by kernel_rfl) rfl #[.agg #[.slice Ao53 t648.length co53], .agg #[.slice Ao41 t639.length co41]] rfl zl ?_; (with_reducible refine (laws_eqSignature.calls k _ _ t648 _ _ t639 true _ ?side1 ?side2 ?side3 ?side4 A11.out).mono ?_); (case side1 => refine (Kd.R_reads' (e := 41) (base := w.heap.size) (ok := fun k_ => (((True ∧ some k_ ≠ (.slice Ao38 t636.length co38 : Value).ownBlock) ∧ some k_ ≠ (.slice Ao41 t639.length co41 : Value).ownBlock) ∧ some k_ ≠ (.slice Ao47 t644.length co47 : Value).ownBlock)) (n := t648.length) (c := co53) ?_).2.2; exact (by (with_reducible repeat (first | apply Kd.R_alloc | apply Kd.R_drewN | apply Kd.R_drew)); exact (Kd.R_mono (Kd.R_far (p := ⟨gb652, 0, none⟩) (Kd.R_types HO650.out BK652.out (by decide)) (fun _ hk => hk.2) (.slice Ao53 t648.length co53)) (fun _ h_ => h_.1)))); (case side2 => exact (Kd.R_reads' HO650.out).2.1); (case side3 => refine (Kd.R_reads' (e := 41) (base := w.heap.size) (ok := fun k_ => (((True ∧ some k_ ≠ (.slice Ao38 t636.length co38 : Value).ownBlock) ∧ some k_ ≠ (.slice Ao47 t644.length co47 : Value).ownBlock) ∧ some k_ ≠ (.slice Ao53 t648.length co53 : Value).ownBlock)) (n := t639.length) (c := co41) ?_).2.2; exact (by (with_reducible repeat (first | apply Kd.R_alloc | apply Kd.R_drewN | apply Kd.R_drew)); exact (Kd.R_mono (Kd.R_far (p := ⟨gb652, 0, none⟩) (Kd.R_types HO641.out BK652.out (by decide)) (fun _ hk => hk.2) (.slice Ao53 t648.length co53)) (fun _ h_ => h_.1)))); (case side4 => exact (Kd.R_reads' HO641.out).2.1); rintro e w59 ⟨rfl, hb⟩; refine ⟨_, rfl, ?_⟩; replace HO638 := Aside0.mk (Kd.R_below (by (with_reducible repeat (first | apply Kd.R_alloc | apply Kd.R_drewN | apply Kd.R_drew)); exact (Kd.R_mono (Kd.R_far (p := ⟨gb652, 0, none⟩) (Kd.R_types HO638.out BK652.out (by decide)) (fun _ hk => hk.2) (.slice Ao53 t648.length co53)) (fun _ h_ => h_.1))) hb); replace HO641 := Aside0.mk (Kd.R_below (by (with_reducible repeat (first | apply Kd.R_alloc | apply Kd.R_drewN | apply Kd.R_drew)); exact (Kd.R_mono (Kd.R_far (p := ⟨gb652, 0, none⟩) (Kd.R_types HO641.out BK652.out (by decide)) (fun _ hk => hk.2) (.slice Ao53 t648.length co53)) (fun _ h_ => h_.1))) hb); replace HO646 := Aside0.mk (Kd.R_below (by (with_reducible repeat (first | apply Kd.R_alloc | apply Kd.R_drewN | apply Kd.R_drew)); exact (Kd.R_mono (Kd.R_far (p := ⟨gb652, 0, none⟩) (Kd.R_types HO646.out BK652.out (by decide)) (fun _ hk => hk.2) (.slice Ao53 t648.length co53)) (fun _ h_ => h_.1))) hb); replace HO650 := Aside0.mk (Kd.R_below (by (with_reducible repeat (first | apply Kd.R_alloc | apply Kd.R_drewN | apply Kd.R_drew)); exact (Kd.R_mono (Kd.R_far (p := ⟨gb652, 0, none⟩) (Kd.R_types HO650.out BK652.out (by decide)) (fun _ hk => hk.2) (.slice Ao53 t648.length co53)) (fun _ h_ => h_.1))) hb); replace BK634 := Aside0.mk (blk_below (g := gb634) (o := .cells #[.slice A0_0 l0_0.length c0_0] 31 (0, 0)) (zf BK634) hb); replace BK643 := Aside0.mk (blk_below (g := gb643) (o := .cells #[.slice Ao41 t639.length co41] 25 (0, 0)) (zf BK643) hb); replace BK647 := Aside0.mk (blk_below (g := gb647) (o := .cells #[.slice Ao47 t644.length co47] 25 (0, 0)) (zf BK647) hb); replace BK652 := Aside0.mk (blk_below (g := gb652) (o := .cells #[.slice Ao53 t648.length co53] 25 (0, 0)) (by (with_reducible repeat (first | refine blk_drewN ?_ _ | refine blk_drew ?_ | refine blk_alloc ?_ _)); refine blk_put (cs := #[.slice none 0 0]) ?_ 0 _ rfl; (with_reducible repeat (first | refine blk_drewN ?_ _ | refine blk_drew ?_ | refine blk_alloc ?_ _)); exact BK652.out) hb); replace HB := Aside0.mk (below_step (zB HB) hb); (try clear hb); (try clear hb2); (try clear hk); (try clear hi)))
             replace HO638 := Aside0.mk (Kd.R_drew HO638.out)
             replace HO641 := Aside0.mk (Kd.R_drew HO641.out)
             replace HO646 := Aside0.mk (Kd.R_drew HO646.out)
             replace HO650 := Aside0.mk (Kd.R_drew HO650.out)
             replace BK634 := Aside0.mk (blk_drew BK634.out)
             replace BK643 := Aside0.mk (blk_drew BK643.out)
             replace BK647 := Aside0.mk (blk_drew BK647.out)
             replace BK652 := Aside0.mk (blk_drew BK652.out)
             replace HB := Aside0.mk (below_drew1 HB.out)
             refine start_ (n := 5) (S := fun w' => w'.cell? ⟨gb647, 0, none⟩ = some (.slice Ao47 t644.length co47) ∧ w'.cell? ⟨gb634, 0, none⟩ = some (.slice A0_0 l0_0.length c0_0)) (ds := []) #[false, false, false, false, false] (by kernel_rfl) rfl rfl ⟨(blk_cell BK647.out 0).trans rfl, (blk_cell BK634.out 0).trans rfl⟩ (fun hHeld => ?_)
             generalize w59.drew = w60 at HO638 HO641 HO646 HO650 BK634 BK643 BK647 BK652 HB hHeld ⊢
             refine take_ (i := 0) (N := some 41) (v := ?_) (a' := ?_) #[true, false, false, false, false] rfl rfl (by kernel_rfl) (fun _ _ _ h => h) (Or.inl ⟨by rfl, ?_⟩) hHeld ?_ ?_
             rotate_left
             ·rintro w' ⟨s0, s1⟩
              go_simp
              with_reducible rfl
             rotate_left
             ·simp only [Act.put, List.setIfInBounds_toArray, List.set_cons_zero, List.set_cons_succ, i64_w, i32_w]
              rfl
             refine take_ (i := 1) (N := some 42) (v := ?_) (a' := ?_) #[true, true, false, false, false] rfl rfl (by kernel_rfl) (fun _ _ _ h => h) (Or.inl ⟨by rfl, ?_⟩) hHeld ?_ ?_
             rotate_left
             ·rintro w' ⟨s0, s1⟩
              go_simp
              with_reducible rfl
             rotate_left
             ·simp only [Act.put, List.setIfInBounds_toArray, List.set_cons_zero, List.set_cons_succ, i64_w, i32_w]
              rfl
             refine one_ (i := 2) (N := some 43) #[true, true, true, false, false] rfl rfl (by kernel_rfl) (by decide) (fun K hK => ?_)
             refine goes_ Try.func20 (by kernel_rfl) rfl #[.agg #[.slice A0_0 l0_0.length c0_0]] (by rfl) rfl rfl zl ?_
             with_reducible refine (laws_toSignature.calls k _ _ l0_0 t654 _ ?side1 ?side2 A14.out).mono ?_
             (case side1 => repeat (first | exact (Kd.C_below HR0_0.out HB.out) | (with_reducible refine Kd.C_alloc ?_ _) | (with_reducible refine Kd.C_drewN ?_ _) | (with_reducible refine Kd.C_drew ?_)))
             (case side2 => exact HC0_0.out)
             rintro e w61 ⟨v655, rfl, ho0, hb⟩
             refine ⟨_, rfl, ?_⟩
             have HO656 := Aside0.mk (Kd.R_lower (Kd.R_new' (Kd.R_new' (Kd.R_new' (Kd.R_new' ho0 (Kd.R_lt (zo HO638))) (Kd.R_lt (zo HO641))) (Kd.R_lt (zo HO646))) (Kd.R_lt (zo HO650))) (below_size (zB HB)))
             replace HO638 := Aside0.mk (Kd.R_elder' (zo HO638) (Kd.R_base ho0) hb)
             replace HO641 := Aside0.mk (Kd.R_elder' (zo HO641) (Kd.R_base ho0) hb)
             replace HO646 := Aside0.mk (Kd.R_elder' (zo HO646) (Kd.R_base ho0) hb)
             replace HO650 := Aside0.mk (Kd.R_elder' (zo HO650) (Kd.R_base ho0) hb)
             replace BK634 := Aside0.mk (blk_below (g := gb634) (o := .cells #[.slice A0_0 l0_0.length c0_0] 31 (0, 0)) (zb BK634) hb)
             replace BK643 := Aside0.mk (blk_below (g := gb643) (o := .cells #[.slice Ao41 t639.length co41] 25 (0, 0)) (zb BK643) hb)
             replace BK647 := Aside0.mk (blk_below (g := gb647) (o := .cells #[.slice Ao47 t644.length co47] 25 (0, 0)) (zb BK647) hb)
             replace BK652 := Aside0.mk (blk_below (g := gb652) (o := .cells #[.slice Ao53 t648.length co53] 25 (0, 0)) (zb BK652) hb)
             replace HB := Aside0.mk (below_step (zB HB) hb)
             (try clear hb)
             (try clear hb2)
             (try clear hk)
             (try clear hi)
             (try clear ho0)
             obtain ⟨Ao62, co62, eo62⟩ := Kd.R_slice HO656.out
             (first | subst eo62 | (injection eo62 with f1_ f2_ f3_; have f4_ := f1_.symm; have f5_ := f3_.symm; clear f1_ f2_ f3_; subst f4_; subst f5_))
             refine hK.out _ _ ⟨(blk_cell BK647.out 0).trans rfl, (blk_cell BK634.out 0).trans rfl⟩ (fun hHeld => ?_)
             clear hK K
             refine norm_ (a' := ?_) ?_ ?_
             rotate_left
             ·show Act.put _ (some 43) _ = _
              simp only [Act.put, List.setIfInBounds_toArray, List.set_cons_zero, List.set_cons_succ, i64_w, i32_w]
              rfl
             refine one_ (i := 3) (N := some 44) #[true, true, true, true, false] rfl rfl (by kernel_rfl) (by decide) (fun K hK => ?_)
             refine goes_ Try.func22 (by kernel_rfl) rfl #[.agg #[.slice Ao47 t644.length co47], .agg #[.slice Ao62 t654.length co62]] (by rfl) rfl rfl zl ?_
             with_reducible refine (laws_eqSignature.calls k _ _ t644 _ _ t654 true _ ?side1 ?side2 ?side3 ?side4 A15.out).mono ?_
             (case side1 => repeat (first | exact (Kd.R_reads' HO646.out).2.2 | (with_reducible refine Kd.C_alloc ?_ _) | (with_reducible refine Kd.C_drewN ?_ _) | (with_reducible refine Kd.C_drew ?_)))
             (case side2 => exact (Kd.R_reads' HO646.out).2.1)
             (case side3 => repeat (first | exact (Kd.R_reads' HO656.out).2.2 | (with_reducible refine Kd.C_alloc ?_ _) | (with_reducible refine Kd.C_drewN ?_ _) | (with_reducible refine Kd.C_drew ?_)))
             (case side4 => exact (Kd.R_reads' HO656.out).2.1)
             rintro e w63 ⟨rfl, hb⟩
             refine ⟨_, rfl, ?_⟩
             replace HO638 := Aside0.mk (Kd.R_below (zo HO638) hb)
             replace HO641 := Aside0.mk (Kd.R_below (zo HO641) hb)
             replace HO646 := Aside0.mk (Kd.R_below (zo HO646) hb)
             replace HO650 := Aside0.mk (Kd.R_below (zo HO650) hb)
             replace HO656 := Aside0.mk (Kd.R_below (zo HO656) hb)
             replace BK634 := Aside0.mk (blk_below (g := gb634) (o := .cells #[.slice A0_0 l0_0.length c0_0] 31 (0, 0)) (zb BK634) hb)
             replace BK643 := Aside0.mk (blk_below (g := gb643) (o := .cells #[.slice Ao41 t639.length co41] 25 (0, 0)) (zb BK643) hb)
             replace BK647 := Aside0.mk (blk_below (g := gb647) (o := .cells #[.slice Ao47 t644.length co47] 25 (0, 0)) (zb BK647) hb)
             replace BK652 := Aside0.mk (blk_below (g := gb652) (o := .cells #[.slice Ao53 t648.length co53] 25 (0, 0)) (zb BK652) hb)
             replace HB := Aside0.mk (below_step (zB HB) hb)
             (try clear hb)
             (try clear hb2)
             (try clear hk)
             (try clear hi)
             refine hK.out _ _ ⟨(blk_cell BK647.out 0).trans rfl, (blk_cell BK634.out 0).trans rfl⟩ (fun hHeld => ?_)
             clear hK K
             refine norm_ (a' := ?_) ?_ ?_
             rotate_left
             ·show Act.put _ (some 44) _ = _
              simp only [Act.put, List.setIfInBounds_toArray, List.set_cons_zero, List.set_cons_succ, i64_w, i32_w]
              rfl
             refine pure_ (i := 4) (N := some 45) (v := ?_) (a' := ?_) #[true, true, true, true, true] rfl rfl (by kernel_rfl) (fun _ _ _ h => h) (Or.inl ⟨by rfl, ?_⟩) ?_ ?_
             rotate_left
             ·intro w'
              go_simp
              with_reducible rfl
             rotate_left
             ·simp only [Act.put, List.setIfInBounds_toArray, List.set_cons_zero, List.set_cons_succ, i64_w, i32_w]
              rfl
             refine done_ (by kernel_rfl) ?_
             have hcz64_0 : w63.cell? ⟨gb647, 0, none⟩ = some (.slice Ao47 t644.length co47) := (blk_cell BK647.out 0).trans rfl
             have hfz64_0 := blk_frozen BK647.out 0
             try go_wp2_with (first | ((with_reducible refine gate_callee (f := 37) rfl ?_); refine goesL_ (some 48) rfl rfl Try.func37 (by kernel_rfl) rfl #[.agg #[.slice Ao47 t644.length co47], .int .i64 1] rfl zl ?_; (with_reducible refine (laws_markSignature.calls k (fun k_ => some k_ = (.slice Ao47 t644.length co47 : Value).ownBlock) (.slice Ao47 t644.length co47) t644 1 t658 t659 w _ ?side1 ?side2 A17.out).mono ?_); (case side1 => exact zB HB); (case side2 => exact Kd.R_tight rfl HO646.out); rintro e w65 ⟨rfl, hy0, hb, hkp⟩; refine ⟨_, rfl, ?_⟩; replace BK634 := Aside0.mk (blk_kept (zb BK634) hkp (fun hs_ => (fun e_ => (Kd.R_ne HO646.out BK634.out (by decide)) e_) hs_)); replace HO638 := Aside0.mk (Kd.R_mono (ok' := fun k_ => some k_ ≠ (.slice Ao41 t639.length co41 : Value).ownBlock ∧ some k_ ≠ (.slice Ao47 t644.length co47 : Value).ownBlock ∧ some k_ ≠ (.slice Ao53 t648.length co53 : Value).ownBlock ∧ some k_ ≠ (.slice Ao62 t654.length co62 : Value).ownBlock) (Kd.R_keptB (HO638.out) hkp (fun k_ hk_ hs_ => by first | exact (hk_.1.1.2) hs_ | (revert hk_; (try simp only [and_imp]); intros; simp_all))) (fun k_ hk_ => by first | exact ⟨hk_.1.1.1.1.2, hk_.1.1.1.2, hk_.1.1.2, hk_.1.2⟩ | (revert hk_; (try simp only [and_imp]); intros; (repeat' (first | assumption | constructor))))); replace HO641 := Aside0.mk (Kd.R_mono (ok' := fun k_ => some k_ ≠ (.slice Ao38 t636.length co38 : Value).ownBlock ∧ some k_ ≠ (.slice Ao47 t644.length co47 : Value).ownBlock ∧ some k_ ≠ (.slice Ao53 t648.length co53 : Value).ownBlock ∧ some k_ ≠ (.slice Ao62 t654.length co62 : Value).ownBlock) (Kd.R_keptB (HO641.out) hkp (fun k_ hk_ hs_ => by first | exact (hk_.1.1.2) hs_ | (revert hk_; (try simp only [and_imp]); intros; simp_all))) (fun k_ hk_ => by first | exact ⟨hk_.1.1.1.1.2, hk_.1.1.1.2, hk_.1.1.2, hk_.1.2⟩ | (revert hk_; (try simp only [and_imp]); intros; (repeat' (first | assumption | constructor))))); replace BK643 := Aside0.mk (blk_kept (zb BK643) hkp (fun hs_ => (fun e_ => (Kd.R_ne HO646.out BK643.out (by decide)) e_) hs_)); replace BK647 := Aside0.mk (blk_kept (zb BK647) hkp (fun hs_ => (fun e_ => (Kd.R_ne HO646.out BK647.out (by decide)) e_) hs_)); replace HO650 := Aside0.mk (Kd.R_mono (ok' := fun k_ => some k_ ≠ (.slice Ao38 t636.length co38 : Value).ownBlock ∧ some k_ ≠ (.slice Ao41 t639.length co41 : Value).ownBlock ∧ some k_ ≠ (.slice Ao47 t644.length co47 : Value).ownBlock ∧ some k_ ≠ (.slice Ao62 t654.length co62 : Value).ownBlock) (Kd.R_keptB (HO650.out) hkp (fun k_ hk_ hs_ => by first | exact (hk_.1.2) hs_ | (revert hk_; (try simp only [and_imp]); intros; simp_all))) (fun k_ hk_ => by first | exact ⟨hk_.1.1.1.1.2, hk_.1.1.1.2, hk_.1.1.2, hk_.1.2⟩ | (revert hk_; (try simp only [and_imp]); intros; (repeat' (first | assumption | constructor))))); replace BK652 := Aside0.mk (blk_kept (zb BK652) hkp (fun hs_ => (fun e_ => (Kd.R_ne HO646.out BK652.out (by decide)) e_) hs_)); replace HO646 := Aside0.mk (Kd.R_reok rfl hy0 (fun k_ e_ => HO646.out.1 k_ e_)); replace HO656 := Aside0.mk (Kd.R_mono (ok' := fun k_ => some k_ ≠ (.slice Ao38 t636.length co38 : Value).ownBlock ∧ some k_ ≠ (.slice Ao41 t639.length co41 : Value).ownBlock ∧ some k_ ≠ (.slice Ao47 t644.length co47 : Value).ownBlock ∧ some k_ ≠ (.slice Ao53 t648.length co53 : Value).ownBlock) (Kd.R_keptB (HO656.out) hkp (fun k_ hk_ hs_ => by first | exact (hk_.1.2) hs_ | (revert hk_; (try simp only [and_imp]); intros; simp_all))) (fun k_ hk_ => by first | exact ⟨hk_.1.1.1.1.2, hk_.1.1.1.2, hk_.1.1.2, hk_.1.2⟩ | (revert hk_; (try simp only [and_imp]); intros; (repeat' (first | assumption | constructor))))); replace HB := Aside0.mk (hb); (try clear hb); (try clear hkp); (try clear hy0); have hcz66_0 : w65.cell? ⟨gb652, 0, none⟩ = some (.slice Ao53 t648.length co53) := (blk_cell BK652.out 0).trans rfl; have hfz66_0 := blk_frozen BK652.out 0; have hcz67_0 : w65.cell? ⟨gb643, 0, none⟩ = some (.slice Ao41 t639.length co41) := (blk_cell BK643.out 0).trans rfl; have hfz67_0 := blk_frozen BK643.out 0) | (go_at_call 22; (with_reducible refine (laws_eqSignature.calls k _ _ t648 _ _ t639 true _ ?side1 ?side2 ?side3 ?side4 A19.out).mono ?_); (case side1 => repeat (first | exact (Kd.R_reads' HO650.out).2.2 | (with_reducible refine Kd.C_alloc ?_ _) | (with_reducible refine Kd.C_drewN ?_ _) | (with_reducible refine Kd.C_drew ?_))); (case side2 => exact (Kd.R_reads' HO650.out).2.1); (case side3 => repeat (first | exact (Kd.R_reads' HO641.out).2.2 | (with_reducible refine Kd.C_alloc ?_ _) | (with_reducible refine Kd.C_drewN ?_ _) | (with_reducible refine Kd.C_drew ?_))); (case side4 => exact (Kd.R_reads' HO641.out).2.1); rintro e w68 ⟨rfl, hb⟩; replace HO638 := Aside0.mk (Kd.R_below (zo HO638) hb); replace HO641 := Aside0.mk (Kd.R_below (zo HO641) hb); replace HO646 := Aside0.mk (Kd.R_below (zo HO646) hb); replace HO650 := Aside0.mk (Kd.R_below (zo HO650) hb); replace HO656 := Aside0.mk (Kd.R_below (zo HO656) hb); replace BK634 := Aside0.mk (blk_below (g := gb634) (o := .cells #[.slice A0_0 l0_0.length c0_0] 31 (0, 0)) (zb BK634) hb); replace BK643 := Aside0.mk (blk_below (g := gb643) (o := .cells #[.slice Ao41 t639.length co41] 25 (0, 0)) (zb BK643) hb); replace BK647 := Aside0.mk (blk_below (g := gb647) (o := .cells #[.slice Ao47 t644.length co47] 25 (0, 0)) (zb BK647) hb); replace BK652 := Aside0.mk (blk_below (g := gb652) (o := .cells #[.slice Ao53 t648.length co53] 25 (0, 0)) (zb BK652) hb); replace HB := Aside0.mk (below_step (zB HB) hb); (try clear hb); (try clear hb2); (try clear hk); (try clear hi); have hcz69_0 : w68.cell? ⟨gb652, 0, none⟩ = some (.slice Ao53 t648.length co53) := (blk_cell BK652.out 0).trans rfl; have hfz69_0 := blk_frozen BK652.out 0) | ((with_reducible refine gate_callee (f := 37) rfl ?_); refine goesL_ (some 64) rfl rfl Try.func37 (by kernel_rfl) rfl #[.agg #[.slice Ao53 t648.length co53], .int .i64 1] rfl zl ?_; (with_reducible refine (laws_markSignature.calls k (fun k_ => some k_ = (.slice Ao53 t648.length co53 : Value).ownBlock) (.slice Ao53 t648.length co53) t648 1 t661 t662 w _ ?side1 ?side2 A21.out).mono ?_); (case side1 => exact zB HB); (case side2 => exact Kd.R_tight rfl HO650.out); rintro e w70 ⟨rfl, hy0, hb, hkp⟩; refine ⟨_, rfl, ?_⟩; replace BK634 := Aside0.mk (blk_kept (zb BK634) hkp (fun hs_ => (fun e_ => (Kd.R_ne HO650.out BK634.out (by decide)) e_) hs_)); replace HO638 := Aside0.mk (Kd.R_mono (ok' := fun k_ => some k_ ≠ (.slice Ao41 t639.length co41 : Value).ownBlock ∧ some k_ ≠ (.slice Ao47 t644.length co47 : Value).ownBlock ∧ some k_ ≠ (.slice Ao53 t648.length co53 : Value).ownBlock ∧ some k_ ≠ (.slice Ao62 t654.length co62 : Value).ownBlock) (Kd.R_keptB (HO638.out) hkp (fun k_ hk_ hs_ => by first | exact (hk_.2.2.1) hs_ | (revert hk_; (try simp only [and_imp]); intros; simp_all))) (fun k_ hk_ => by first | exact ⟨hk_.1.1, hk_.1.2.1, hk_.1.2.2.1, hk_.1.2.2.2⟩ | (revert hk_; (try simp only [and_imp]); intros; (repeat' (first | assumption | constructor))))); replace HO641 := Aside0.mk (Kd.R_mono (ok' := fun k_ => some k_ ≠ (.slice Ao38 t636.length co38 : Value).ownBlock ∧ some k_ ≠ (.slice Ao47 t644.length co47 : Value).ownBlock ∧ some k_ ≠ (.slice Ao53 t648.length co53 : Value).ownBlock ∧ some k_ ≠ (.slice Ao62 t654.length co62 : Value).ownBlock) (Kd.R_keptB (HO641.out) hkp (fun k_ hk_ hs_ => by first | exact (hk_.2.2.1) hs_ | (revert hk_; (try simp only [and_imp]); intros; simp_all))) (fun k_ hk_ => by first | exact ⟨hk_.1.1, hk_.1.2.1, hk_.1.2.2.1, hk_.1.2.2.2⟩ | (revert hk_; (try simp only [and_imp]); intros; (repeat' (first | assumption | constructor))))); replace BK643 := Aside0.mk (blk_kept (zb BK643) hkp (fun hs_ => (fun e_ => (Kd.R_ne HO650.out BK643.out (by decide)) e_) hs_)); replace HO646 := Aside0.mk (Kd.R_mono (ok' := fun k_ => some k_ ≠ (.slice Ao38 t636.length co38 : Value).ownBlock ∧ some k_ ≠ (.slice Ao41 t639.length co41 : Value).ownBlock ∧ some k_ ≠ (.slice Ao53 t648.length co53 : Value).ownBlock ∧ some k_ ≠ (.slice Ao62 t654.length co62 : Value).ownBlock) (Kd.R_keptB (HO646.out) hkp (fun k_ hk_ hs_ => by first | exact (hk_.1.2) hs_ | (revert hk_; (try simp only [and_imp]); intros; simp_all))) (fun k_ hk_ => by first | exact ⟨hk_.1.1.1.1.2, hk_.1.1.1.2, hk_.1.1.2, hk_.1.2⟩ | (revert hk_; (try simp only [and_imp]); intros; (repeat' (first | assumption | constructor))))); replace BK647 := Aside0.mk (blk_kept (zb BK647) hkp (fun hs_ => (fun e_ => (Kd.R_ne HO650.out BK647.out (by decide)) e_) hs_)); replace BK652 := Aside0.mk (blk_kept (zb BK652) hkp (fun hs_ => (fun e_ => (Kd.R_ne HO650.out BK652.out (by decide)) e_) hs_)); replace HO650 := Aside0.mk (Kd.R_reok rfl hy0 (fun k_ e_ => HO650.out.1 k_ e_)); replace HO656 := Aside0.mk (Kd.R_mono (ok' := fun k_ => some k_ ≠ (.slice Ao38 t636.length co38 : Value).ownBlock ∧ some k_ ≠ (.slice Ao41 t639.length co41 : Value).ownBlock ∧ some k_ ≠ (.slice Ao47 t644.length co47 : Value).ownBlock ∧ some k_ ≠ (.slice Ao53 t648.length co53 : Value).ownBlock) (Kd.R_keptB (HO656.out) hkp (fun k_ hk_ hs_ => by first | exact (hk_.2.2.2) hs_ | (revert hk_; (try simp only [and_imp]); intros; simp_all))) (fun k_ hk_ => by first | exact ⟨hk_.1.1, hk_.1.2.1, hk_.1.2.2.1, hk_.1.2.2.2⟩ | (revert hk_; (try simp only [and_imp]); intros; (repeat' (first | assumption | constructor))))); replace HB := Aside0.mk (hb); (try clear hb); (try clear hkp); (try clear hy0); have hcz71_0 : w70.cell? ⟨gb652, 0, none⟩ = some (.slice Ao53 t648.length co53) := (blk_cell BK652.out 0).trans rfl; have hfz71_0 := blk_frozen BK652.out 0) | ((with_reducible refine gate_callee (f := 42) rfl ?_); refine goesL_ (some 67) rfl rfl Try.func42 (by kernel_rfl) rfl #[.agg #[.slice Ao53 t662.length co53], .int .i64 1] rfl (by (try simp only [List.map_toArray, List.map_cons, List.map_nil]); first | done | (rw [show t662.length = t648.length from (Kd.R_reads' HO650.out).1.symm] <;> rfl) | rfl | (simp only [List.length_drop, List.length_take]; rfl)) ?_; (with_reducible refine (laws_heldSignature.calls k _ _ t662 1 t663 _ ?side1 ?side2 A22.out).mono ?_); (case side1 => repeat (first | exact (Kd.R_reads' HO650.out).2.2 | (with_reducible refine Kd.C_alloc ?_ _) | (with_reducible refine Kd.C_drewN ?_ _) | (with_reducible refine Kd.C_drew ?_))); (case side2 => rw [show t662.length = t648.length from (Kd.R_reads' HO650.out).1.symm]; exact (Kd.R_reads' HO650.out).2.1); rintro e w72 ⟨rfl, hb⟩; refine ⟨_, rfl, ?_⟩; replace HO638 := Aside0.mk (Kd.R_below (zo HO638) hb); replace HO641 := Aside0.mk (Kd.R_below (zo HO641) hb); replace HO646 := Aside0.mk (Kd.R_below (zo HO646) hb); replace HO650 := Aside0.mk (Kd.R_below (zo HO650) hb); replace HO656 := Aside0.mk (Kd.R_below (zo HO656) hb); replace BK634 := Aside0.mk (blk_below (g := gb634) (o := .cells #[.slice A0_0 l0_0.length c0_0] 31 (0, 0)) (zb BK634) hb); replace BK643 := Aside0.mk (blk_below (g := gb643) (o := .cells #[.slice Ao41 t639.length co41] 25 (0, 0)) (zb BK643) hb); replace BK647 := Aside0.mk (blk_below (g := gb647) (o := .cells #[.slice Ao47 t644.length co47] 25 (0, 0)) (zb BK647) hb); replace BK652 := Aside0.mk (blk_below (g := gb652) (o := .cells #[.slice Ao53 t648.length co53] 25 (0, 0)) (zb BK652) hb); replace HB := Aside0.mk (below_step (zB HB) hb); (try clear hb); (try clear hb2); (try clear hk); (try clear hi); have hcz73_0 : w72.cell? ⟨gb634, 0, none⟩ = some (.slice A0_0 l0_0.length c0_0) := (blk_cell BK634.out 0).trans rfl; have hfz73_0 := blk_frozen BK634.out 0) | ((with_reducible refine gate_callee (f := 20) rfl ?_); refine goesL_ (some 75) rfl rfl Try.func20 (by kernel_rfl) rfl #[.agg #[.slice A0_0 l0_0.length c0_0]] rfl zl ?_; (with_reducible refine (laws_toSignature.calls k _ _ l0_0 t664 _ ?side1 ?side2 A25.out).mono ?_); (case side1 => repeat (first | exact (Kd.C_below HR0_0.out HB.out) | (with_reducible refine Kd.C_alloc ?_ _) | (with_reducible refine Kd.C_drewN ?_ _) | (with_reducible refine Kd.C_drew ?_))); (case side2 => exact HC0_0.out); rintro e w74 ⟨v665, rfl, ho0, hb⟩; refine ⟨_, rfl, ?_⟩; have HO666 := Aside0.mk (Kd.R_lower (Kd.R_new' (Kd.R_new' (Kd.R_new' (Kd.R_new' (Kd.R_new' ho0 (Kd.R_lt (zo HO638))) (Kd.R_lt (zo HO641))) (Kd.R_lt (zo HO646))) (Kd.R_lt (zo HO650))) (Kd.R_lt (zo HO656))) (below_size (zB HB))); replace HO638 := Aside0.mk (Kd.R_elder' (zo HO638) (Kd.R_base ho0) hb); replace HO641 := Aside0.mk (Kd.R_elder' (zo HO641) (Kd.R_base ho0) hb); replace HO646 := Aside0.mk (Kd.R_elder' (zo HO646) (Kd.R_base ho0) hb); replace HO650 := Aside0.mk (Kd.R_elder' (zo HO650) (Kd.R_base ho0) hb); replace HO656 := Aside0.mk (Kd.R_elder' (zo HO656) (Kd.R_base ho0) hb); replace BK634 := Aside0.mk (blk_below (g := gb634) (o := .cells #[.slice A0_0 l0_0.length c0_0] 31 (0, 0)) (zb BK634) hb); replace BK643 := Aside0.mk (blk_below (g := gb643) (o := .cells #[.slice Ao41 t639.length co41] 25 (0, 0)) (zb BK643) hb); replace BK647 := Aside0.mk (blk_below (g := gb647) (o := .cells #[.slice Ao47 t644.length co47] 25 (0, 0)) (zb BK647) hb); replace BK652 := Aside0.mk (blk_below (g := gb652) (o := .cells #[.slice Ao53 t648.length co53] 25 (0, 0)) (zb BK652) hb); replace HB := Aside0.mk (below_step (zB HB) hb); (try clear hb); (try clear hb2); (try clear hk); (try clear hi); (try clear ho0); obtain ⟨Ao75, co75, eo75⟩ := Kd.R_slice HO666.out; subst eo75) | ((with_reducible refine gate_callee (f := 41) rfl ?_); refine goesL_ (some 76) rfl rfl Try.func41 (by kernel_rfl) rfl #[.agg #[.slice Ao75 t664.length co75]] rfl zl ?_; (with_reducible refine (impl_MethodSignature.calls k _ _ t664 t667 t670 _ ?side1 ?side2 A26.out).mono ?_); (case side1 => repeat (first | exact (Kd.R_reads' HO666.out).2.2 | (with_reducible refine Kd.C_alloc ?_ _) | (with_reducible refine Kd.C_drewN ?_ _) | (with_reducible refine Kd.C_drew ?_))); (case side2 => exact (Kd.R_reads' HO666.out).2.1); rintro e w76 ⟨v668, rfl, ho0, hb⟩; refine ⟨_, rfl, ?_⟩; have HO669 := Aside0.mk (Kd.R_lower (Kd.R_new' (Kd.R_new' (Kd.R_new' (Kd.R_new' (Kd.R_new' (Kd.R_new' ho0 (Kd.R_lt (zo HO638))) (Kd.R_lt (zo HO641))) (Kd.R_lt (zo HO646))) (Kd.R_lt (zo HO650))) (Kd.R_lt (zo HO656))) (Kd.R_lt (zo HO666))) (below_size (zB HB))); replace HO638 := Aside0.mk (Kd.R_elder' (zo HO638) (Kd.R_base ho0) hb); replace HO641 := Aside0.mk (Kd.R_elder' (zo HO641) (Kd.R_base ho0) hb); replace HO646 := Aside0.mk (Kd.R_elder' (zo HO646) (Kd.R_base ho0) hb); replace HO650 := Aside0.mk (Kd.R_elder' (zo HO650) (Kd.R_base ho0) hb); replace HO656 := Aside0.mk (Kd.R_elder' (zo HO656) (Kd.R_base ho0) hb); replace HO666 := Aside0.mk (Kd.R_elder' (zo HO666) (Kd.R_base ho0) hb); replace BK634 := Aside0.mk (blk_below (g := gb634) (o := .cells #[.slice A0_0 l0_0.length c0_0] 31 (0, 0)) (zb BK634) hb); replace BK643 := Aside0.mk (blk_below (g := gb643) (o := .cells #[.slice Ao41 t639.length co41] 25 (0, 0)) (zb BK643) hb); replace BK647 := Aside0.mk (blk_below (g := gb647) (o := .cells #[.slice Ao47 t644.length co47] 25 (0, 0)) (zb BK647) hb); replace BK652 := Aside0.mk (blk_below (g := gb652) (o := .cells #[.slice Ao53 t648.length co53] 25 (0, 0)) (zb BK652) hb); replace HB := Aside0.mk (below_step (zB HB) hb); (try clear hb); (try clear hb2); (try clear hk); (try clear hi); (try clear ho0)) | ((with_reducible refine gate_dst (N := 12) rfl ?_); refine box_event ?hg (N := 12) ?hd (cs := #[.slice none 0 0]) (t := 25) ?hr ?_; (case hd => rfl); (case hg => rfl); (case hr => first | (go_simp; done) | (go_simp; rfl)); intro gb671 hg w77 hbox hb; replace HO638 := Aside0.mk (Kd.R_below (zo HO638) hb); replace HO641 := Aside0.mk (Kd.R_below (zo HO641) hb); replace HO646 := Aside0.mk (Kd.R_below (zo HO646) hb); replace HO650 := Aside0.mk (Kd.R_below (zo HO650) hb); replace HO656 := Aside0.mk (Kd.R_below (zo HO656) hb); replace HO666 := Aside0.mk (Kd.R_below (zo HO666) hb); replace HO669 := Aside0.mk (Kd.R_below (zo HO669) hb); have BK671 := Aside0.mk (hbox); have GW671 := Aside0.mk ((by rw [hg]; exact (below_size (zB HB)) : w.heap.size ≤ gb671)); have GE671 := Aside0.mk ((by rw [hg]; exact (below_size (zB HB)) : w.heap.size ≤ gb671)); replace HB := Aside0.mk (below_step (zB HB) hb); have NB634_671 := Aside0.mk ((by rw [hg]; exact Nat.ne_of_lt (blk_lt (g := gb634) (o := .cells #[.slice A0_0 l0_0.length c0_0] 31 (0, 0)) (zb BK634)) : gb634 ≠ gb671)); have NB671_634 := Aside0.mk ((by rw [hg]; exact Nat.ne_of_gt (blk_lt (g := gb634) (o := .cells #[.slice A0_0 l0_0.length c0_0] 31 (0, 0)) (zb BK634)) : gb671 ≠ gb634)); replace BK634 := Aside0.mk (blk_below (g := gb634) (o := .cells #[.slice A0_0 l0_0.length c0_0] 31 (0, 0)) (zb BK634) hb); have NB643_671 := Aside0.mk ((by rw [hg]; exact Nat.ne_of_lt (blk_lt (g := gb643) (o := .cells #[.slice Ao41 t639.length co41] 25 (0, 0)) (zb BK643)) : gb643 ≠ gb671)); have NB671_643 := Aside0.mk ((by rw [hg]; exact Nat.ne_of_gt (blk_lt (g := gb643) (o := .cells #[.slice Ao41 t639.length co41] 25 (0, 0)) (zb BK643)) : gb671 ≠ gb643)); replace BK643 := Aside0.mk (blk_below (g := gb643) (o := .cells #[.slice Ao41 t639.length co41] 25 (0, 0)) (zb BK643) hb); have NB647_671 := Aside0.mk ((by rw [hg]; exact Nat.ne_of_lt (blk_lt (g := gb647) (o := .cells #[.slice Ao47 t644.length co47] 25 (0, 0)) (zb BK647)) : gb647 ≠ gb671)); have NB671_647 := Aside0.mk ((by rw [hg]; exact Nat.ne_of_gt (blk_lt (g := gb647) (o := .cells #[.slice Ao47 t644.length co47] 25 (0, 0)) (zb BK647)) : gb671 ≠ gb647)); replace BK647 := Aside0.mk (blk_below (g := gb647) (o := .cells #[.slice Ao47 t644.length co47] 25 (0, 0)) (zb BK647) hb); have NB652_671 := Aside0.mk ((by rw [hg]; exact Nat.ne_of_lt (blk_lt (g := gb652) (o := .cells #[.slice Ao53 t648.length co53] 25 (0, 0)) (zb BK652)) : gb652 ≠ gb671)); have NB671_652 := Aside0.mk ((by rw [hg]; exact Nat.ne_of_gt (blk_lt (g := gb652) (o := .cells #[.slice Ao53 t648.length co53] 25 (0, 0)) (zb BK652)) : gb671 ≠ gb652)); replace BK652 := Aside0.mk (blk_below (g := gb652) (o := .cells #[.slice Ao53 t648.length co53] 25 (0, 0)) (zb BK652) hb); clear hb hbox hg; obtain ⟨Ao78, co78, eo78⟩ := Kd.R_slice HO669.out; subst eo78; have hnb79 := NB671_634.out; have hnc79 := NB634_671.out; have hnb80 := NB671_643.out; have hnc80 := NB643_671.out; have hnb81 := NB671_647.out; have hnc81 := NB647_671.out; have hnb82 := NB671_652.out; have hnc82 := NB652_671.out; have hcz83_0 : w77.cell? ⟨gb671, 0, none⟩ = some (.slice none 0 0) := (blk_cell BK671.out 0).trans rfl; have hfz83_0 := blk_frozen BK671.out 0; have hcz84_0 : w77.cell? ⟨gb643, 0, none⟩ = some (.slice Ao41 t639.length co41) := (blk_cell BK643.out 0).trans rfl; have hfz84_0 := blk_frozen BK643.out 0) | ((with_reducible refine gate_callee (f := 22) rfl ?_); refine goesL_ (some 81) rfl rfl Try.func22 (by kernel_rfl) rfl #[.agg #[.slice Ao78 t667.length co78], .agg #[.slice Ao41 t639.length co41]] rfl zl ?_; (with_reducible refine (laws_eqSignature.calls k _ _ t667 _ _ t639 true _ ?side1 ?side2 ?side3 ?side4 A27.out).mono ?_); (case side1 => refine (Kd.R_reads' (e := 41) (base := w.heap.size) (ok := fun k_ => ((((((True ∧ some k_ ≠ (.slice Ao38 t636.length co38 : Value).ownBlock) ∧ some k_ ≠ (.slice Ao41 t639.length co41 : Value).ownBlock) ∧ some k_ ≠ (.slice Ao47 t644.length co47 : Value).ownBlock) ∧ some k_ ≠ (.slice Ao53 t648.length co53 : Value).ownBlock) ∧ some k_ ≠ (.slice Ao62 t654.length co62 : Value).ownBlock) ∧ some k_ ≠ (.slice Ao75 t664.length co75 : Value).ownBlock)) (n := t667.length) (c := co78) ?_).2.2; exact (by (with_reducible repeat (first | apply Kd.R_alloc | apply Kd.R_drewN | apply Kd.R_drew)); exact (Kd.R_mono (Kd.R_far (p := ⟨gb671, 0, none⟩) (Kd.R_types HO669.out BK671.out (by decide)) (fun _ hk => hk.2) (.slice Ao78 t667.length co78)) (fun _ h_ => h_.1)))); (case side2 => exact (Kd.R_reads' HO669.out).2.1); (case side3 => refine (Kd.R_reads' (e := 41) (base := w.heap.size) (ok := fun k_ => (((some k_ ≠ (.slice Ao38 t636.length co38 : Value).ownBlock ∧ (some k_ ≠ (.slice Ao47 t644.length co47 : Value).ownBlock ∧ (some k_ ≠ (.slice Ao53 t648.length co53 : Value).ownBlock ∧ some k_ ≠ (.slice Ao62 t654.length co62 : Value).ownBlock))) ∧ some k_ ≠ (.slice Ao75 t664.length co75 : Value).ownBlock) ∧ some k_ ≠ (.slice Ao78 t667.length co78 : Value).ownBlock)) (n := t639.length) (c := co41) ?_).2.2; exact (by (with_reducible repeat (first | apply Kd.R_alloc | apply Kd.R_drewN | apply Kd.R_drew)); exact (Kd.R_mono (Kd.R_far (p := ⟨gb671, 0, none⟩) (Kd.R_types HO641.out BK671.out (by decide)) (fun _ hk => hk.2) (.slice Ao78 t667.length co78)) (fun _ h_ => h_.1)))); (case side4 => exact (Kd.R_reads' HO641.out).2.1); rintro e w85 ⟨rfl, hb⟩; refine ⟨_, rfl, ?_⟩; replace HO638 := Aside0.mk (Kd.R_below (by (with_reducible repeat (first | apply Kd.R_alloc | apply Kd.R_drewN | apply Kd.R_drew)); exact (Kd.R_mono (Kd.R_far (p := ⟨gb671, 0, none⟩) (Kd.R_types HO638.out BK671.out (by decide)) (fun _ hk => hk.2) (.slice Ao78 t667.length co78)) (fun _ h_ => h_.1))) hb); replace HO641 := Aside0.mk (Kd.R_below (by (with_reducible repeat (first | apply Kd.R_alloc | apply Kd.R_drewN | apply Kd.R_drew)); exact (Kd.R_mono (Kd.R_far (p := ⟨gb671, 0, none⟩) (Kd.R_types HO641.out BK671.out (by decide)) (fun _ hk => hk.2) (.slice Ao78 t667.length co78)) (fun _ h_ => h_.1))) hb); replace HO646 := Aside0.mk (Kd.R_below (by (with_reducible repeat (first | apply Kd.R_alloc | apply Kd.R_drewN | apply Kd.R_drew)); exact (Kd.R_mono (Kd.R_far (p := ⟨gb671, 0, none⟩) (Kd.R_types HO646.out BK671.out (by decide)) (fun _ hk => hk.2) (.slice Ao78 t667.length co78)) (fun _ h_ => h_.1))) hb); replace HO650 := Aside0.mk (Kd.R_below (by (with_reducible repeat (first | apply Kd.R_alloc | apply Kd.R_drewN | apply Kd.R_drew)); exact (Kd.R_mono (Kd.R_far (p := ⟨gb671, 0, none⟩) (Kd.R_types HO650.out BK671.out (by decide)) (fun _ hk => hk.2) (.slice Ao78 t667.length co78)) (fun _ h_ => h_.1))) hb); replace HO656 := Aside0.mk (Kd.R_below (by (with_reducible repeat (first | apply Kd.R_alloc | apply Kd.R_drewN | apply Kd.R_drew)); exact (Kd.R_mono (Kd.R_far (p := ⟨gb671, 0, none⟩) (Kd.R_types HO656.out BK671.out (by decide)) (fun _ hk => hk.2) (.slice Ao78 t667.length co78)) (fun _ h_ => h_.1))) hb); replace HO666 := Aside0.mk (Kd.R_below (by (with_reducible repeat (first | apply Kd.R_alloc | apply Kd.R_drewN | apply Kd.R_drew)); exact (Kd.R_mono (Kd.R_far (p := ⟨gb671, 0, none⟩) (Kd.R_types HO666.out BK671.out (by decide)) (fun _ hk => hk.2) (.slice Ao78 t667.length co78)) (fun _ h_ => h_.1))) hb); replace HO669 := Aside0.mk (Kd.R_below (by (with_reducible repeat (first | apply Kd.R_alloc | apply Kd.R_drewN | apply Kd.R_drew)); exact (Kd.R_mono (Kd.R_far (p := ⟨gb671, 0, none⟩) (Kd.R_types HO669.out BK671.out (by decide)) (fun _ hk => hk.2) (.slice Ao78 t667.length co78)) (fun _ h_ => h_.1))) hb); replace BK634 := Aside0.mk (blk_below (g := gb634) (o := .cells #[.slice A0_0 l0_0.length c0_0] 31 (0, 0)) (zf BK634) hb); replace BK643 := Aside0.mk (blk_below (g := gb643) (o := .cells #[.slice Ao41 t639.length co41] 25 (0, 0)) (zf BK643) hb); replace BK647 := Aside0.mk (blk_below (g := gb647) (o := .cells #[.slice Ao47 t644.length co47] 25 (0, 0)) (zf BK647) hb); replace BK652 := Aside0.mk (blk_below (g := gb652) (o := .cells #[.slice Ao53 t648.length co53] 25 (0, 0)) (zf BK652) hb); replace BK671 := Aside0.mk (blk_below (g := gb671) (o := .cells #[.slice Ao78 t667.length co78] 25 (0, 0)) (by (with_reducible repeat (first | refine blk_drewN ?_ _ | refine blk_drew ?_ | refine blk_alloc ?_ _)); refine blk_put (cs := #[.slice none 0 0]) ?_ 0 _ rfl; (with_reducible repeat (first | refine blk_drewN ?_ _ | refine blk_drew ?_ | refine blk_alloc ?_ _)); exact BK671.out) hb); replace HB := Aside0.mk (below_step (zB HB) hb); (try clear hb); (try clear hb2); (try clear hk); (try clear hi); have hcz86_0 : w85.cell? ⟨gb652, 0, none⟩ = some (.slice Ao53 t648.length co53) := (blk_cell BK652.out 0).trans rfl; have hfz86_0 := blk_frozen BK652.out 0) | ((with_reducible refine gate_callee (f := 42) rfl ?_); refine goesL_ (some 90) rfl rfl Try.func42 (by kernel_rfl) rfl #[.agg #[.slice Ao53 t662.length co53], .int .i64 1] rfl (by (try simp only [List.map_toArray, List.map_cons, List.map_nil]); first | done | (rw [show t662.length = t648.length from (Kd.R_reads' HO650.out).1.symm] <;> rfl) | rfl | (simp only [List.length_drop, List.length_take]; rfl)) ?_; (with_reducible refine (laws_heldSignature.calls k _ _ t662 1 t673 _ ?side1 ?side2 A30.out).mono ?_); (case side1 => repeat (first | exact (Kd.R_reads' HO650.out).2.2 | (with_reducible refine Kd.C_alloc ?_ _) | (with_reducible refine Kd.C_drewN ?_ _) | (with_reducible refine Kd.C_drew ?_))); (case side2 => rw [show t662.length = t648.length from (Kd.R_reads' HO650.out).1.symm]; exact (Kd.R_reads' HO650.out).2.1); rintro e w87 ⟨rfl, hb⟩; refine ⟨_, rfl, ?_⟩; replace HO638 := Aside0.mk (Kd.R_below (zo HO638) hb); replace HO641 := Aside0.mk (Kd.R_below (zo HO641) hb); replace HO646 := Aside0.mk (Kd.R_below (zo HO646) hb); replace HO650 := Aside0.mk (Kd.R_below (zo HO650) hb); replace HO656 := Aside0.mk (Kd.R_below (zo HO656) hb); replace HO666 := Aside0.mk (Kd.R_below (zo HO666) hb); replace HO669 := Aside0.mk (Kd.R_below (zo HO669) hb); replace BK634 := Aside0.mk (blk_below (g := gb634) (o := .cells #[.slice A0_0 l0_0.length c0_0] 31 (0, 0)) (zb BK634) hb); replace BK643 := Aside0.mk (blk_below (g := gb643) (o := .cells #[.slice Ao41 t639.length co41] 25 (0, 0)) (zb BK643) hb); replace BK647 := Aside0.mk (blk_below (g := gb647) (o := .cells #[.slice Ao47 t644.length co47] 25 (0, 0)) (zb BK647) hb); replace BK652 := Aside0.mk (blk_below (g := gb652) (o := .cells #[.slice Ao53 t648.length co53] 25 (0, 0)) (zb BK652) hb); replace BK671 := Aside0.mk (blk_below (g := gb671) (o := .cells #[.slice Ao78 t667.length co78] 25 (0, 0)) (zb BK671) hb); replace HB := Aside0.mk (below_step (zB HB) hb); (try clear hb); (try clear hb2); (try clear hk); (try clear hi)))
             go_ret
             exact ⟨by first | rfl | (simp [errW_none, errW_some] <;> rfl) | (simp [*, errW_none, errW_some] <;> rfl), zB HB⟩
            ·rw [if_neg c32] at H
             have c32b0 : (t673 == t661) = false := beq_eq_false_iff_ne.mpr c32
             have c32b1 : (t673 != t661) = true := bne_iff_ne.mpr c32
             obtain rfl := Option.some.inj H
             exact absurd HR_.out (by decide)
         ·replace c28 := Bool.eq_false_iff.mpr c28
          subst c28
          rw [if_neg (show ¬ (false = true) by decide)] at H
          obtain rfl := Option.some.inj H
          exact absurd HR_.out (by decide)
        ·rw [if_neg c24] at H
         have c24b0 : (t663 == t661) = false := beq_eq_false_iff_ne.mpr c24
         have c24b1 : (t663 != t661) = true := bne_iff_ne.mpr c24
         obtain rfl := Option.some.inj H
         exact absurd HR_.out (by decide)
      ·replace c20 := Bool.eq_false_iff.mpr c20
       subst c20
       rw [if_neg (show ¬ (false = true) by decide)] at H
       obtain rfl := Option.some.inj H
       exact absurd HR_.out (by decide)
    ·replace c16 := Bool.eq_false_iff.mpr c16
     subst c16
     rw [if_neg (show ¬ (false = true) by decide)] at H
     obtain rfl := Option.some.inj H
     exact absurd HR_.out (by decide)
  ·replace c12 := Bool.eq_false_iff.mpr c12
   subst c12
   rw [if_neg (show ¬ (false = true) by decide)] at H
   obtain rfl := Option.some.inj H
   exact absurd HR_.out (by decide)

end Go.Proofs.Ytjnfofgonddflaa.Q
