-- written by px.py and merge.py (programs of this claim's), over the kit's print. Not trusted: Lean checks it.
import Derived.Test.YtjnfofgonddflaaQ0
import Derived.Test.YtjnfofgonddflaaM0FnExactNamedOnly
import Derived.Test.YtjnfofgonddflaaM1FnExactNamedOnly
import Derived.Test.YtjnfofgonddflaaM4FnExactNamedOnly
import Derived.Test.YtjnfofgonddflaaM6FnExactNamedOnly
namespace Go.Proofs.Ytjnfofgonddflaa.Q
open Go.RowKit Go.Proofs.YtjnfofgonddflaaL.PrintWords Go.Proofs.YtjnfofgonddflaaL.PrintLast Go.Proofs.YtjnfofgonddflaaL.PrintMore
attribute [local go_sem] max2_int min2_int max_two min_two max_three min_three max_four min_four   -- for this text's walks alone
set_option linter.unusedVariables false
set_option linter.unusedSimpArgs false

/-! ### laws_FnExactNamedOnly: function 14 -/
def laws_FnExactNamedOnly.f (k : Nat) (l0_0 : List (S85)) : Option (Bool) := (laws_szSignature.f k l0_0 1048576).bind fun t761 => (if t761 < 0 then (some true) else ((laws_toSignature.f k l0_0).bind fun t762 => ((spec_NamedOnly.f k t762).bind fun bt765 => ((laws_toSignature.f k l0_0).bind fun t770 => ((impl_NamedOnly.f k t770).bind fun bt774 => ((laws_eqSignature.f k bt774.1 bt765.1).bind fun t779 => (if t779 = true then (if (bt774.2 != bt765.2) = true then (some false) else ((laws_toSignature.f k l0_0).bind fun t780 => ((laws_eqSignature.f k t770 t780).bind fun t783 => (if t783 = true then ((laws_markSignature.f k t770 1).bind fun bt784 => (if bt784.1 < 0 then (some false) else ((laws_eqSignature.f k bt774.1 bt765.1).bind fun t786 => (if t786 = true then ((laws_markSignature.f k bt774.1 1).bind fun bt787 => ((laws_heldSignature.f k bt787.2 1).bind fun t789 => (if t789 < 0 then (some false) else (if t789 = bt787.1 then ((laws_toSignature.f k l0_0).bind fun t790 => ((impl_NamedOnly.f k t790).bind fun bt793 => ((laws_eqSignature.f k bt793.1 bt765.1).bind fun t798 => (if t798 = true then (if (bt793.2 != bt765.2) = true then (some false) else ((laws_heldSignature.f k bt787.2 1).bind fun t799 => (if t799 < 0 then (some false) else (if t799 = bt787.1 then (some true) else (some false))))) else (some false))))) else (some false))))) else (some false))))) else (some false))))) else (some false))))))))
theorem laws_FnExactNamedOnly.mono : ∀ a0 k, LeO (laws_FnExactNamedOnly.f k a0) (laws_FnExactNamedOnly.f (k + 1) a0) := by
 intro a0 k
 unfold laws_FnExactNamedOnly.f
 repeat' first
   | (with_reducible exact impl_NamedOnly.mono _ _)
   | (with_reducible exact laws_eqSignature.mono _ _ _)
   | (with_reducible exact laws_heldSignature.mono _ _ _)
   | (with_reducible exact laws_markSignature.mono _ _ _)
   | (with_reducible exact laws_szSignature.mono _ _ _)
   | (with_reducible exact laws_toSignature.mono _ _)
   | (with_reducible exact spec_NamedOnly.mono _ _)
   | (with_reducible exact LeO.refl _)
   | (with_reducible exact LeO.none _)
   | (with_reducible refine LeO.ite ?_ ?_)
   | (with_reducible refine LeO.bind ?_ (fun _ => ?_))
   | exact impl_NamedOnly.mono _ _
   | exact laws_eqSignature.mono _ _ _
   | exact laws_heldSignature.mono _ _ _
   | exact laws_markSignature.mono _ _ _
   | exact laws_szSignature.mono _ _ _
   | exact laws_toSignature.mono _ _
   | exact spec_NamedOnly.mono _ _
   | exact LeO.none _
   | refine LeO.ite ?_ ?_
   | refine LeO.bind ?_ (fun _ => ?_)
set_option maxHeartbeats 8000000 in
set_option maxRecDepth 100000 in
theorem laws_FnExactNamedOnly.calls (k : Nat) (A0_0 : Option Addr) (c0_0 : Nat) (l0_0 : List (S85)) (r : Bool) (w : World) (hr0_0 : Kd.C k85 w A0_0 l0_0.length l0_0) (hc0_0 : l0_0.length ≤ c0_0) (h : laws_FnExactNamedOnly.f k l0_0 = some r) (hr_ : r = true) :
  Calls Try.prog 14 #[.agg #[.slice A0_0 l0_0.length c0_0]] w fun e w' => e = .returned (.bool r) ∧ Below w.heap.size w w' := by
 have hu31 := Try.underlying31
 have hu25 := Try.underlying25
 have HR_ := Aside0.mk hr_
 clear hr_
 have HR0_0 := Aside0.mk hr0_0
 have HC0_0 := Aside0.mk hc0_0
 clear hr0_0 hc0_0
 have HB := Aside0.mk (Below.refl w.heap.size w)
 have H : ((laws_szSignature.f k l0_0 1048576).bind fun t761 => (if t761 < 0 then (some true) else ((laws_toSignature.f k l0_0).bind fun t762 => ((spec_NamedOnly.f k t762).bind fun bt765 => ((laws_toSignature.f k l0_0).bind fun t770 => ((impl_NamedOnly.f k t770).bind fun bt774 => ((laws_eqSignature.f k bt774.1 bt765.1).bind fun t779 => (if t779 = true then (if (bt774.2 != bt765.2) = true then (some false) else ((laws_toSignature.f k l0_0).bind fun t780 => ((laws_eqSignature.f k t770 t780).bind fun t783 => (if t783 = true then ((laws_markSignature.f k t770 1).bind fun bt784 => (if bt784.1 < 0 then (some false) else ((laws_eqSignature.f k bt774.1 bt765.1).bind fun t786 => (if t786 = true then ((laws_markSignature.f k bt774.1 1).bind fun bt787 => ((laws_heldSignature.f k bt787.2 1).bind fun t789 => (if t789 < 0 then (some false) else (if t789 = bt787.1 then ((laws_toSignature.f k l0_0).bind fun t790 => ((impl_NamedOnly.f k t790).bind fun bt793 => ((laws_eqSignature.f k bt793.1 bt765.1).bind fun t798 => (if t798 = true then (if (bt793.2 != bt765.2) = true then (some false) else ((laws_heldSignature.f k bt787.2 1).bind fun t799 => (if t799 < 0 then (some false) else (if t799 = bt787.1 then (some true) else (some false))))) else (some false))))) else (some false))))) else (some false))))) else (some false))))) else (some false))))))))) = some r := h
 clear h
 replace H := Option.bind_eq_some_iff.mp H
 obtain ⟨t761, A20, H⟩ := H
 (try dsimp only at H)
 have A2 := Aside0.mk A20
 clear A20
 by_cases c3 : t761 < 0
 ·rw [if_pos c3] at H
  have c3b0 : decide (t761 < 0) = true := decide_eq_true c3
  clear c3
  obtain rfl := Option.some.inj H
  go_enter Try.func14, Try.ntmps14
  go_wp2_with (first | ((with_reducible refine gate_dst (N := 1) rfl ?_); refine box_event ?hg (N := 1) ?hd (cs := #[.slice A0_0 l0_0.length c0_0]) (t := 31) ?hr ?_; (case hd => rfl); (case hg => rfl); (case hr => first | (go_simp; done) | (go_simp; rfl)); intro gb760 hg w4 hbox hb; have BK760 := Aside0.mk (hbox); have GW760 := Aside0.mk ((by rw [hg]; exact (below_size (zB HB)) : w.heap.size ≤ gb760)); have GE760 := Aside0.mk ((by rw [hg]; exact (below_size (zB HB)) : w.heap.size ≤ gb760)); replace HB := Aside0.mk (below_step (zB HB) hb); clear hb hbox hg; have hcz5_0 : w4.cell? ⟨gb760, 0, none⟩ = some (.slice A0_0 l0_0.length c0_0) := (blk_cell BK760.out 0).trans rfl; have hfz5_0 := blk_frozen BK760.out 0) | ((with_reducible refine gate_callee (f := 18) rfl ?_); refine goesL_ (some 16) rfl rfl Try.func18 (by kernel_rfl) rfl #[.agg #[.slice A0_0 l0_0.length c0_0], .int .i64 1048576] rfl zl ?_; (with_reducible refine (laws_szSignature.calls k _ _ l0_0 1048576 t761 _ ?side1 ?side2 A2.out).mono ?_); (case side1 => repeat (first | exact (Kd.C_below HR0_0.out HB.out) | (with_reducible refine Kd.C_alloc ?_ _) | (with_reducible refine Kd.C_drewN ?_ _) | (with_reducible refine Kd.C_drew ?_))); (case side2 => exact HC0_0.out); rintro e w6 ⟨rfl, hb⟩; refine ⟨_, rfl, ?_⟩; replace BK760 := Aside0.mk (blk_below (g := gb760) (o := .cells #[.slice A0_0 l0_0.length c0_0] 31 (0, 0)) (zb BK760) hb); replace HB := Aside0.mk (below_step (zB HB) hb); (try clear hb); (try clear hb2); (try clear hk); (try clear hi)))
  go_ret
  exact ⟨by first | rfl | (simp [errW_none, errW_some] <;> rfl) | (simp [*, errW_none, errW_some] <;> rfl), zB HB⟩
 ·rw [if_neg c3] at H
  have c3b0 : decide (t761 < 0) = false := decide_eq_false c3
  clear c3
  replace H := Option.bind_eq_some_iff.mp H
  obtain ⟨t762, A70, H⟩ := H
  (try dsimp only at H)
  have A7 := Aside0.mk A70
  clear A70
  replace H := Option.bind_eq_some_iff.mp H
  obtain ⟨⟨t765, t768⟩, A80, H⟩ := H
  (try dsimp only at H)
  have A8 := Aside0.mk A80
  clear A80
  replace H := Option.bind_eq_some_iff.mp H
  obtain ⟨t770, A90, H⟩ := H
  (try dsimp only at H)
  have A9 := Aside0.mk A90
  clear A90
  replace H := Option.bind_eq_some_iff.mp H
  obtain ⟨⟨t774, t777⟩, A100, H⟩ := H
  (try dsimp only at H)
  have A10 := Aside0.mk A100
  clear A100
  replace H := Option.bind_eq_some_iff.mp H
  obtain ⟨t779, A110, H⟩ := H
  (try dsimp only at H)
  have A11 := Aside0.mk A110
  clear A110
  by_cases c12 : t779 = true
  ·subst c12
   rw [if_pos rfl] at H
   by_cases c13 : (t777 != t768) = true
   ·rw [if_pos c13] at H
    have c13b0 : (t777 != t768) = true := c13
    (try (have c13b1 : decide (t777 = t768) = false := by simpa using c13))
    (try (have c13b2 : (t777 == t768) = false := by simpa using c13))
    (try (have c13b3 : ¬ (t777 = t768) := by simpa using c13))
    clear c13
    obtain rfl := Option.some.inj H
    exact absurd HR_.out (by decide)
   ·rw [if_neg c13] at H
    have c13b0 : (t777 != t768) = false := by simpa using c13
    (try (have c13b1 : decide (t777 = t768) = true := by simpa using c13))
    (try (have c13b2 : (t777 == t768) = true := by simpa using c13))
    clear c13
    replace H := Option.bind_eq_some_iff.mp H
    obtain ⟨t780, A140, H⟩ := H
    (try dsimp only at H)
    have A14 := Aside0.mk A140
    clear A140
    replace H := Option.bind_eq_some_iff.mp H
    obtain ⟨t783, A150, H⟩ := H
    (try dsimp only at H)
    have A15 := Aside0.mk A150
    clear A150
    by_cases c16 : t783 = true
    ·subst c16
     rw [if_pos rfl] at H
     replace H := Option.bind_eq_some_iff.mp H
     obtain ⟨⟨t784, t785⟩, A170, H⟩ := H
     (try dsimp only at H)
     have A17 := Aside0.mk A170
     clear A170
     by_cases c18 : t784 < 0
     ·rw [if_pos c18] at H
      have c18b0 : decide (t784 < 0) = true := decide_eq_true c18
      clear c18
      obtain rfl := Option.some.inj H
      exact absurd HR_.out (by decide)
     ·rw [if_neg c18] at H
      have c18b0 : decide (t784 < 0) = false := decide_eq_false c18
      clear c18
      replace H := Option.bind_eq_some_iff.mp H
      obtain ⟨t786, A190, H⟩ := H
      (try dsimp only at H)
      have A19 := Aside0.mk A190
      clear A190
      by_cases c20 : t786 = true
      ·subst c20
       rw [if_pos rfl] at H
       replace H := Option.bind_eq_some_iff.mp H
       obtain ⟨⟨t787, t788⟩, A210, H⟩ := H
       (try dsimp only at H)
       have A21 := Aside0.mk A210
       clear A210
       replace H := Option.bind_eq_some_iff.mp H
       obtain ⟨t789, A220, H⟩ := H
       (try dsimp only at H)
       have A22 := Aside0.mk A220
       clear A220
       by_cases c23 : t789 < 0
       ·rw [if_pos c23] at H
        have c23b0 : decide (t789 < 0) = true := decide_eq_true c23
        clear c23
        obtain rfl := Option.some.inj H
        exact absurd HR_.out (by decide)
       ·rw [if_neg c23] at H
        have c23b0 : decide (t789 < 0) = false := decide_eq_false c23
        clear c23
        by_cases c24 : t789 = t787
        ·rw [if_pos c24] at H
         have c24b0 : (t789 == t787) = true := beq_iff_eq.mpr c24
         have c24b1 : (t789 != t787) = false := bne_eq_false_iff_eq.mpr c24
         clear c24
         replace H := Option.bind_eq_some_iff.mp H
         obtain ⟨t790, A250, H⟩ := H
         (try dsimp only at H)
         have A25 := Aside0.mk A250
         clear A250
         replace H := Option.bind_eq_some_iff.mp H
         obtain ⟨⟨t793, t796⟩, A260, H⟩ := H
         (try dsimp only at H)
         have A26 := Aside0.mk A260
         clear A260
         replace H := Option.bind_eq_some_iff.mp H
         obtain ⟨t798, A270, H⟩ := H
         (try dsimp only at H)
         have A27 := Aside0.mk A270
         clear A270
         by_cases c28 : t798 = true
         ·subst c28
          rw [if_pos rfl] at H
          by_cases c29 : (t796 != t768) = true
          ·rw [if_pos c29] at H
           have c29b0 : (t796 != t768) = true := c29
           (try (have c29b1 : decide (t796 = t768) = false := by simpa using c29))
           (try (have c29b2 : (t796 == t768) = false := by simpa using c29))
           (try (have c29b3 : ¬ (t796 = t768) := by simpa using c29))
           clear c29
           obtain rfl := Option.some.inj H
           exact absurd HR_.out (by decide)
          ·rw [if_neg c29] at H
           have c29b0 : (t796 != t768) = false := by simpa using c29
           (try (have c29b1 : decide (t796 = t768) = true := by simpa using c29))
           (try (have c29b2 : (t796 == t768) = true := by simpa using c29))
           clear c29
           replace H := Option.bind_eq_some_iff.mp H
           obtain ⟨t799, A300, H⟩ := H
           (try dsimp only at H)
           have A30 := Aside0.mk A300
           clear A300
           by_cases c31 : t799 < 0
           ·rw [if_pos c31] at H
            have c31b0 : decide (t799 < 0) = true := decide_eq_true c31
            clear c31
            obtain rfl := Option.some.inj H
            exact absurd HR_.out (by decide)
           ·rw [if_neg c31] at H
            have c31b0 : decide (t799 < 0) = false := decide_eq_false c31
            clear c31
            by_cases c32 : t799 = t787
            ·rw [if_pos c32] at H
             have c32b0 : (t799 == t787) = true := beq_iff_eq.mpr c32
             have c32b1 : (t799 != t787) = false := bne_eq_false_iff_eq.mpr c32
             clear c32
             obtain rfl := Option.some.inj H
             go_enter Try.func14, Try.ntmps14
             try go_wp2_with (first | ((with_reducible refine gate_dst (N := 1) rfl ?_); refine box_event ?hg (N := 1) ?hd (cs := #[.slice A0_0 l0_0.length c0_0]) (t := 31) ?hr ?_; (case hd => rfl); (case hg => rfl); (case hr => first | (go_simp; done) | (go_simp; rfl)); intro gb760 hg w33 hbox hb; have BK760 := Aside0.mk (hbox); have GW760 := Aside0.mk ((by rw [hg]; exact (below_size (zB HB)) : w.heap.size ≤ gb760)); have GE760 := Aside0.mk ((by rw [hg]; exact (below_size (zB HB)) : w.heap.size ≤ gb760)); replace HB := Aside0.mk (below_step (zB HB) hb); clear hb hbox hg; have hcz34_0 : w33.cell? ⟨gb760, 0, none⟩ = some (.slice A0_0 l0_0.length c0_0) := (blk_cell BK760.out 0).trans rfl; have hfz34_0 := blk_frozen BK760.out 0) | ((with_reducible refine gate_callee (f := 18) rfl ?_); refine goesL_ (some 16) rfl rfl Try.func18 (by kernel_rfl) rfl #[.agg #[.slice A0_0 l0_0.length c0_0], .int .i64 1048576] rfl zl ?_; (with_reducible refine (laws_szSignature.calls k _ _ l0_0 1048576 t761 _ ?side1 ?side2 A2.out).mono ?_); (case side1 => repeat (first | exact (Kd.C_below HR0_0.out HB.out) | (with_reducible refine Kd.C_alloc ?_ _) | (with_reducible refine Kd.C_drewN ?_ _) | (with_reducible refine Kd.C_drew ?_))); (case side2 => exact HC0_0.out); rintro e w35 ⟨rfl, hb⟩; refine ⟨_, rfl, ?_⟩; replace BK760 := Aside0.mk (blk_below (g := gb760) (o := .cells #[.slice A0_0 l0_0.length c0_0] 31 (0, 0)) (zb BK760) hb); replace HB := Aside0.mk (below_step (zB HB) hb); (try clear hb); (try clear hb2); (try clear hk); (try clear hi); have hcz36_0 : w35.cell? ⟨gb760, 0, none⟩ = some (.slice A0_0 l0_0.length c0_0) := (blk_cell BK760.out 0).trans rfl; have hfz36_0 := blk_frozen BK760.out 0) | ((with_reducible refine gate_callee (f := 20) rfl ?_); refine goesL_ (some 21) rfl rfl Try.func20 (by kernel_rfl) rfl #[.agg #[.slice A0_0 l0_0.length c0_0]] rfl zl ?_; (with_reducible refine (laws_toSignature.calls k _ _ l0_0 t762 _ ?side1 ?side2 A7.out).mono ?_); (case side1 => repeat (first | exact (Kd.C_below HR0_0.out HB.out) | (with_reducible refine Kd.C_alloc ?_ _) | (with_reducible refine Kd.C_drewN ?_ _) | (with_reducible refine Kd.C_drew ?_))); (case side2 => exact HC0_0.out); rintro e w37 ⟨v763, rfl, ho0, hb⟩; refine ⟨_, rfl, ?_⟩; have HO764 := Aside0.mk (Kd.R_lower ho0 (below_size (zB HB))); replace BK760 := Aside0.mk (blk_below (g := gb760) (o := .cells #[.slice A0_0 l0_0.length c0_0] 31 (0, 0)) (zb BK760) hb); replace HB := Aside0.mk (below_step (zB HB) hb); (try clear hb); (try clear hb2); (try clear hk); (try clear hi); (try clear ho0); obtain ⟨Ao38, co38, eo38⟩ := Kd.R_slice HO764.out; subst eo38) | ((with_reducible refine gate_callee (f := 45) rfl ?_); refine goesL_ (some 22) rfl rfl Try.func45 (by kernel_rfl) rfl #[.agg #[.slice Ao38 t762.length co38]] rfl zl ?_; (with_reducible refine (spec_NamedOnly.calls k _ _ t762 t765 t768 _ ?side1 ?side2 A8.out).mono ?_); (case side1 => repeat (first | exact (Kd.R_reads' HO764.out).2.2 | (with_reducible refine Kd.C_alloc ?_ _) | (with_reducible refine Kd.C_drewN ?_ _) | (with_reducible refine Kd.C_drew ?_))); (case side2 => exact (Kd.R_reads' HO764.out).2.1); rintro e w39 ⟨v766, rfl, ho0, hb⟩; refine ⟨_, rfl, ?_⟩; have HO767 := Aside0.mk (Kd.R_lower (Kd.R_new' ho0 (Kd.R_lt (zo HO764))) (below_size (zB HB))); replace HO764 := Aside0.mk (Kd.R_elder' (zo HO764) (Kd.R_base ho0) hb); replace BK760 := Aside0.mk (blk_below (g := gb760) (o := .cells #[.slice A0_0 l0_0.length c0_0] 31 (0, 0)) (zb BK760) hb); replace HB := Aside0.mk (below_step (zB HB) hb); (try clear hb); (try clear hb2); (try clear hk); (try clear hi); (try clear ho0)) | ((with_reducible refine gate_dst (N := 4) rfl ?_); refine box_event ?hg (N := 4) ?hd (cs := #[.slice none 0 0]) (t := 25) ?hr ?_; (case hd => rfl); (case hg => rfl); (case hr => first | (go_simp; done) | (go_simp; rfl)); intro gb769 hg w40 hbox hb; replace HO764 := Aside0.mk (Kd.R_below (zo HO764) hb); replace HO767 := Aside0.mk (Kd.R_below (zo HO767) hb); have BK769 := Aside0.mk (hbox); have GW769 := Aside0.mk ((by rw [hg]; exact (below_size (zB HB)) : w.heap.size ≤ gb769)); have GE769 := Aside0.mk ((by rw [hg]; exact (below_size (zB HB)) : w.heap.size ≤ gb769)); replace HB := Aside0.mk (below_step (zB HB) hb); have NB760_769 := Aside0.mk ((by rw [hg]; exact Nat.ne_of_lt (blk_lt (g := gb760) (o := .cells #[.slice A0_0 l0_0.length c0_0] 31 (0, 0)) (zb BK760)) : gb760 ≠ gb769)); have NB769_760 := Aside0.mk ((by rw [hg]; exact Nat.ne_of_gt (blk_lt (g := gb760) (o := .cells #[.slice A0_0 l0_0.length c0_0] 31 (0, 0)) (zb BK760)) : gb769 ≠ gb760)); replace BK760 := Aside0.mk (blk_below (g := gb760) (o := .cells #[.slice A0_0 l0_0.length c0_0] 31 (0, 0)) (zb BK760) hb); clear hb hbox hg; obtain ⟨Ao41, co41, eo41⟩ := Kd.R_slice HO767.out; subst eo41; have hnb42 := NB769_760.out; have hnc42 := NB760_769.out; have hcz43_0 : w40.cell? ⟨gb769, 0, none⟩ = some (.slice none 0 0) := (blk_cell BK769.out 0).trans rfl; have hfz43_0 := blk_frozen BK769.out 0; have hcz44_0 : w40.cell? ⟨gb760, 0, none⟩ = some (.slice A0_0 l0_0.length c0_0) := (blk_cell BK760.out 0).trans rfl; have hfz44_0 := blk_frozen BK760.out 0) | ((with_reducible refine gate_callee (f := 20) rfl ?_); refine goesL_ (some 26) rfl rfl Try.func20 (by kernel_rfl) rfl #[.agg #[.slice A0_0 l0_0.length c0_0]] rfl zl ?_; (with_reducible refine (laws_toSignature.calls k _ _ l0_0 t770 _ ?side1 ?side2 A9.out).mono ?_); (case side1 => exact Kd.C_below HR0_0.out (zB HB)); (case side2 => exact HC0_0.out); rintro e w45 ⟨v771, rfl, ho0, hb⟩; refine ⟨_, rfl, ?_⟩; have HO772 := Aside0.mk (Kd.R_lower (Kd.R_new' (Kd.R_new' ho0 (Kd.R_lt (by (with_reducible repeat (first | apply Kd.R_alloc | apply Kd.R_drewN | apply Kd.R_drew)); exact (Kd.R_mono (Kd.R_far (p := ⟨gb769, 0, none⟩) (Kd.R_types HO764.out BK769.out (by decide)) (fun _ hk => hk.2) (.slice Ao41 t765.length co41)) (fun _ h_ => h_.1))))) (Kd.R_lt (by (with_reducible repeat (first | apply Kd.R_alloc | apply Kd.R_drewN | apply Kd.R_drew)); exact (Kd.R_mono (Kd.R_far (p := ⟨gb769, 0, none⟩) (Kd.R_types HO767.out BK769.out (by decide)) (fun _ hk => hk.2) (.slice Ao41 t765.length co41)) (fun _ h_ => h_.1))))) (below_size (zB HB))); replace HO764 := Aside0.mk (Kd.R_elder' (by (with_reducible repeat (first | apply Kd.R_alloc | apply Kd.R_drewN | apply Kd.R_drew)); exact (Kd.R_mono (Kd.R_far (p := ⟨gb769, 0, none⟩) (Kd.R_types HO764.out BK769.out (by decide)) (fun _ hk => hk.2) (.slice Ao41 t765.length co41)) (fun _ h_ => h_.1))) (Kd.R_base ho0) hb); replace HO767 := Aside0.mk (Kd.R_elder' (by (with_reducible repeat (first | apply Kd.R_alloc | apply Kd.R_drewN | apply Kd.R_drew)); exact (Kd.R_mono (Kd.R_far (p := ⟨gb769, 0, none⟩) (Kd.R_types HO767.out BK769.out (by decide)) (fun _ hk => hk.2) (.slice Ao41 t765.length co41)) (fun _ h_ => h_.1))) (Kd.R_base ho0) hb); replace BK760 := Aside0.mk (blk_below (g := gb760) (o := .cells #[.slice A0_0 l0_0.length c0_0] 31 (0, 0)) (zf BK760) hb); replace BK769 := Aside0.mk (blk_below (g := gb769) (o := .cells #[.slice Ao41 t765.length co41] 25 (0, 0)) (by (with_reducible repeat (first | refine blk_drewN ?_ _ | refine blk_drew ?_ | refine blk_alloc ?_ _)); refine blk_put (cs := #[.slice none 0 0]) ?_ 0 _ rfl; (with_reducible repeat (first | refine blk_drewN ?_ _ | refine blk_drew ?_ | refine blk_alloc ?_ _)); exact BK769.out) hb); replace HB := Aside0.mk (below_step (zB HB) hb); (try clear hb); (try clear hb2); (try clear hk); (try clear hi); (try clear ho0)) | ((with_reducible refine gate_dst (N := 6) rfl ?_); refine box_event ?hg (N := 6) ?hd (cs := #[.slice none 0 0]) (t := 25) ?hr ?_; (case hd => rfl); (case hg => rfl); (case hr => first | (go_simp; done) | (go_simp; rfl)); intro gb773 hg w46 hbox hb; replace HO764 := Aside0.mk (Kd.R_below (zo HO764) hb); replace HO767 := Aside0.mk (Kd.R_below (zo HO767) hb); replace HO772 := Aside0.mk (Kd.R_below (zo HO772) hb); have BK773 := Aside0.mk (hbox); have GW773 := Aside0.mk ((by rw [hg]; exact (below_size (zB HB)) : w.heap.size ≤ gb773)); have GE773 := Aside0.mk ((by rw [hg]; exact (below_size (zB HB)) : w.heap.size ≤ gb773)); replace HB := Aside0.mk (below_step (zB HB) hb); have NB760_773 := Aside0.mk ((by rw [hg]; exact Nat.ne_of_lt (blk_lt (g := gb760) (o := .cells #[.slice A0_0 l0_0.length c0_0] 31 (0, 0)) (zb BK760)) : gb760 ≠ gb773)); have NB773_760 := Aside0.mk ((by rw [hg]; exact Nat.ne_of_gt (blk_lt (g := gb760) (o := .cells #[.slice A0_0 l0_0.length c0_0] 31 (0, 0)) (zb BK760)) : gb773 ≠ gb760)); replace BK760 := Aside0.mk (blk_below (g := gb760) (o := .cells #[.slice A0_0 l0_0.length c0_0] 31 (0, 0)) (zb BK760) hb); have NB769_773 := Aside0.mk ((by rw [hg]; exact Nat.ne_of_lt (blk_lt (g := gb769) (o := .cells #[.slice Ao41 t765.length co41] 25 (0, 0)) (zb BK769)) : gb769 ≠ gb773)); have NB773_769 := Aside0.mk ((by rw [hg]; exact Nat.ne_of_gt (blk_lt (g := gb769) (o := .cells #[.slice Ao41 t765.length co41] 25 (0, 0)) (zb BK769)) : gb773 ≠ gb769)); replace BK769 := Aside0.mk (blk_below (g := gb769) (o := .cells #[.slice Ao41 t765.length co41] 25 (0, 0)) (zb BK769) hb); clear hb hbox hg; obtain ⟨Ao47, co47, eo47⟩ := Kd.R_slice HO772.out; subst eo47; have hnb48 := NB773_760.out; have hnc48 := NB760_773.out; have hnb49 := NB773_769.out; have hnc49 := NB769_773.out; have hcz50_0 : w46.cell? ⟨gb773, 0, none⟩ = some (.slice none 0 0) := (blk_cell BK773.out 0).trans rfl; have hfz50_0 := blk_frozen BK773.out 0) | ((with_reducible refine gate_callee (f := 46) rfl ?_); refine goesL_ (some 29) rfl rfl Try.func46 (by kernel_rfl) rfl #[.agg #[.slice Ao47 t770.length co47]] rfl zl ?_; (with_reducible refine (impl_NamedOnly.calls k _ _ t770 t774 t777 _ ?side1 ?side2 A10.out).mono ?_); (case side1 => refine (Kd.R_reads' (e := 41) (base := w.heap.size) (ok := fun k_ => ((True ∧ some k_ ≠ (.slice Ao38 t762.length co38 : Value).ownBlock) ∧ some k_ ≠ (.slice Ao41 t765.length co41 : Value).ownBlock)) (n := t770.length) (c := co47) ?_).2.2; exact (by (with_reducible repeat (first | apply Kd.R_alloc | apply Kd.R_drewN | apply Kd.R_drew)); exact (Kd.R_mono (Kd.R_far (p := ⟨gb773, 0, none⟩) (Kd.R_types HO772.out BK773.out (by decide)) (fun _ hk => hk.2) (.slice Ao47 t770.length co47)) (fun _ h_ => h_.1)))); (case side2 => exact (Kd.R_reads' HO772.out).2.1); rintro e w51 ⟨v775, rfl, ho0, hb⟩; refine ⟨_, rfl, ?_⟩; have HO776 := Aside0.mk (Kd.R_lower (Kd.R_new' (Kd.R_new' (Kd.R_new' ho0 (Kd.R_lt (by (with_reducible repeat (first | apply Kd.R_alloc | apply Kd.R_drewN | apply Kd.R_drew)); exact (Kd.R_mono (Kd.R_far (p := ⟨gb773, 0, none⟩) (Kd.R_types HO764.out BK773.out (by decide)) (fun _ hk => hk.2) (.slice Ao47 t770.length co47)) (fun _ h_ => h_.1))))) (Kd.R_lt (by (with_reducible repeat (first | apply Kd.R_alloc | apply Kd.R_drewN | apply Kd.R_drew)); exact (Kd.R_mono (Kd.R_far (p := ⟨gb773, 0, none⟩) (Kd.R_types HO767.out BK773.out (by decide)) (fun _ hk => hk.2) (.slice Ao47 t770.length co47)) (fun _ h_ => h_.1))))) (Kd.R_lt (by (with_reducible repeat (first | apply Kd.R_alloc | apply Kd.R_drewN | apply Kd.R_drew)); exact (Kd.R_mono (Kd.R_far (p := ⟨gb773, 0, none⟩) (Kd.R_types HO772.out BK773.out (by decide)) (fun _ hk => hk.2) (.slice Ao47 t770.length co47)) (fun _ h_ => h_.1))))) (below_size (zB HB))); replace HO764 := Aside0.mk (Kd.R_elder' (by (with_reducible repeat (first | apply Kd.R_alloc | apply Kd.R_drewN | apply Kd.R_drew)); exact (Kd.R_mono (Kd.R_far (p := ⟨gb773, 0, none⟩) (Kd.R_types HO764.out BK773.out (by decide)) (fun _ hk => hk.2) (.slice Ao47 t770.length co47)) (fun _ h_ => h_.1))) (Kd.R_base ho0) hb); replace HO767 := Aside0.mk (Kd.R_elder' (by (with_reducible repeat (first | apply Kd.R_alloc | apply Kd.R_drewN | apply Kd.R_drew)); exact (Kd.R_mono (Kd.R_far (p := ⟨gb773, 0, none⟩) (Kd.R_types HO767.out BK773.out (by decide)) (fun _ hk => hk.2) (.slice Ao47 t770.length co47)) (fun _ h_ => h_.1))) (Kd.R_base ho0) hb); replace HO772 := Aside0.mk (Kd.R_elder' (by (with_reducible repeat (first | apply Kd.R_alloc | apply Kd.R_drewN | apply Kd.R_drew)); exact (Kd.R_mono (Kd.R_far (p := ⟨gb773, 0, none⟩) (Kd.R_types HO772.out BK773.out (by decide)) (fun _ hk => hk.2) (.slice Ao47 t770.length co47)) (fun _ h_ => h_.1))) (Kd.R_base ho0) hb); replace BK760 := Aside0.mk (blk_below (g := gb760) (o := .cells #[.slice A0_0 l0_0.length c0_0] 31 (0, 0)) (zf BK760) hb); replace BK769 := Aside0.mk (blk_below (g := gb769) (o := .cells #[.slice Ao41 t765.length co41] 25 (0, 0)) (zf BK769) hb); replace BK773 := Aside0.mk (blk_below (g := gb773) (o := .cells #[.slice Ao47 t770.length co47] 25 (0, 0)) (by (with_reducible repeat (first | refine blk_drewN ?_ _ | refine blk_drew ?_ | refine blk_alloc ?_ _)); refine blk_put (cs := #[.slice none 0 0]) ?_ 0 _ rfl; (with_reducible repeat (first | refine blk_drewN ?_ _ | refine blk_drew ?_ | refine blk_alloc ?_ _)); exact BK773.out) hb); replace HB := Aside0.mk (below_step (zB HB) hb); (try clear hb); (try clear hb2); (try clear hk); (try clear hi); (try clear ho0)) | ((with_reducible refine gate_dst (N := 7) rfl ?_); refine box_event ?hg (N := 7) ?hd (cs := #[.slice none 0 0]) (t := 25) ?hr ?_; (case hd => rfl); (case hg => rfl); (case hr => first | (go_simp; done) | (go_simp; rfl)); intro gb778 hg w52 hbox hb; replace HO764 := Aside0.mk (Kd.R_below (zo HO764) hb); replace HO767 := Aside0.mk (Kd.R_below (zo HO767) hb); replace HO772 := Aside0.mk (Kd.R_below (zo HO772) hb); replace HO776 := Aside0.mk (Kd.R_below (zo HO776) hb); have BK778 := Aside0.mk (hbox); have GW778 := Aside0.mk ((by rw [hg]; exact (below_size (zB HB)) : w.heap.size ≤ gb778)); have GE778 := Aside0.mk ((by rw [hg]; exact (below_size (zB HB)) : w.heap.size ≤ gb778)); replace HB := Aside0.mk (below_step (zB HB) hb); have NB760_778 := Aside0.mk ((by rw [hg]; exact Nat.ne_of_lt (blk_lt (g := gb760) (o := .cells #[.slice A0_0 l0_0.length c0_0] 31 (0, 0)) (zb BK760)) : gb760 ≠ gb778)); have NB778_760 := Aside0.mk ((by rw [hg]; exact Nat.ne_of_gt (blk_lt (g := gb760) (o := .cells #[.slice A0_0 l0_0.length c0_0] 31 (0, 0)) (zb BK760)) : gb778 ≠ gb760)); replace BK760 := Aside0.mk (blk_below (g := gb760) (o := .cells #[.slice A0_0 l0_0.length c0_0] 31 (0, 0)) (zb BK760) hb); have NB769_778 := Aside0.mk ((by rw [hg]; exact Nat.ne_of_lt (blk_lt (g := gb769) (o := .cells #[.slice Ao41 t765.length co41] 25 (0, 0)) (zb BK769)) : gb769 ≠ gb778)); have NB778_769 := Aside0.mk ((by rw [hg]; exact Nat.ne_of_gt (blk_lt (g := gb769) (o := .cells #[.slice Ao41 t765.length co41] 25 (0, 0)) (zb BK769)) : gb778 ≠ gb769)); replace BK769 := Aside0.mk (blk_below (g := gb769) (o := .cells #[.slice Ao41 t765.length co41] 25 (0, 0)) (zb BK769) hb); have NB773_778 := Aside0.mk ((by rw [hg]; exact Nat.ne_of_lt (blk_lt (g := gb773) (o := .cells #[.slice Ao47 t770.length co47] 25 (0, 0)) (zb BK773)) : gb773 ≠ gb778)); have NB778_773 := Aside0.mk ((by rw [hg]; exact Nat.ne_of_gt (blk_lt (g := gb773) (o := .cells #[.slice Ao47 t770.length co47] 25 (0, 0)) (zb BK773)) : gb778 ≠ gb773)); replace BK773 := Aside0.mk (blk_below (g := gb773) (o := .cells #[.slice Ao47 t770.length co47] 25 (0, 0)) (zb BK773) hb); clear hb hbox hg; obtain ⟨Ao53, co53, eo53⟩ := Kd.R_slice HO776.out; subst eo53; have hnb54 := NB778_760.out; have hnc54 := NB760_778.out; have hnb55 := NB778_769.out; have hnc55 := NB769_778.out; have hnb56 := NB778_773.out; have hnc56 := NB773_778.out; have hcz57_0 : w52.cell? ⟨gb778, 0, none⟩ = some (.slice none 0 0) := (blk_cell BK778.out 0).trans rfl; have hfz57_0 := blk_frozen BK778.out 0; have hcz58_0 : w52.cell? ⟨gb769, 0, none⟩ = some (.slice Ao41 t765.length co41) := (blk_cell BK769.out 0).trans rfl; have hfz58_0 := blk_frozen BK769.out 0) | ((with_reducible refine gate_callee (f := 22) rfl ?_); refine goesL_ (some 34) rfl rfl Try.func22 (by kernel_rfl) rfl #[.agg #[.slice Ao53 t774.length co53], .agg #[.slice Ao41 t765.length co41]] rfl zl ?_; (with_reducible refine (laws_eqSignature.calls k _ _ t774 _ _ t765 true _ ?side1 ?side2 ?side3 ?side4 A11.out).mono ?_); (case side1 => refine (Kd.R_reads' (e := 41) (base := w.heap.size) (ok := fun k_ => (((True ∧ some k_ ≠ (.slice Ao38 t762.length co38 : Value).ownBlock) ∧ some k_ ≠ (.slice Ao41 t765.length co41 : Value).ownBlock) ∧ some k_ ≠ (.slice Ao47 t770.length co47 : Value).ownBlock)) (n := t774.length) (c := co53) ?_).2.2; exact (by (with_reducible repeat (first | apply Kd.R_alloc | apply Kd.R_drewN | apply Kd.R_drew)); exact (Kd.R_mono (Kd.R_far (p := ⟨gb778, 0, none⟩) (Kd.R_types HO776.out BK778.out (by decide)) (fun _ hk => hk.2) (.slice Ao53 t774.length co53)) (fun _ h_ => h_.1)))); (case side2 => exact (Kd.R_reads' HO776.out).2.1); (case side3 => refine (Kd.R_reads' (e := 41) (base := w.heap.size) (ok := fun k_ => (((True ∧ some k_ ≠ (.slice Ao38 t762.length co38 : Value).ownBlock) ∧ some k_ ≠ (.slice Ao47 t770.length co47 : Value).ownBlock) ∧ some k_ ≠ (.slice Ao53 t774.length co53 : Value).ownBlock)) (n := t765.length) (c := co41) ?_).2.2; exact (by (with_reducible repeat (first | apply Kd.R_alloc | apply Kd.R_drewN | apply Kd.R_drew)); exact (Kd.R_mono (Kd.R_far (p := ⟨gb778, 0, none⟩) (Kd.R_types HO767.out BK778.out (by decide)) (fun _ hk => hk.2) (.slice Ao53 t774.length co53)) (fun _ h_ => h_.1)))); (case side4 => exact (Kd.R_reads' HO767.out).2.1); rintro e w59 ⟨rfl, hb⟩; refine ⟨_, rfl, ?_⟩; replace HO764 := Aside0.mk (Kd.R_below (by (with_reducible repeat (first | apply Kd.R_alloc | apply Kd.R_drewN | apply Kd.R_drew)); exact (Kd.R_mono (Kd.R_far (p := ⟨gb778, 0, none⟩) (Kd.R_types HO764.out BK778.out (by decide)) (fun _ hk => hk.2) (.slice Ao53 t774.length co53)) (fun _ h_ => h_.1))) hb); replace HO767 := Aside0.mk (Kd.R_below (by (with_reducible repeat (first | apply Kd.R_alloc | apply Kd.R_drewN | apply Kd.R_drew)); exact (Kd.R_mono (Kd.R_far (p := ⟨gb778, 0, none⟩) (Kd.R_types HO767.out BK778.out (by decide)) (fun _ hk => hk.2) (.slice Ao53 t774.length co53)) (fun _ h_ => h_.1))) hb); replace HO772 := Aside0.mk (Kd.R_below (by (with_reducible repeat (first | apply Kd.R_alloc | apply Kd.R_drewN | apply Kd.R_drew)); exact (Kd.R_mono (Kd.R_far (p := ⟨gb778, 0, none⟩) (Kd.R_types HO772.out BK778.out (by decide)) (fun _ hk => hk.2) (.slice Ao53 t774.length co53)) (fun _ h_ => h_.1))) hb); replace HO776 := Aside0.mk (Kd.R_below (by (with_reducible repeat (first | apply Kd.R_alloc | apply Kd.R_drewN | apply Kd.R_drew)); exact (Kd.R_mono (Kd.R_far (p := ⟨gb778, 0, none⟩) (Kd.R_types HO776.out BK778.out (by decide)) (fun _ hk => hk.2) (.slice Ao53 t774.length co53)) (fun _ h_ => h_.1))) hb); replace BK760 := Aside0.mk (blk_below (g := gb760) (o := .cells #[.slice A0_0 l0_0.length c0_0] 31 (0, 0)) (zf BK760) hb); replace BK769 := Aside0.mk (blk_below (g := gb769) (o := .cells #[.slice Ao41 t765.length co41] 25 (0, 0)) (zf BK769) hb); replace BK773 := Aside0.mk (blk_below (g := gb773) (o := .cells #[.slice Ao47 t770.length co47] 25 (0, 0)) (zf BK773) hb); replace BK778 := Aside0.mk (blk_below (g := gb778) (o := .cells #[.slice Ao53 t774.length co53] 25 (0, 0)) (by (with_reducible repeat (first | refine blk_drewN ?_ _ | refine blk_drew ?_ | refine blk_alloc ?_ _)); refine blk_put (cs := #[.slice none 0 0]) ?_ 0 _ rfl; (with_reducible repeat (first | refine blk_drewN ?_ _ | refine blk_drew ?_ | refine blk_alloc ?_ _)); exact BK778.out) hb); replace HB := Aside0.mk (below_step (zB HB) hb); (try clear hb); (try clear hb2); (try clear hk); (try clear hi)))
             replace HO764 := Aside0.mk (Kd.R_drew HO764.out)
             replace HO767 := Aside0.mk (Kd.R_drew HO767.out)
             replace HO772 := Aside0.mk (Kd.R_drew HO772.out)
             replace HO776 := Aside0.mk (Kd.R_drew HO776.out)
             replace BK760 := Aside0.mk (blk_drew BK760.out)
             replace BK769 := Aside0.mk (blk_drew BK769.out)
             replace BK773 := Aside0.mk (blk_drew BK773.out)
             replace BK778 := Aside0.mk (blk_drew BK778.out)
             replace HB := Aside0.mk (below_drew1 HB.out)
             refine start_ (n := 5) (S := fun w' => w'.cell? ⟨gb773, 0, none⟩ = some (.slice Ao47 t770.length co47) ∧ w'.cell? ⟨gb760, 0, none⟩ = some (.slice A0_0 l0_0.length c0_0)) (ds := []) #[false, false, false, false, false] (by kernel_rfl) rfl rfl ⟨(blk_cell BK773.out 0).trans rfl, (blk_cell BK760.out 0).trans rfl⟩ (fun hHeld => ?_)
             generalize w59.drew = w60 at HO764 HO767 HO772 HO776 BK760 BK769 BK773 BK778 HB hHeld ⊢
             refine take_ (i := 0) (N := some 41) (v := ?_) (a' := ?_) #[true, false, false, false, false] rfl rfl (by kernel_rfl) (fun _ _ _ h => h) (Or.inl ⟨by rfl, ?_⟩) hHeld ?_ ?_
             rotate_left
             ·rintro w' ⟨s0, s1⟩
              go_simp
              with_reducible rfl
             rotate_left
             ·simp only [Act.put, List.setIfInBounds_toArray, List.set_cons_zero, List.set_cons_succ, i64_w, i32_w]
              rfl
             refine take_ (i := 1) (N := some 42) (v := ?_) (a' := ?_) #[true, true, false, false, false] rfl rfl (by kernel_rfl) (fun _ _ _ h => h) (Or.inl ⟨by rfl, ?_⟩) hHeld ?_ ?_
             rotate_left
             ·rintro w' ⟨s0, s1⟩
              go_simp
              with_reducible rfl
             rotate_left
             ·simp only [Act.put, List.setIfInBounds_toArray, List.set_cons_zero, List.set_cons_succ, i64_w, i32_w]
              rfl
             refine one_ (i := 2) (N := some 43) #[true, true, true, false, false] rfl rfl (by kernel_rfl) (by decide) (fun K hK => ?_)
             refine goes_ Try.func20 (by kernel_rfl) rfl #[.agg #[.slice A0_0 l0_0.length c0_0]] (by rfl) rfl rfl zl ?_
             with_reducible refine (laws_toSignature.calls k _ _ l0_0 t780 _ ?side1 ?side2 A14.out).mono ?_
             (case side1 => repeat (first | exact (Kd.C_below HR0_0.out HB.out) | (with_reducible refine Kd.C_alloc ?_ _) | (with_reducible refine Kd.C_drewN ?_ _) | (with_reducible refine Kd.C_drew ?_)))
             (case side2 => exact HC0_0.out)
             rintro e w61 ⟨v781, rfl, ho0, hb⟩
             refine ⟨_, rfl, ?_⟩
             have HO782 := Aside0.mk (Kd.R_lower (Kd.R_new' (Kd.R_new' (Kd.R_new' (Kd.R_new' ho0 (Kd.R_lt (zo HO764))) (Kd.R_lt (zo HO767))) (Kd.R_lt (zo HO772))) (Kd.R_lt (zo HO776))) (below_size (zB HB)))
             replace HO764 := Aside0.mk (Kd.R_elder' (zo HO764) (Kd.R_base ho0) hb)
             replace HO767 := Aside0.mk (Kd.R_elder' (zo HO767) (Kd.R_base ho0) hb)
             replace HO772 := Aside0.mk (Kd.R_elder' (zo HO772) (Kd.R_base ho0) hb)
             replace HO776 := Aside0.mk (Kd.R_elder' (zo HO776) (Kd.R_base ho0) hb)
             replace BK760 := Aside0.mk (blk_below (g := gb760) (o := .cells #[.slice A0_0 l0_0.length c0_0] 31 (0, 0)) (zb BK760) hb)
             replace BK769 := Aside0.mk (blk_below (g := gb769) (o := .cells #[.slice Ao41 t765.length co41] 25 (0, 0)) (zb BK769) hb)
             replace BK773 := Aside0.mk (blk_below (g := gb773) (o := .cells #[.slice Ao47 t770.length co47] 25 (0, 0)) (zb BK773) hb)
             replace BK778 := Aside0.mk (blk_below (g := gb778) (o := .cells #[.slice Ao53 t774.length co53] 25 (0, 0)) (zb BK778) hb)
             replace HB := Aside0.mk (below_step (zB HB) hb)
             (try clear hb)
             (try clear hb2)
             (try clear hk)
             (try clear hi)
             (try clear ho0)
             obtain ⟨Ao62, co62, eo62⟩ := Kd.R_slice HO782.out
             (first | subst eo62 | (injection eo62 with f1_ f2_ f3_; have f4_ := f1_.symm; have f5_ := f3_.symm; clear f1_ f2_ f3_; subst f4_; subst f5_))
             refine hK.out _ _ ⟨(blk_cell BK773.out 0).trans rfl, (blk_cell BK760.out 0).trans rfl⟩ (fun hHeld => ?_)
             clear hK K
             refine norm_ (a' := ?_) ?_ ?_
             rotate_left
             ·show Act.put _ (some 43) _ = _
              simp only [Act.put, List.setIfInBounds_toArray, List.set_cons_zero, List.set_cons_succ, i64_w, i32_w]
              rfl
             refine one_ (i := 3) (N := some 44) #[true, true, true, true, false] rfl rfl (by kernel_rfl) (by decide) (fun K hK => ?_)
             refine goes_ Try.func22 (by kernel_rfl) rfl #[.agg #[.slice Ao47 t770.length co47], .agg #[.slice Ao62 t780.length co62]] (by rfl) rfl rfl zl ?_
             with_reducible refine (laws_eqSignature.calls k _ _ t770 _ _ t780 true _ ?side1 ?side2 ?side3 ?side4 A15.out).mono ?_
             (case side1 => repeat (first | exact (Kd.R_reads' HO772.out).2.2 | (with_reducible refine Kd.C_alloc ?_ _) | (with_reducible refine Kd.C_drewN ?_ _) | (with_reducible refine Kd.C_drew ?_)))
             (case side2 => exact (Kd.R_reads' HO772.out).2.1)
             (case side3 => repeat (first | exact (Kd.R_reads' HO782.out).2.2 | (with_reducible refine Kd.C_alloc ?_ _) | (with_reducible refine Kd.C_drewN ?_ _) | (with_reducible refine Kd.C_drew ?_)))
             (case side4 => exact (Kd.R_reads' HO782.out).2.1)
             rintro e w63 ⟨rfl, hb⟩
             refine ⟨_, rfl, ?_⟩
             replace HO764 := Aside0.mk (Kd.R_below (zo HO764) hb)
             replace HO767 := Aside0.mk (Kd.R_below (zo HO767) hb)
             replace HO772 := Aside0.mk (Kd.R_below (zo HO772) hb)
             replace HO776 := Aside0.mk (Kd.R_below (zo HO776) hb)
             replace HO782 := Aside0.mk (Kd.R_below (zo HO782) hb)
             replace BK760 := Aside0.mk (blk_below (g := gb760) (o := .cells #[.slice A0_0 l0_0.length c0_0] 31 (0, 0)) (zb BK760) hb)
             replace BK769 := Aside0.mk (blk_below (g := gb769) (o := .cells #[.slice Ao41 t765.length co41] 25 (0, 0)) (zb BK769) hb)
             replace BK773 := Aside0.mk (blk_below (g := gb773) (o := .cells #[.slice Ao47 t770.length co47] 25 (0, 0)) (zb BK773) hb)
             replace BK778 := Aside0.mk (blk_below (g := gb778) (o := .cells #[.slice Ao53 t774.length co53] 25 (0, 0)) (zb BK778) hb)
             replace HB := Aside0.mk (below_step (zB HB) hb)
             (try clear hb)
             (try clear hb2)
             (try clear hk)
             (try clear hi)
             refine hK.out _ _ ⟨(blk_cell BK773.out 0).trans rfl, (blk_cell BK760.out 0).trans rfl⟩ (fun hHeld => ?_)
             clear hK K
             refine norm_ (a' := ?_) ?_ ?_
             rotate_left
             ·show Act.put _ (some 44) _ = _
              simp only [Act.put, List.setIfInBounds_toArray, List.set_cons_zero, List.set_cons_succ, i64_w, i32_w]
              rfl
             refine pure_ (i := 4) (N := some 45) (v := ?_) (a' := ?_) #[true, true, true, true, true] rfl rfl (by kernel_rfl) (fun _ _ _ h => h) (Or.inl ⟨by rfl, ?_⟩) ?_ ?_
             rotate_left
             ·intro w'
              go_simp
              with_reducible rfl
             rotate_left
             ·simp only [Act.put, List.setIfInBounds_toArray, List.set_cons_zero, List.set_cons_succ, i64_w, i32_w]
              rfl
             refine done_ (by kernel_rfl) ?_
             have hcz64_0 : w63.cell? ⟨gb773, 0, none⟩ = some (.slice Ao47 t770.length co47) := (blk_cell BK773.out 0).trans rfl
             have hfz64_0 := blk_frozen BK773.out 0
             try go_wp2_with (first | ((with_reducible refine gate_callee (f := 37) rfl ?_); refine goesL_ (some 48) rfl rfl Try.func37 (by kernel_rfl) rfl #[.agg #[.slice Ao47 t770.length co47], .int .i64 1] rfl zl ?_; (with_reducible refine (laws_markSignature.calls k (fun k_ => some k_ = (.slice Ao47 t770.length co47 : Value).ownBlock) (.slice Ao47 t770.length co47) t770 1 t784 t785 w _ ?side1 ?side2 A17.out).mono ?_); (case side1 => exact zB HB); (case side2 => exact Kd.R_tight rfl HO772.out); rintro e w65 ⟨rfl, hy0, hb, hkp⟩; refine ⟨_, rfl, ?_⟩; replace BK760 := Aside0.mk (blk_kept (zb BK760) hkp (fun hs_ => (fun e_ => (Kd.R_ne HO772.out BK760.out (by decide)) e_) hs_)); replace HO764 := Aside0.mk (Kd.R_mono (ok' := fun k_ => some k_ ≠ (.slice Ao41 t765.length co41 : Value).ownBlock ∧ some k_ ≠ (.slice Ao47 t770.length co47 : Value).ownBlock ∧ some k_ ≠ (.slice Ao53 t774.length co53 : Value).ownBlock ∧ some k_ ≠ (.slice Ao62 t780.length co62 : Value).ownBlock) (Kd.R_keptB (HO764.out) hkp (fun k_ hk_ hs_ => by first | exact (hk_.1.1.2) hs_ | (revert hk_; (try simp only [and_imp]); intros; simp_all))) (fun k_ hk_ => by first | exact ⟨hk_.1.1.1.1.2, hk_.1.1.1.2, hk_.1.1.2, hk_.1.2⟩ | (revert hk_; (try simp only [and_imp]); intros; (repeat' (first | assumption | constructor))))); replace HO767 := Aside0.mk (Kd.R_mono (ok' := fun k_ => some k_ ≠ (.slice Ao38 t762.length co38 : Value).ownBlock ∧ some k_ ≠ (.slice Ao47 t770.length co47 : Value).ownBlock ∧ some k_ ≠ (.slice Ao53 t774.length co53 : Value).ownBlock ∧ some k_ ≠ (.slice Ao62 t780.length co62 : Value).ownBlock) (Kd.R_keptB (HO767.out) hkp (fun k_ hk_ hs_ => by first | exact (hk_.1.1.2) hs_ | (revert hk_; (try simp only [and_imp]); intros; simp_all))) (fun k_ hk_ => by first | exact ⟨hk_.1.1.1.1.2, hk_.1.1.1.2, hk_.1.1.2, hk_.1.2⟩ | (revert hk_; (try simp only [and_imp]); intros; (repeat' (first | assumption | constructor))))); replace BK769 := Aside0.mk (blk_kept (zb BK769) hkp (fun hs_ => (fun e_ => (Kd.R_ne HO772.out BK769.out (by decide)) e_) hs_)); replace BK773 := Aside0.mk (blk_kept (zb BK773) hkp (fun hs_ => (fun e_ => (Kd.R_ne HO772.out BK773.out (by decide)) e_) hs_)); replace HO776 := Aside0.mk (Kd.R_mono (ok' := fun k_ => some k_ ≠ (.slice Ao38 t762.length co38 : Value).ownBlock ∧ some k_ ≠ (.slice Ao41 t765.length co41 : Value).ownBlock ∧ some k_ ≠ (.slice Ao47 t770.length co47 : Value).ownBlock ∧ some k_ ≠ (.slice Ao62 t780.length co62 : Value).ownBlock) (Kd.R_keptB (HO776.out) hkp (fun k_ hk_ hs_ => by first | exact (hk_.1.2) hs_ | (revert hk_; (try simp only [and_imp]); intros; simp_all))) (fun k_ hk_ => by first | exact ⟨hk_.1.1.1.1.2, hk_.1.1.1.2, hk_.1.1.2, hk_.1.2⟩ | (revert hk_; (try simp only [and_imp]); intros; (repeat' (first | assumption | constructor))))); replace BK778 := Aside0.mk (blk_kept (zb BK778) hkp (fun hs_ => (fun e_ => (Kd.R_ne HO772.out BK778.out (by decide)) e_) hs_)); replace HO772 := Aside0.mk (Kd.R_reok rfl hy0 (fun k_ e_ => HO772.out.1 k_ e_)); replace HO782 := Aside0.mk (Kd.R_mono (ok' := fun k_ => some k_ ≠ (.slice Ao38 t762.length co38 : Value).ownBlock ∧ some k_ ≠ (.slice Ao41 t765.length co41 : Value).ownBlock ∧ some k_ ≠ (.slice Ao47 t770.length co47 : Value).ownBlock ∧ some k_ ≠ (.slice Ao53 t774.length co53 : Value).ownBlock) (Kd.R_keptB (HO782.out) hkp (fun k_ hk_ hs_ => by first | exact (hk_.1.2) hs_ | (revert hk_; (try simp only [and_imp]); intros; simp_all))) (fun k_ hk_ => by first | exact ⟨hk_.1.1.1.1.2, hk_.1.1.1.2, hk_.1.1.2, hk_.1.2⟩ | (revert hk_; (try simp only [and_imp]); intros; (repeat' (first | assumption | constructor))))); replace HB := Aside0.mk (hb); (try clear hb); (try clear hkp); (try clear hy0); have hcz66_0 : w65.cell? ⟨gb778, 0, none⟩ = some (.slice Ao53 t774.length co53) := (blk_cell BK778.out 0).trans rfl; have hfz66_0 := blk_frozen BK778.out 0; have hcz67_0 : w65.cell? ⟨gb769, 0, none⟩ = some (.slice Ao41 t765.length co41) := (blk_cell BK769.out 0).trans rfl; have hfz67_0 := blk_frozen BK769.out 0) | (go_at_call 22; (with_reducible refine (laws_eqSignature.calls k _ _ t774 _ _ t765 true _ ?side1 ?side2 ?side3 ?side4 A19.out).mono ?_); (case side1 => repeat (first | exact (Kd.R_reads' HO776.out).2.2 | (with_reducible refine Kd.C_alloc ?_ _) | (with_reducible refine Kd.C_drewN ?_ _) | (with_reducible refine Kd.C_drew ?_))); (case side2 => exact (Kd.R_reads' HO776.out).2.1); (case side3 => repeat (first | exact (Kd.R_reads' HO767.out).2.2 | (with_reducible refine Kd.C_alloc ?_ _) | (with_reducible refine Kd.C_drewN ?_ _) | (with_reducible refine Kd.C_drew ?_))); (case side4 => exact (Kd.R_reads' HO767.out).2.1); rintro e w68 ⟨rfl, hb⟩; replace HO764 := Aside0.mk (Kd.R_below (zo HO764) hb); replace HO767 := Aside0.mk (Kd.R_below (zo HO767) hb); replace HO772 := Aside0.mk (Kd.R_below (zo HO772) hb); replace HO776 := Aside0.mk (Kd.R_below (zo HO776) hb); replace HO782 := Aside0.mk (Kd.R_below (zo HO782) hb); replace BK760 := Aside0.mk (blk_below (g := gb760) (o := .cells #[.slice A0_0 l0_0.length c0_0] 31 (0, 0)) (zb BK760) hb); replace BK769 := Aside0.mk (blk_below (g := gb769) (o := .cells #[.slice Ao41 t765.length co41] 25 (0, 0)) (zb BK769) hb); replace BK773 := Aside0.mk (blk_below (g := gb773) (o := .cells #[.slice Ao47 t770.length co47] 25 (0, 0)) (zb BK773) hb); replace BK778 := Aside0.mk (blk_below (g := gb778) (o := .cells #[.slice Ao53 t774.length co53] 25 (0, 0)) (zb BK778) hb); replace HB := Aside0.mk (below_step (zB HB) hb); (try clear hb); (try clear hb2); (try clear hk); (try clear hi); have hcz69_0 : w68.cell? ⟨gb778, 0, none⟩ = some (.slice Ao53 t774.length co53) := (blk_cell BK778.out 0).trans rfl; have hfz69_0 := blk_frozen BK778.out 0) | ((with_reducible refine gate_callee (f := 37) rfl ?_); refine goesL_ (some 64) rfl rfl Try.func37 (by kernel_rfl) rfl #[.agg #[.slice Ao53 t774.length co53], .int .i64 1] rfl zl ?_; (with_reducible refine (laws_markSignature.calls k (fun k_ => some k_ = (.slice Ao53 t774.length co53 : Value).ownBlock) (.slice Ao53 t774.length co53) t774 1 t787 t788 w _ ?side1 ?side2 A21.out).mono ?_); (case side1 => exact zB HB); (case side2 => exact Kd.R_tight rfl HO776.out); rintro e w70 ⟨rfl, hy0, hb, hkp⟩; refine ⟨_, rfl, ?_⟩; replace BK760 := Aside0.mk (blk_kept (zb BK760) hkp (fun hs_ => (fun e_ => (Kd.R_ne HO776.out BK760.out (by decide)) e_) hs_)); replace HO764 := Aside0.mk (Kd.R_mono (ok' := fun k_ => some k_ ≠ (.slice Ao41 t765.length co41 : Value).ownBlock ∧ some k_ ≠ (.slice Ao47 t770.length co47 : Value).ownBlock ∧ some k_ ≠ (.slice Ao53 t774.length co53 : Value).ownBlock ∧ some k_ ≠ (.slice Ao62 t780.length co62 : Value).ownBlock) (Kd.R_keptB (HO764.out) hkp (fun k_ hk_ hs_ => by first | exact (hk_.2.2.1) hs_ | (revert hk_; (try simp only [and_imp]); intros; simp_all))) (fun k_ hk_ => by first | exact ⟨hk_.1.1, hk_.1.2.1, hk_.1.2.2.1, hk_.1.2.2.2⟩ | (revert hk_; (try simp only [and_imp]); intros; (repeat' (first | assumption | constructor))))); replace HO767 := Aside0.mk (Kd.R_mono (ok' := fun k_ => some k_ ≠ (.slice Ao38 t762.length co38 : Value).ownBlock ∧ some k_ ≠ (.slice Ao47 t770.length co47 : Value).ownBlock ∧ some k_ ≠ (.slice Ao53 t774.length co53 : Value).ownBlock ∧ some k_ ≠ (.slice Ao62 t780.length co62 : Value).ownBlock) (Kd.R_keptB (HO767.out) hkp (fun k_ hk_ hs_ => by first | exact (hk_.2.2.1) hs_ | (revert hk_; (try simp only [and_imp]); intros; simp_all))) (fun k_ hk_ => by first | exact ⟨hk_.1.1, hk_.1.2.1, hk_.1.2.2.1, hk_.1.2.2.2⟩ | (revert hk_; (try simp only [and_imp]); intros; (repeat' (first | assumption | constructor))))); replace BK769 := Aside0.mk (blk_kept (zb BK769) hkp (fun hs_ => (fun e_ => (Kd.R_ne HO776.out BK769.out (by decide)) e_) hs_)); replace HO772 := Aside0.mk (Kd.R_mono (ok' := fun k_ => some k_ ≠ (.slice Ao38 t762.length co38 : Value).ownBlock ∧ some k_ ≠ (.slice Ao41 t765.length co41 : Value).ownBlock ∧ some k_ ≠ (.slice Ao53 t774.length co53 : Value).ownBlock ∧ some k_ ≠ (.slice Ao62 t780.length co62 : Value).ownBlock) (Kd.R_keptB (HO772.out) hkp (fun k_ hk_ hs_ => by first | exact (hk_.1.2) hs_ | (revert hk_; (try simp only [and_imp]); intros; simp_all))) (fun k_ hk_ => by first | exact ⟨hk_.1.1.1.1.2, hk_.1.1.1.2, hk_.1.1.2, hk_.1.2⟩ | (revert hk_; (try simp only [and_imp]); intros; (repeat' (first | assumption | constructor))))); replace BK773 := Aside0.mk (blk_kept (zb BK773) hkp (fun hs_ => (fun e_ => (Kd.R_ne HO776.out BK773.out (by decide)) e_) hs_)); replace BK778 := Aside0.mk (blk_kept (zb BK778) hkp (fun hs_ => (fun e_ => (Kd.R_ne HO776.out BK778.out (by decide)) e_) hs_)); replace HO776 := Aside0.mk (Kd.R_reok rfl hy0 (fun k_ e_ => HO776.out.1 k_ e_)); replace HO782 := Aside0.mk (Kd.R_mono (ok' := fun k_ => some k_ ≠ (.slice Ao38 t762.length co38 : Value).ownBlock ∧ some k_ ≠ (.slice Ao41 t765.length co41 : Value).ownBlock ∧ some k_ ≠ (.slice Ao47 t770.length co47 : Value).ownBlock ∧ some k_ ≠ (.slice Ao53 t774.length co53 : Value).ownBlock) (Kd.R_keptB (HO782.out) hkp (fun k_ hk_ hs_ => by first | exact (hk_.2.2.2) hs_ | (revert hk_; (try simp only [and_imp]); intros; simp_all))) (fun k_ hk_ => by first | exact ⟨hk_.1.1, hk_.1.2.1, hk_.1.2.2.1, hk_.1.2.2.2⟩ | (revert hk_; (try simp only [and_imp]); intros; (repeat' (first | assumption | constructor))))); replace HB := Aside0.mk (hb); (try clear hb); (try clear hkp); (try clear hy0); have hcz71_0 : w70.cell? ⟨gb778, 0, none⟩ = some (.slice Ao53 t774.length co53) := (blk_cell BK778.out 0).trans rfl; have hfz71_0 := blk_frozen BK778.out 0) | ((with_reducible refine gate_callee (f := 42) rfl ?_); refine goesL_ (some 67) rfl rfl Try.func42 (by kernel_rfl) rfl #[.agg #[.slice Ao53 t788.length co53], .int .i64 1] rfl (by (try simp only [List.map_toArray, List.map_cons, List.map_nil]); first | done | (rw [show t788.length = t774.length from (Kd.R_reads' HO776.out).1.symm] <;> rfl) | rfl | (simp only [List.length_drop, List.length_take]; rfl)) ?_; (with_reducible refine (laws_heldSignature.calls k _ _ t788 1 t789 _ ?side1 ?side2 A22.out).mono ?_); (case side1 => repeat (first | exact (Kd.R_reads' HO776.out).2.2 | (with_reducible refine Kd.C_alloc ?_ _) | (with_reducible refine Kd.C_drewN ?_ _) | (with_reducible refine Kd.C_drew ?_))); (case side2 => rw [show t788.length = t774.length from (Kd.R_reads' HO776.out).1.symm]; exact (Kd.R_reads' HO776.out).2.1); rintro e w72 ⟨rfl, hb⟩; refine ⟨_, rfl, ?_⟩; replace HO764 := Aside0.mk (Kd.R_below (zo HO764) hb); replace HO767 := Aside0.mk (Kd.R_below (zo HO767) hb); replace HO772 := Aside0.mk (Kd.R_below (zo HO772) hb); replace HO776 := Aside0.mk (Kd.R_below (zo HO776) hb); replace HO782 := Aside0.mk (Kd.R_below (zo HO782) hb); replace BK760 := Aside0.mk (blk_below (g := gb760) (o := .cells #[.slice A0_0 l0_0.length c0_0] 31 (0, 0)) (zb BK760) hb); replace BK769 := Aside0.mk (blk_below (g := gb769) (o := .cells #[.slice Ao41 t765.length co41] 25 (0, 0)) (zb BK769) hb); replace BK773 := Aside0.mk (blk_below (g := gb773) (o := .cells #[.slice Ao47 t770.length co47] 25 (0, 0)) (zb BK773) hb); replace BK778 := Aside0.mk (blk_below (g := gb778) (o := .cells #[.slice Ao53 t774.length co53] 25 (0, 0)) (zb BK778) hb); replace HB := Aside0.mk (below_step (zB HB) hb); (try clear hb); (try clear hb2); (try clear hk); (try clear hi); have hcz73_0 : w72.cell? ⟨gb760, 0, none⟩ = some (.slice A0_0 l0_0.length c0_0) := (blk_cell BK760.out 0).trans rfl; have hfz73_0 := blk_frozen BK760.out 0) | ((with_reducible refine gate_callee (f := 20) rfl ?_); refine goesL_ (some 75) rfl rfl Try.func20 (by kernel_rfl) rfl #[.agg #[.slice A0_0 l0_0.length c0_0]] rfl zl ?_; (with_reducible refine (laws_toSignature.calls k _ _ l0_0 t790 _ ?side1 ?side2 A25.out).mono ?_); (case side1 => repeat (first | exact (Kd.C_below HR0_0.out HB.out) | (with_reducible refine Kd.C_alloc ?_ _) | (with_reducible refine Kd.C_drewN ?_ _) | (with_reducible refine Kd.C_drew ?_))); (case side2 => exact HC0_0.out); rintro e w74 ⟨v791, rfl, ho0, hb⟩; refine ⟨_, rfl, ?_⟩; have HO792 := Aside0.mk (Kd.R_lower (Kd.R_new' (Kd.R_new' (Kd.R_new' (Kd.R_new' (Kd.R_new' ho0 (Kd.R_lt (zo HO764))) (Kd.R_lt (zo HO767))) (Kd.R_lt (zo HO772))) (Kd.R_lt (zo HO776))) (Kd.R_lt (zo HO782))) (below_size (zB HB))); replace HO764 := Aside0.mk (Kd.R_elder' (zo HO764) (Kd.R_base ho0) hb); replace HO767 := Aside0.mk (Kd.R_elder' (zo HO767) (Kd.R_base ho0) hb); replace HO772 := Aside0.mk (Kd.R_elder' (zo HO772) (Kd.R_base ho0) hb); replace HO776 := Aside0.mk (Kd.R_elder' (zo HO776) (Kd.R_base ho0) hb); replace HO782 := Aside0.mk (Kd.R_elder' (zo HO782) (Kd.R_base ho0) hb); replace BK760 := Aside0.mk (blk_below (g := gb760) (o := .cells #[.slice A0_0 l0_0.length c0_0] 31 (0, 0)) (zb BK760) hb); replace BK769 := Aside0.mk (blk_below (g := gb769) (o := .cells #[.slice Ao41 t765.length co41] 25 (0, 0)) (zb BK769) hb); replace BK773 := Aside0.mk (blk_below (g := gb773) (o := .cells #[.slice Ao47 t770.length co47] 25 (0, 0)) (zb BK773) hb); replace BK778 := Aside0.mk (blk_below (g := gb778) (o := .cells #[.slice Ao53 t774.length co53] 25 (0, 0)) (zb BK778) hb); replace HB := Aside0.mk (below_step (zB HB) hb); (try clear hb); (try clear hb2); (try clear hk); (try clear hi); (try clear ho0); obtain ⟨Ao75, co75, eo75⟩ := Kd.R_slice HO792.out; subst eo75) | ((with_reducible refine gate_callee (f := 46) rfl ?_); refine goesL_ (some 76) rfl rfl Try.func46 (by kernel_rfl) rfl #[.agg #[.slice Ao75 t790.length co75]] rfl zl ?_; (with_reducible refine (impl_NamedOnly.calls k _ _ t790 t793 t796 _ ?side1 ?side2 A26.out).mono ?_); (case side1 => repeat (first | exact (Kd.R_reads' HO792.out).2.2 | (with_reducible refine Kd.C_alloc ?_ _) | (with_reducible refine Kd.C_drewN ?_ _) | (with_reducible refine Kd.C_drew ?_))); (case side2 => exact (Kd.R_reads' HO792.out).2.1); rintro e w76 ⟨v794, rfl, ho0, hb⟩; refine ⟨_, rfl, ?_⟩; have HO795 := Aside0.mk (Kd.R_lower (Kd.R_new' (Kd.R_new' (Kd.R_new' (Kd.R_new' (Kd.R_new' (Kd.R_new' ho0 (Kd.R_lt (zo HO764))) (Kd.R_lt (zo HO767))) (Kd.R_lt (zo HO772))) (Kd.R_lt (zo HO776))) (Kd.R_lt (zo HO782))) (Kd.R_lt (zo HO792))) (below_size (zB HB))); replace HO764 := Aside0.mk (Kd.R_elder' (zo HO764) (Kd.R_base ho0) hb); replace HO767 := Aside0.mk (Kd.R_elder' (zo HO767) (Kd.R_base ho0) hb); replace HO772 := Aside0.mk (Kd.R_elder' (zo HO772) (Kd.R_base ho0) hb); replace HO776 := Aside0.mk (Kd.R_elder' (zo HO776) (Kd.R_base ho0) hb); replace HO782 := Aside0.mk (Kd.R_elder' (zo HO782) (Kd.R_base ho0) hb); replace HO792 := Aside0.mk (Kd.R_elder' (zo HO792) (Kd.R_base ho0) hb); replace BK760 := Aside0.mk (blk_below (g := gb760) (o := .cells #[.slice A0_0 l0_0.length c0_0] 31 (0, 0)) (zb BK760) hb); replace BK769 := Aside0.mk (blk_below (g := gb769) (o := .cells #[.slice Ao41 t765.length co41] 25 (0, 0)) (zb BK769) hb); replace BK773 := Aside0.mk (blk_below (g := gb773) (o := .cells #[.slice Ao47 t770.length co47] 25 (0, 0)) (zb BK773) hb); replace BK778 := Aside0.mk (blk_below (g := gb778) (o := .cells #[.slice Ao53 t774.length co53] 25 (0, 0)) (zb BK778) hb); replace HB := Aside0.mk (below_step (zB HB) hb); (try clear hb); (try clear hb2); (try clear hk); (try clear hi); (try clear ho0)) | ((with_reducible refine gate_dst (N := 12) rfl ?_); refine box_event ?hg (N := 12) ?hd (cs := #[.slice none 0 0]) (t := 25) ?hr ?_; (case hd => rfl); (case hg => rfl); (case hr => first | (go_simp; done) | (go_simp; rfl)); intro gb797 hg w77 hbox hb; replace HO764 := Aside0.mk (Kd.R_below (zo HO764) hb); replace HO767 := Aside0.mk (Kd.R_below (zo HO767) hb); replace HO772 := Aside0.mk (Kd.R_below (zo HO772) hb); replace HO776 := Aside0.mk (Kd.R_below (zo HO776) hb); replace HO782 := Aside0.mk (Kd.R_below (zo HO782) hb); replace HO792 := Aside0.mk (Kd.R_below (zo HO792) hb); replace HO795 := Aside0.mk (Kd.R_below (zo HO795) hb); have BK797 := Aside0.mk (hbox); have GW797 := Aside0.mk ((by rw [hg]; exact (below_size (zB HB)) : w.heap.size ≤ gb797)); have GE797 := Aside0.mk ((by rw [hg]; exact (below_size (zB HB)) : w.heap.size ≤ gb797)); replace HB := Aside0.mk (below_step (zB HB) hb); have NB760_797 := Aside0.mk ((by rw [hg]; exact Nat.ne_of_lt (blk_lt (g := gb760) (o := .cells #[.slice A0_0 l0_0.length c0_0] 31 (0, 0)) (zb BK760)) : gb760 ≠ gb797)); have NB797_760 := Aside0.mk ((by rw [hg]; exact Nat.ne_of_gt (blk_lt (g := gb760) (o := .cells #[.slice A0_0 l0_0.length c0_0] 31 (0, 0)) (zb BK760)) : gb797 ≠ gb760)); replace BK760 := Aside0.mk (blk_below (g := gb760) (o := .cells #[.slice A0_0 l0_0.length c0_0] 31 (0, 0)) (zb BK760) hb); have NB769_797 := Aside0.mk ((by rw [hg]; exact Nat.ne_of_lt (blk_lt (g := gb769) (o := .cells #[.slice Ao41 t765.length co41] 25 (0, 0)) (zb BK769)) : gb769 ≠ gb797)); have NB797_769 := Aside0.mk ((by rw [hg]; exact Nat.ne_of_gt (blk_lt (g := gb769) (o := .cells #[.slice Ao41 t765.length co41] 25 (0, 0)) (zb BK769)) : gb797 ≠ gb769)); replace BK769 := Aside0.mk (blk_below (g := gb769) (o := .cells #[.slice Ao41 t765.length co41] 25 (0, 0)) (zb BK769) hb); have NB773_797 := Aside0.mk ((by rw [hg]; exact Nat.ne_of_lt (blk_lt (g := gb773) (o := .cells #[.slice Ao47 t770.length co47] 25 (0, 0)) (zb BK773)) : gb773 ≠ gb797)); have NB797_773 := Aside0.mk ((by rw [hg]; exact Nat.ne_of_gt (blk_lt (g := gb773) (o := .cells #[.slice Ao47 t770.length co47] 25 (0, 0)) (zb BK773)) : gb797 ≠ gb773)); replace BK773 := Aside0.mk (blk_below (g := gb773) (o := .cells #[.slice Ao47 t770.length co47] 25 (0, 0)) (zb BK773) hb); have NB778_797 := Aside0.mk ((by rw [hg]; exact Nat.ne_of_lt (blk_lt (g := gb778) (o := .cells #[.slice Ao53 t774.length co53] 25 (0, 0)) (zb BK778)) : gb778 ≠ gb797)); have NB797_778 := Aside0.mk ((by rw [hg]; exact Nat.ne_of_gt (blk_lt (g := gb778) (o := .cells #[.slice Ao53 t774.length co53] 25 (0, 0)) (zb BK778)) : gb797 ≠ gb778)); replace BK778 := Aside0.mk (blk_below (g := gb778) (o := .cells #[.slice Ao53 t774.length co53] 25 (0, 0)) (zb BK778) hb); clear hb hbox hg; obtain ⟨Ao78, co78, eo78⟩ := Kd.R_slice HO795.out; subst eo78; have hnb79 := NB797_760.out; have hnc79 := NB760_797.out; have hnb80 := NB797_769.out; have hnc80 := NB769_797.out; have hnb81 := NB797_773.out; have hnc81 := NB773_797.out; have hnb82 := NB797_778.out; have hnc82 := NB778_797.out; have hcz83_0 : w77.cell? ⟨gb797, 0, none⟩ = some (.slice none 0 0) := (blk_cell BK797.out 0).trans rfl; have hfz83_0 := blk_frozen BK797.out 0; have hcz84_0 : w77.cell? ⟨gb769, 0, none⟩ = some (.slice Ao41 t765.length co41) := (blk_cell BK769.out 0).trans rfl; have hfz84_0 := blk_frozen BK769.out 0) | ((with_reducible refine gate_callee (f := 22) rfl ?_); refine goesL_ (some 81) rfl rfl Try.func22 (by kernel_rfl) rfl #[.agg #[.slice Ao78 t793.length co78], .agg #[.slice Ao41 t765.length co41]] rfl zl ?_; (with_reducible refine (laws_eqSignature.calls k _ _ t793 _ _ t765 true _ ?side1 ?side2 ?side3 ?side4 A27.out).mono ?_); (case side1 => refine (Kd.R_reads' (e := 41) (base := w.heap.size) (ok := fun k_ => ((((((True ∧ some k_ ≠ (.slice Ao38 t762.length co38 : Value).ownBlock) ∧ some k_ ≠ (.slice Ao41 t765.length co41 : Value).ownBlock) ∧ some k_ ≠ (.slice Ao47 t770.length co47 : Value).ownBlock) ∧ some k_ ≠ (.slice Ao53 t774.length co53 : Value).ownBlock) ∧ some k_ ≠ (.slice Ao62 t780.length co62 : Value).ownBlock) ∧ some k_ ≠ (.slice Ao75 t790.length co75 : Value).ownBlock)) (n := t793.length) (c := co78) ?_).2.2; exact (by (with_reducible repeat (first | apply Kd.R_alloc | apply Kd.R_drewN | apply Kd.R_drew)); exact (Kd.R_mono (Kd.R_far (p := ⟨gb797, 0, none⟩) (Kd.R_types HO795.out BK797.out (by decide)) (fun _ hk => hk.2) (.slice Ao78 t793.length co78)) (fun _ h_ => h_.1)))); (case side2 => exact (Kd.R_reads' HO795.out).2.1); (case side3 => refine (Kd.R_reads' (e := 41) (base := w.heap.size) (ok := fun k_ => (((some k_ ≠ (.slice Ao38 t762.length co38 : Value).ownBlock ∧ (some k_ ≠ (.slice Ao47 t770.length co47 : Value).ownBlock ∧ (some k_ ≠ (.slice Ao53 t774.length co53 : Value).ownBlock ∧ some k_ ≠ (.slice Ao62 t780.length co62 : Value).ownBlock))) ∧ some k_ ≠ (.slice Ao75 t790.length co75 : Value).ownBlock) ∧ some k_ ≠ (.slice Ao78 t793.length co78 : Value).ownBlock)) (n := t765.length) (c := co41) ?_).2.2; exact (by (with_reducible repeat (first | apply Kd.R_alloc | apply Kd.R_drewN | apply Kd.R_drew)); exact (Kd.R_mono (Kd.R_far (p := ⟨gb797, 0, none⟩) (Kd.R_types HO767.out BK797.out (by decide)) (fun _ hk => hk.2) (.slice Ao78 t793.length co78)) (fun _ h_ => h_.1)))); (case side4 => exact (Kd.R_reads' HO767.out).2.1); rintro e w85 ⟨rfl, hb⟩; refine ⟨_, rfl, ?_⟩; replace HO764 := Aside0.mk (Kd.R_below (by (with_reducible repeat (first | apply Kd.R_alloc | apply Kd.R_drewN | apply Kd.R_drew)); exact (Kd.R_mono (Kd.R_far (p := ⟨gb797, 0, none⟩) (Kd.R_types HO764.out BK797.out (by decide)) (fun _ hk => hk.2) (.slice Ao78 t793.length co78)) (fun _ h_ => h_.1))) hb); replace HO767 := Aside0.mk (Kd.R_below (by (with_reducible repeat (first | apply Kd.R_alloc | apply Kd.R_drewN | apply Kd.R_drew)); exact (Kd.R_mono (Kd.R_far (p := ⟨gb797, 0, none⟩) (Kd.R_types HO767.out BK797.out (by decide)) (fun _ hk => hk.2) (.slice Ao78 t793.length co78)) (fun _ h_ => h_.1))) hb); replace HO772 := Aside0.mk (Kd.R_below (by (with_reducible repeat (first | apply Kd.R_alloc | apply Kd.R_drewN | apply Kd.R_drew)); exact (Kd.R_mono (Kd.R_far (p := ⟨gb797, 0, none⟩) (Kd.R_types HO772.out BK797.out (by decide)) (fun _ hk => hk.2) (.slice Ao78 t793.length co78)) (fun _ h_ => h_.1))) hb); replace HO776 := Aside0.mk (Kd.R_below (by (with_reducible repeat (first | apply Kd.R_alloc | apply Kd.R_drewN | apply Kd.R_drew)); exact (Kd.R_mono (Kd.R_far (p := ⟨gb797, 0, none⟩) (Kd.R_types HO776.out BK797.out (by decide)) (fun _ hk => hk.2) (.slice Ao78 t793.length co78)) (fun _ h_ => h_.1))) hb); replace HO782 := Aside0.mk (Kd.R_below (by (with_reducible repeat (first | apply Kd.R_alloc | apply Kd.R_drewN | apply Kd.R_drew)); exact (Kd.R_mono (Kd.R_far (p := ⟨gb797, 0, none⟩) (Kd.R_types HO782.out BK797.out (by decide)) (fun _ hk => hk.2) (.slice Ao78 t793.length co78)) (fun _ h_ => h_.1))) hb); replace HO792 := Aside0.mk (Kd.R_below (by (with_reducible repeat (first | apply Kd.R_alloc | apply Kd.R_drewN | apply Kd.R_drew)); exact (Kd.R_mono (Kd.R_far (p := ⟨gb797, 0, none⟩) (Kd.R_types HO792.out BK797.out (by decide)) (fun _ hk => hk.2) (.slice Ao78 t793.length co78)) (fun _ h_ => h_.1))) hb); replace HO795 := Aside0.mk (Kd.R_below (by (with_reducible repeat (first | apply Kd.R_alloc | apply Kd.R_drewN | apply Kd.R_drew)); exact (Kd.R_mono (Kd.R_far (p := ⟨gb797, 0, none⟩) (Kd.R_types HO795.out BK797.out (by decide)) (fun _ hk => hk.2) (.slice Ao78 t793.length co78)) (fun _ h_ => h_.1))) hb); replace BK760 := Aside0.mk (blk_below (g := gb760) (o := .cells #[.slice A0_0 l0_0.length c0_0] 31 (0, 0)) (zf BK760) hb); replace BK769 := Aside0.mk (blk_below (g := gb769) (o := .cells #[.slice Ao41 t765.length co41] 25 (0, 0)) (zf BK769) hb); replace BK773 := Aside0.mk (blk_below (g := gb773) (o := .cells #[.slice Ao47 t770.length co47] 25 (0, 0)) (zf BK773) hb); replace BK778 := Aside0.mk (blk_below (g := gb778) (o := .cells #[.slice Ao53 t774.length co53] 25 (0, 0)) (zf BK778) hb); replace BK797 := Aside0.mk (blk_below (g := gb797) (o := .cells #[.slice Ao78 t793.length co78] 25 (0, 0)) (by (with_reducible repeat (first | refine blk_drewN ?_ _ | refine blk_drew ?_ | refine blk_alloc ?_ _)); refine blk_put (cs := #[.slice none 0 0]) ?_ 0 _ rfl; (with_reducible repeat (first | refine blk_drewN ?_ _ | refine blk_drew ?_ | refine blk_alloc ?_ _)); exact BK797.out) hb); replace HB := Aside0.mk (below_step (zB HB) hb); (try clear hb); (try clear hb2); (try clear hk); (try clear hi); have hcz86_0 : w85.cell? ⟨gb778, 0, none⟩ = some (.slice Ao53 t774.length co53) := (blk_cell BK778.out 0).trans rfl; have hfz86_0 := blk_frozen BK778.out 0) | ((with_reducible refine gate_callee (f := 42) rfl ?_); refine goesL_ (some 90) rfl rfl Try.func42 (by kernel_rfl) rfl #[.agg #[.slice Ao53 t788.length co53], .int .i64 1] rfl (by (try simp only [List.map_toArray, List.map_cons, List.map_nil]); first | done | (rw [show t788.length = t774.length from (Kd.R_reads' HO776.out).1.symm] <;> rfl) | rfl | (simp only [List.length_drop, List.length_take]; rfl)) ?_; (with_reducible refine (laws_heldSignature.calls k _ _ t788 1 t799 _ ?side1 ?side2 A30.out).mono ?_); (case side1 => repeat (first | exact (Kd.R_reads' HO776.out).2.2 | (with_reducible refine Kd.C_alloc ?_ _) | (with_reducible refine Kd.C_drewN ?_ _) | (with_reducible refine Kd.C_drew ?_))); (case side2 => rw [show t788.length = t774.length from (Kd.R_reads' HO776.out).1.symm]; exact (Kd.R_reads' HO776.out).2.1); rintro e w87 ⟨rfl, hb⟩; refine ⟨_, rfl, ?_⟩; replace HO764 := Aside0.mk (Kd.R_below (zo HO764) hb); replace HO767 := Aside0.mk (Kd.R_below (zo HO767) hb); replace HO772 := Aside0.mk (Kd.R_below (zo HO772) hb); replace HO776 := Aside0.mk (Kd.R_below (zo HO776) hb); replace HO782 := Aside0.mk (Kd.R_below (zo HO782) hb); replace HO792 := Aside0.mk (Kd.R_below (zo HO792) hb); replace HO795 := Aside0.mk (Kd.R_below (zo HO795) hb); replace BK760 := Aside0.mk (blk_below (g := gb760) (o := .cells #[.slice A0_0 l0_0.length c0_0] 31 (0, 0)) (zb BK760) hb); replace BK769 := Aside0.mk (blk_below (g := gb769) (o := .cells #[.slice Ao41 t765.length co41] 25 (0, 0)) (zb BK769) hb); replace BK773 := Aside0.mk (blk_below (g := gb773) (o := .cells #[.slice Ao47 t770.length co47] 25 (0, 0)) (zb BK773) hb); replace BK778 := Aside0.mk (blk_below (g := gb778) (o := .cells #[.slice Ao53 t774.length co53] 25 (0, 0)) (zb BK778) hb); replace BK797 := Aside0.mk (blk_below (g := gb797) (o := .cells #[.slice Ao78 t793.length co78] 25 (0, 0)) (zb BK797) hb); replace HB := Aside0.mk (below_step (zB HB) hb); (try clear hb); (try clear hb2); (try clear hk); (try clear hi)))
             go_ret
             exact ⟨by first | rfl | (simp [errW_none, errW_some] <;> rfl) | (simp [*, errW_none, errW_some] <;> rfl), zB HB⟩
            ·rw [if_neg c32] at H
             have c32b0 : (t799 == t787) = false := beq_eq_false_iff_ne.mpr c32
             have c32b1 : (t799 != t787) = true := bne_iff_ne.mpr c32
             obtain rfl := Option.some.inj H
             exact absurd HR_.out (by decide)
         ·replace c28 := Bool.eq_false_iff.mpr c28
          subst c28
          rw [if_neg (show ¬ (false = true) by decide)] at H
          obtain rfl := Option.some.inj H
          exact absurd HR_.out (by decide)
        ·rw [if_neg c24] at H
         have c24b0 : (t789 == t787) = false := beq_eq_false_iff_ne.mpr c24
         have c24b1 : (t789 != t787) = true := bne_iff_ne.mpr c24
         obtain rfl := Option.some.inj H
         exact absurd HR_.out (by decide)
      ·replace c20 := Bool.eq_false_iff.mpr c20
       subst c20
       rw [if_neg (show ¬ (false = true) by decide)] at H
       obtain rfl := Option.some.inj H
       exact absurd HR_.out (by decide)
    ·replace c16 := Bool.eq_false_iff.mpr c16
     subst c16
     rw [if_neg (show ¬ (false = true) by decide)] at H
     obtain rfl := Option.some.inj H
     exact absurd HR_.out (by decide)
  ·replace c12 := Bool.eq_false_iff.mpr c12
   subst c12
   rw [if_neg (show ¬ (false = true) by decide)] at H
   obtain rfl := Option.some.inj H
   exact absurd HR_.out (by decide)

end Go.Proofs.Ytjnfofgonddflaa.Q
