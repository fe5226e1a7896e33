-- written by px.py and merge.py (programs of this claim's), over the kit's print. Not trusted: Lean checks it.
import Derived.Test.YtjnfofgonddflaaQ0
import Derived.Test.YtjnfofgonddflaaM0FnExactPlacesOnly
import Derived.Test.YtjnfofgonddflaaM1FnExactPlacesOnly
import Derived.Test.YtjnfofgonddflaaM4FnExactPlacesOnly
import Derived.Test.YtjnfofgonddflaaM6FnExactPlacesOnly
namespace Go.Proofs.Ytjnfofgonddflaa.Q
open Go.RowKit Go.Proofs.YtjnfofgonddflaaL.PrintWords Go.Proofs.YtjnfofgonddflaaL.PrintLast Go.Proofs.YtjnfofgonddflaaL.PrintMore
attribute [local go_sem] max2_int min2_int max_two min_two max_three min_three max_four min_four   -- for this text's walks alone
set_option linter.unusedVariables false
set_option linter.unusedSimpArgs false

/-! ### laws_FnExactPlacesOnly: function 13 -/
def laws_FnExactPlacesOnly.f (k : Nat) (l0_0 : List (S85)) : Option (Bool) := (laws_szSignature.f k l0_0 1048576).bind fun t702 => (if t702 < 0 then (some true) else ((laws_toSignature.f k l0_0).bind fun t703 => ((spec_PlacesOnly.f k t703).bind fun t706 => ((laws_toSignature.f k l0_0).bind fun t710 => ((impl_PlacesOnly.f k t710).bind fun t714 => ((laws_eqSignature.f k t714 t706).bind fun t718 => (if t718 = true then ((laws_toSignature.f k l0_0).bind fun t719 => ((laws_eqSignature.f k t710 t719).bind fun t722 => (if t722 = true then ((laws_markSignature.f k t710 1).bind fun bt723 => (if bt723.1 < 0 then (some false) else ((laws_eqSignature.f k t714 t706).bind fun t725 => (if t725 = true then ((laws_markSignature.f k t714 1).bind fun bt726 => ((laws_heldSignature.f k bt726.2 1).bind fun t728 => (if t728 < 0 then (some false) else (if t728 = bt726.1 then ((laws_toSignature.f k l0_0).bind fun t729 => ((impl_PlacesOnly.f k t729).bind fun t732 => ((laws_eqSignature.f k t732 t706).bind fun t736 => (if t736 = true then ((laws_heldSignature.f k bt726.2 1).bind fun t737 => (if t737 < 0 then (some false) else (if t737 = bt726.1 then (some true) else (some false)))) else (some false))))) else (some false))))) else (some false))))) else (some false)))) else (some false))))))))
theorem laws_FnExactPlacesOnly.mono : ∀ a0 k, LeO (laws_FnExactPlacesOnly.f k a0) (laws_FnExactPlacesOnly.f (k + 1) a0) := by
 intro a0 k
 unfold laws_FnExactPlacesOnly.f
 repeat' first
   | (with_reducible exact impl_PlacesOnly.mono _ _)
   | (with_reducible exact laws_eqSignature.mono _ _ _)
   | (with_reducible exact laws_heldSignature.mono _ _ _)
   | (with_reducible exact laws_markSignature.mono _ _ _)
   | (with_reducible exact laws_szSignature.mono _ _ _)
   | (with_reducible exact laws_toSignature.mono _ _)
   | (with_reducible exact spec_PlacesOnly.mono _ _)
   | (with_reducible exact LeO.refl _)
   | (with_reducible exact LeO.none _)
   | (with_reducible refine LeO.ite ?_ ?_)
   | (with_reducible refine LeO.bind ?_ (fun _ => ?_))
   | exact impl_PlacesOnly.mono _ _
   | exact laws_eqSignature.mono _ _ _
   | exact laws_heldSignature.mono _ _ _
   | exact laws_markSignature.mono _ _ _
   | exact laws_szSignature.mono _ _ _
   | exact laws_toSignature.mono _ _
   | exact spec_PlacesOnly.mono _ _
   | exact LeO.none _
   | refine LeO.ite ?_ ?_
   | refine LeO.bind ?_ (fun _ => ?_)
set_option maxHeartbeats 8000000 in
set_option maxRecDepth 100000 in
theorem laws_FnExactPlacesOnly.calls (k : Nat) (A0_0 : Option Addr) (c0_0 : Nat) (l0_0 : List (S85)) (r : Bool) (w : World) (hr0_0 : Kd.C k85 w A0_0 l0_0.length l0_0) (hc0_0 : l0_0.length ≤ c0_0) (h : laws_FnExactPlacesOnly.f k l0_0 = some r) (hr_ : r = true) :
  Calls Try.prog 13 #[.agg #[.slice A0_0 l0_0.length c0_0]] w fun e w' => e = .returned (.bool r) ∧ Below w.heap.size w w' := by
 have hu31 := Try.underlying31
 have hu25 := Try.underlying25
 have HR_ := Aside0.mk hr_
 clear hr_
 have HR0_0 := Aside0.mk hr0_0
 have HC0_0 := Aside0.mk hc0_0
 clear hr0_0 hc0_0
 have HB := Aside0.mk (Below.refl w.heap.size w)
 have H : ((laws_szSignature.f k l0_0 1048576).bind fun t702 => (if t702 < 0 then (some true) else ((laws_toSignature.f k l0_0).bind fun t703 => ((spec_PlacesOnly.f k t703).bind fun t706 => ((laws_toSignature.f k l0_0).bind fun t710 => ((impl_PlacesOnly.f k t710).bind fun t714 => ((laws_eqSignature.f k t714 t706).bind fun t718 => (if t718 = true then ((laws_toSignature.f k l0_0).bind fun t719 => ((laws_eqSignature.f k t710 t719).bind fun t722 => (if t722 = true then ((laws_markSignature.f k t710 1).bind fun bt723 => (if bt723.1 < 0 then (some false) else ((laws_eqSignature.f k t714 t706).bind fun t725 => (if t725 = true then ((laws_markSignature.f k t714 1).bind fun bt726 => ((laws_heldSignature.f k bt726.2 1).bind fun t728 => (if t728 < 0 then (some false) else (if t728 = bt726.1 then ((laws_toSignature.f k l0_0).bind fun t729 => ((impl_PlacesOnly.f k t729).bind fun t732 => ((laws_eqSignature.f k t732 t706).bind fun t736 => (if t736 = true then ((laws_heldSignature.f k bt726.2 1).bind fun t737 => (if t737 < 0 then (some false) else (if t737 = bt726.1 then (some true) else (some false)))) else (some false))))) else (some false))))) else (some false))))) else (some false)))) else (some false))))))))) = some r := h
 clear h
 replace H := Option.bind_eq_some_iff.mp H
 obtain ⟨t702, A20, H⟩ := H
 (try dsimp only at H)
 have A2 := Aside0.mk A20
 clear A20
 by_cases c3 : t702 < 0
 ·rw [if_pos c3] at H
  have c3b0 : decide (t702 < 0) = true := decide_eq_true c3
  clear c3
  obtain rfl := Option.some.inj H
  go_enter Try.func13, Try.ntmps13
  go_wp2_with (first | ((with_reducible refine gate_dst (N := 1) rfl ?_); refine box_event ?hg (N := 1) ?hd (cs := #[.slice A0_0 l0_0.length c0_0]) (t := 31) ?hr ?_; (case hd => rfl); (case hg => rfl); (case hr => first | (go_simp; done) | (go_simp; rfl)); intro gb701 hg w4 hbox hb; have BK701 := Aside0.mk (hbox); have GW701 := Aside0.mk ((by rw [hg]; exact (below_size (zB HB)) : w.heap.size ≤ gb701)); have GE701 := Aside0.mk ((by rw [hg]; exact (below_size (zB HB)) : w.heap.size ≤ gb701)); replace HB := Aside0.mk (below_step (zB HB) hb); clear hb hbox hg; have hcz5_0 : w4.cell? ⟨gb701, 0, none⟩ = some (.slice A0_0 l0_0.length c0_0) := (blk_cell BK701.out 0).trans rfl; have hfz5_0 := blk_frozen BK701.out 0) | ((with_reducible refine gate_callee (f := 18) rfl ?_); refine goesL_ (some 13) rfl rfl Try.func18 (by kernel_rfl) rfl #[.agg #[.slice A0_0 l0_0.length c0_0], .int .i64 1048576] rfl zl ?_; (with_reducible refine (laws_szSignature.calls k _ _ l0_0 1048576 t702 _ ?side1 ?side2 A2.out).mono ?_); (case side1 => repeat (first | exact (Kd.C_below HR0_0.out HB.out) | (with_reducible refine Kd.C_alloc ?_ _) | (with_reducible refine Kd.C_drewN ?_ _) | (with_reducible refine Kd.C_drew ?_))); (case side2 => exact HC0_0.out); rintro e w6 ⟨rfl, hb⟩; refine ⟨_, rfl, ?_⟩; replace BK701 := Aside0.mk (blk_below (g := gb701) (o := .cells #[.slice A0_0 l0_0.length c0_0] 31 (0, 0)) (zb BK701) hb); replace HB := Aside0.mk (below_step (zB HB) hb); (try clear hb); (try clear hb2); (try clear hk); (try clear hi)))
  go_ret
  exact ⟨by first | rfl | (simp [errW_none, errW_some] <;> rfl) | (simp [*, errW_none, errW_some] <;> rfl), zB HB⟩
 ·rw [if_neg c3] at H
  have c3b0 : decide (t702 < 0) = false := decide_eq_false c3
  clear c3
  replace H := Option.bind_eq_some_iff.mp H
  obtain ⟨t703, A70, H⟩ := H
  (try dsimp only at H)
  have A7 := Aside0.mk A70
  clear A70
  replace H := Option.bind_eq_some_iff.mp H
  obtain ⟨t706, A80, H⟩ := H
  (try dsimp only at H)
  have A8 := Aside0.mk A80
  clear A80
  replace H := Option.bind_eq_some_iff.mp H
  obtain ⟨t710, A90, H⟩ := H
  (try dsimp only at H)
  have A9 := Aside0.mk A90
  clear A90
  replace H := Option.bind_eq_some_iff.mp H
  obtain ⟨t714, A100, H⟩ := H
  (try dsimp only at H)
  have A10 := Aside0.mk A100
  clear A100
  replace H := Option.bind_eq_some_iff.mp H
  obtain ⟨t718, A110, H⟩ := H
  (try dsimp only at H)
  have A11 := Aside0.mk A110
  clear A110
  by_cases c12 : t718 = true
  ·subst c12
   rw [if_pos rfl] at H
   replace H := Option.bind_eq_some_iff.mp H
   obtain ⟨t719, A130, H⟩ := H
   (try dsimp only at H)
   have A13 := Aside0.mk A130
   clear A130
   replace H := Option.bind_eq_some_iff.mp H
   obtain ⟨t722, A140, H⟩ := H
   (try dsimp only at H)
   have A14 := Aside0.mk A140
   clear A140
   by_cases c15 : t722 = true
   ·subst c15
    rw [if_pos rfl] at H
    replace H := Option.bind_eq_some_iff.mp H
    obtain ⟨⟨t723, t724⟩, A160, H⟩ := H
    (try dsimp only at H)
    have A16 := Aside0.mk A160
    clear A160
    by_cases c17 : t723 < 0
    ·rw [if_pos c17] at H
     have c17b0 : decide (t723 < 0) = true := decide_eq_true c17
     clear c17
     obtain rfl := Option.some.inj H
     exact absurd HR_.out (by decide)
    ·rw [if_neg c17] at H
     have c17b0 : decide (t723 < 0) = false := decide_eq_false c17
     clear c17
     replace H := Option.bind_eq_some_iff.mp H
     obtain ⟨t725, A180, H⟩ := H
     (try dsimp only at H)
     have A18 := Aside0.mk A180
     clear A180
     by_cases c19 : t725 = true
     ·subst c19
      rw [if_pos rfl] at H
      replace H := Option.bind_eq_some_iff.mp H
      obtain ⟨⟨t726, t727⟩, A200, H⟩ := H
      (try dsimp only at H)
      have A20 := Aside0.mk A200
      clear A200
      replace H := Option.bind_eq_some_iff.mp H
      obtain ⟨t728, A210, H⟩ := H
      (try dsimp only at H)
      have A21 := Aside0.mk A210
      clear A210
      by_cases c22 : t728 < 0
      ·rw [if_pos c22] at H
       have c22b0 : decide (t728 < 0) = true := decide_eq_true c22
       clear c22
       obtain rfl := Option.some.inj H
       exact absurd HR_.out (by decide)
      ·rw [if_neg c22] at H
       have c22b0 : decide (t728 < 0) = false := decide_eq_false c22
       clear c22
       by_cases c23 : t728 = t726
       ·rw [if_pos c23] at H
        have c23b0 : (t728 == t726) = true := beq_iff_eq.mpr c23
        have c23b1 : (t728 != t726) = false := bne_eq_false_iff_eq.mpr c23
        clear c23
        replace H := Option.bind_eq_some_iff.mp H
        obtain ⟨t729, A240, H⟩ := H
        (try dsimp only at H)
        have A24 := Aside0.mk A240
        clear A240
        replace H := Option.bind_eq_some_iff.mp H
        obtain ⟨t732, A250, H⟩ := H
        (try dsimp only at H)
        have A25 := Aside0.mk A250
        clear A250
        replace H := Option.bind_eq_some_iff.mp H
        obtain ⟨t736, A260, H⟩ := H
        (try dsimp only at H)
        have A26 := Aside0.mk A260
        clear A260
        by_cases c27 : t736 = true
        ·subst c27
         rw [if_pos rfl] at H
         replace H := Option.bind_eq_some_iff.mp H
         obtain ⟨t737, A280, H⟩ := H
         (try dsimp only at H)
         have A28 := Aside0.mk A280
         clear A280
         by_cases c29 : t737 < 0
         ·rw [if_pos c29] at H
          have c29b0 : decide (t737 < 0) = true := decide_eq_true c29
          clear c29
          obtain rfl := Option.some.inj H
          exact absurd HR_.out (by decide)
         ·rw [if_neg c29] at H
          have c29b0 : decide (t737 < 0) = false := decide_eq_false c29
          clear c29
          by_cases c30 : t737 = t726
          ·rw [if_pos c30] at H
           have c30b0 : (t737 == t726) = true := beq_iff_eq.mpr c30
           have c30b1 : (t737 != t726) = false := bne_eq_false_iff_eq.mpr c30
           clear c30
           obtain rfl := Option.some.inj H
           go_enter Try.func13, Try.ntmps13
           try go_wp2_with (first | ((with_reducible refine gate_dst (N := 1) rfl ?_); refine box_event ?hg (N := 1) ?hd (cs := #[.slice A0_0 l0_0.length c0_0]) (t := 31) ?hr ?_; (case hd => rfl); (case hg => rfl); (case hr => first | (go_simp; done) | (go_simp; rfl)); intro gb701 hg w31 hbox hb; have BK701 := Aside0.mk (hbox); have GW701 := Aside0.mk ((by rw [hg]; exact (below_size (zB HB)) : w.heap.size ≤ gb701)); have GE701 := Aside0.mk ((by rw [hg]; exact (below_size (zB HB)) : w.heap.size ≤ gb701)); replace HB := Aside0.mk (below_step (zB HB) hb); clear hb hbox hg; have hcz32_0 : w31.cell? ⟨gb701, 0, none⟩ = some (.slice A0_0 l0_0.length c0_0) := (blk_cell BK701.out 0).trans rfl; have hfz32_0 := blk_frozen BK701.out 0) | ((with_reducible refine gate_callee (f := 18) rfl ?_); refine goesL_ (some 13) rfl rfl Try.func18 (by kernel_rfl) rfl #[.agg #[.slice A0_0 l0_0.length c0_0], .int .i64 1048576] rfl zl ?_; (with_reducible refine (laws_szSignature.calls k _ _ l0_0 1048576 t702 _ ?side1 ?side2 A2.out).mono ?_); (case side1 => repeat (first | exact (Kd.C_below HR0_0.out HB.out) | (with_reducible refine Kd.C_alloc ?_ _) | (with_reducible refine Kd.C_drewN ?_ _) | (with_reducible refine Kd.C_drew ?_))); (case side2 => exact HC0_0.out); rintro e w33 ⟨rfl, hb⟩; refine ⟨_, rfl, ?_⟩; replace BK701 := Aside0.mk (blk_below (g := gb701) (o := .cells #[.slice A0_0 l0_0.length c0_0] 31 (0, 0)) (zb BK701) hb); replace HB := Aside0.mk (below_step (zB HB) hb); (try clear hb); (try clear hb2); (try clear hk); (try clear hi); have hcz34_0 : w33.cell? ⟨gb701, 0, none⟩ = some (.slice A0_0 l0_0.length c0_0) := (blk_cell BK701.out 0).trans rfl; have hfz34_0 := blk_frozen BK701.out 0) | ((with_reducible refine gate_callee (f := 20) rfl ?_); refine goesL_ (some 17) rfl rfl Try.func20 (by kernel_rfl) rfl #[.agg #[.slice A0_0 l0_0.length c0_0]] rfl zl ?_; (with_reducible refine (laws_toSignature.calls k _ _ l0_0 t703 _ ?side1 ?side2 A7.out).mono ?_); (case side1 => repeat (first | exact (Kd.C_below HR0_0.out HB.out) | (with_reducible refine Kd.C_alloc ?_ _) | (with_reducible refine Kd.C_drewN ?_ _) | (with_reducible refine Kd.C_drew ?_))); (case side2 => exact HC0_0.out); rintro e w35 ⟨v704, rfl, ho0, hb⟩; refine ⟨_, rfl, ?_⟩; have HO705 := Aside0.mk (Kd.R_lower ho0 (below_size (zB HB))); replace BK701 := Aside0.mk (blk_below (g := gb701) (o := .cells #[.slice A0_0 l0_0.length c0_0] 31 (0, 0)) (zb BK701) hb); replace HB := Aside0.mk (below_step (zB HB) hb); (try clear hb); (try clear hb2); (try clear hk); (try clear hi); (try clear ho0); obtain ⟨Ao36, co36, eo36⟩ := Kd.R_slice HO705.out; subst eo36) | ((with_reducible refine gate_callee (f := 43) rfl ?_); refine goesL_ (some 18) rfl rfl Try.func43 (by kernel_rfl) rfl #[.agg #[.slice Ao36 t703.length co36]] rfl zl ?_; (with_reducible refine (spec_PlacesOnly.calls k _ _ t703 t706 _ ?side1 ?side2 A8.out).mono ?_); (case side1 => repeat (first | exact (Kd.R_reads' HO705.out).2.2 | (with_reducible refine Kd.C_alloc ?_ _) | (with_reducible refine Kd.C_drewN ?_ _) | (with_reducible refine Kd.C_drew ?_))); (case side2 => exact (Kd.R_reads' HO705.out).2.1); rintro e w37 ⟨v707, rfl, ho0, hb⟩; refine ⟨_, rfl, ?_⟩; have HO708 := Aside0.mk (Kd.R_lower (Kd.R_new' ho0 (Kd.R_lt (zo HO705))) (below_size (zB HB))); replace HO705 := Aside0.mk (Kd.R_elder' (zo HO705) (Kd.R_base ho0) hb); replace BK701 := Aside0.mk (blk_below (g := gb701) (o := .cells #[.slice A0_0 l0_0.length c0_0] 31 (0, 0)) (zb BK701) hb); replace HB := Aside0.mk (below_step (zB HB) hb); (try clear hb); (try clear hb2); (try clear hk); (try clear hi); (try clear ho0)) | ((with_reducible refine gate_dst (N := 4) rfl ?_); refine box_event ?hg (N := 4) ?hd (cs := #[.slice none 0 0]) (t := 25) ?hr ?_; (case hd => rfl); (case hg => rfl); (case hr => first | (go_simp; done) | (go_simp; rfl)); intro gb709 hg w38 hbox hb; replace HO705 := Aside0.mk (Kd.R_below (zo HO705) hb); replace HO708 := Aside0.mk (Kd.R_below (zo HO708) hb); have BK709 := Aside0.mk (hbox); have GW709 := Aside0.mk ((by rw [hg]; exact (below_size (zB HB)) : w.heap.size ≤ gb709)); have GE709 := Aside0.mk ((by rw [hg]; exact (below_size (zB HB)) : w.heap.size ≤ gb709)); replace HB := Aside0.mk (below_step (zB HB) hb); have NB701_709 := Aside0.mk ((by rw [hg]; exact Nat.ne_of_lt (blk_lt (g := gb701) (o := .cells #[.slice A0_0 l0_0.length c0_0] 31 (0, 0)) (zb BK701)) : gb701 ≠ gb709)); have NB709_701 := Aside0.mk ((by rw [hg]; exact Nat.ne_of_gt (blk_lt (g := gb701) (o := .cells #[.slice A0_0 l0_0.length c0_0] 31 (0, 0)) (zb BK701)) : gb709 ≠ gb701)); replace BK701 := Aside0.mk (blk_below (g := gb701) (o := .cells #[.slice A0_0 l0_0.length c0_0] 31 (0, 0)) (zb BK701) hb); clear hb hbox hg; obtain ⟨Ao39, co39, eo39⟩ := Kd.R_slice HO708.out; subst eo39; have hnb40 := NB709_701.out; have hnc40 := NB701_709.out; have hcz41_0 : w38.cell? ⟨gb709, 0, none⟩ = some (.slice none 0 0) := (blk_cell BK709.out 0).trans rfl; have hfz41_0 := blk_frozen BK709.out 0; have hcz42_0 : w38.cell? ⟨gb701, 0, none⟩ = some (.slice A0_0 l0_0.length c0_0) := (blk_cell BK701.out 0).trans rfl; have hfz42_0 := blk_frozen BK701.out 0) | ((with_reducible refine gate_callee (f := 20) rfl ?_); refine goesL_ (some 20) rfl rfl Try.func20 (by kernel_rfl) rfl #[.agg #[.slice A0_0 l0_0.length c0_0]] rfl zl ?_; (with_reducible refine (laws_toSignature.calls k _ _ l0_0 t710 _ ?side1 ?side2 A9.out).mono ?_); (case side1 => exact Kd.C_below HR0_0.out (zB HB)); (case side2 => exact HC0_0.out); rintro e w43 ⟨v711, rfl, ho0, hb⟩; refine ⟨_, rfl, ?_⟩; have HO712 := Aside0.mk (Kd.R_lower (Kd.R_new' (Kd.R_new' ho0 (Kd.R_lt (by (with_reducible repeat (first | apply Kd.R_alloc | apply Kd.R_drewN | apply Kd.R_drew)); exact (Kd.R_mono (Kd.R_far (p := ⟨gb709, 0, none⟩) (Kd.R_types HO705.out BK709.out (by decide)) (fun _ hk => hk.2) (.slice Ao39 t706.length co39)) (fun _ h_ => h_.1))))) (Kd.R_lt (by (with_reducible repeat (first | apply Kd.R_alloc | apply Kd.R_drewN | apply Kd.R_drew)); exact (Kd.R_mono (Kd.R_far (p := ⟨gb709, 0, none⟩) (Kd.R_types HO708.out BK709.out (by decide)) (fun _ hk => hk.2) (.slice Ao39 t706.length co39)) (fun _ h_ => h_.1))))) (below_size (zB HB))); replace HO705 := Aside0.mk (Kd.R_elder' (by (with_reducible repeat (first | apply Kd.R_alloc | apply Kd.R_drewN | apply Kd.R_drew)); exact (Kd.R_mono (Kd.R_far (p := ⟨gb709, 0, none⟩) (Kd.R_types HO705.out BK709.out (by decide)) (fun _ hk => hk.2) (.slice Ao39 t706.length co39)) (fun _ h_ => h_.1))) (Kd.R_base ho0) hb); replace HO708 := Aside0.mk (Kd.R_elder' (by (with_reducible repeat (first | apply Kd.R_alloc | apply Kd.R_drewN | apply Kd.R_drew)); exact (Kd.R_mono (Kd.R_far (p := ⟨gb709, 0, none⟩) (Kd.R_types HO708.out BK709.out (by decide)) (fun _ hk => hk.2) (.slice Ao39 t706.length co39)) (fun _ h_ => h_.1))) (Kd.R_base ho0) hb); replace BK701 := Aside0.mk (blk_below (g := gb701) (o := .cells #[.slice A0_0 l0_0.length c0_0] 31 (0, 0)) (zf BK701) hb); replace BK709 := Aside0.mk (blk_below (g := gb709) (o := .cells #[.slice Ao39 t706.length co39] 25 (0, 0)) (by (with_reducible repeat (first | refine blk_drewN ?_ _ | refine blk_drew ?_ | refine blk_alloc ?_ _)); refine blk_put (cs := #[.slice none 0 0]) ?_ 0 _ rfl; (with_reducible repeat (first | refine blk_drewN ?_ _ | refine blk_drew ?_ | refine blk_alloc ?_ _)); exact BK709.out) hb); replace HB := Aside0.mk (below_step (zB HB) hb); (try clear hb); (try clear hb2); (try clear hk); (try clear hi); (try clear ho0)) | ((with_reducible refine gate_dst (N := 5) rfl ?_); refine box_event ?hg (N := 5) ?hd (cs := #[.slice none 0 0]) (t := 25) ?hr ?_; (case hd => rfl); (case hg => rfl); (case hr => first | (go_simp; done) | (go_simp; rfl)); intro gb713 hg w44 hbox hb; replace HO705 := Aside0.mk (Kd.R_below (zo HO705) hb); replace HO708 := Aside0.mk (Kd.R_below (zo HO708) hb); replace HO712 := Aside0.mk (Kd.R_below (zo HO712) hb); have BK713 := Aside0.mk (hbox); have GW713 := Aside0.mk ((by rw [hg]; exact (below_size (zB HB)) : w.heap.size ≤ gb713)); have GE713 := Aside0.mk ((by rw [hg]; exact (below_size (zB HB)) : w.heap.size ≤ gb713)); replace HB := Aside0.mk (below_step (zB HB) hb); have NB701_713 := Aside0.mk ((by rw [hg]; exact Nat.ne_of_lt (blk_lt (g := gb701) (o := .cells #[.slice A0_0 l0_0.length c0_0] 31 (0, 0)) (zb BK701)) : gb701 ≠ gb713)); have NB713_701 := Aside0.mk ((by rw [hg]; exact Nat.ne_of_gt (blk_lt (g := gb701) (o := .cells #[.slice A0_0 l0_0.length c0_0] 31 (0, 0)) (zb BK701)) : gb713 ≠ gb701)); replace BK701 := Aside0.mk (blk_below (g := gb701) (o := .cells #[.slice A0_0 l0_0.length c0_0] 31 (0, 0)) (zb BK701) hb); have NB709_713 := Aside0.mk ((by rw [hg]; exact Nat.ne_of_lt (blk_lt (g := gb709) (o := .cells #[.slice Ao39 t706.length co39] 25 (0, 0)) (zb BK709)) : gb709 ≠ gb713)); have NB713_709 := Aside0.mk ((by rw [hg]; exact Nat.ne_of_gt (blk_lt (g := gb709) (o := .cells #[.slice Ao39 t706.length co39] 25 (0, 0)) (zb BK709)) : gb713 ≠ gb709)); replace BK709 := Aside0.mk (blk_below (g := gb709) (o := .cells #[.slice Ao39 t706.length co39] 25 (0, 0)) (zb BK709) hb); clear hb hbox hg; obtain ⟨Ao45, co45, eo45⟩ := Kd.R_slice HO712.out; subst eo45; have hnb46 := NB713_701.out; have hnc46 := NB701_713.out; have hnb47 := NB713_709.out; have hnc47 := NB709_713.out; have hcz48_0 : w44.cell? ⟨gb713, 0, none⟩ = some (.slice none 0 0) := (blk_cell BK713.out 0).trans rfl; have hfz48_0 := blk_frozen BK713.out 0) | ((with_reducible refine gate_callee (f := 44) rfl ?_); refine goesL_ (some 22) rfl rfl Try.func44 (by kernel_rfl) rfl #[.agg #[.slice Ao45 t710.length co45]] rfl zl ?_; (with_reducible refine (impl_PlacesOnly.calls k _ _ t710 t714 _ ?side1 ?side2 A10.out).mono ?_); (case side1 => refine (Kd.R_reads' (e := 41) (base := w.heap.size) (ok := fun k_ => ((True ∧ some k_ ≠ (.slice Ao36 t703.length co36 : Value).ownBlock) ∧ some k_ ≠ (.slice Ao39 t706.length co39 : Value).ownBlock)) (n := t710.length) (c := co45) ?_).2.2; exact (by (with_reducible repeat (first | apply Kd.R_alloc | apply Kd.R_drewN | apply Kd.R_drew)); exact (Kd.R_mono (Kd.R_far (p := ⟨gb713, 0, none⟩) (Kd.R_types HO712.out BK713.out (by decide)) (fun _ hk => hk.2) (.slice Ao45 t710.length co45)) (fun _ h_ => h_.1)))); (case side2 => exact (Kd.R_reads' HO712.out).2.1); rintro e w49 ⟨v715, rfl, ho0, hb⟩; refine ⟨_, rfl, ?_⟩; have HO716 := Aside0.mk (Kd.R_lower (Kd.R_new' (Kd.R_new' (Kd.R_new' ho0 (Kd.R_lt (by (with_reducible repeat (first | apply Kd.R_alloc | apply Kd.R_drewN | apply Kd.R_drew)); exact (Kd.R_mono (Kd.R_far (p := ⟨gb713, 0, none⟩) (Kd.R_types HO705.out BK713.out (by decide)) (fun _ hk => hk.2) (.slice Ao45 t710.length co45)) (fun _ h_ => h_.1))))) (Kd.R_lt (by (with_reducible repeat (first | apply Kd.R_alloc | apply Kd.R_drewN | apply Kd.R_drew)); exact (Kd.R_mono (Kd.R_far (p := ⟨gb713, 0, none⟩) (Kd.R_types HO708.out BK713.out (by decide)) (fun _ hk => hk.2) (.slice Ao45 t710.length co45)) (fun _ h_ => h_.1))))) (Kd.R_lt (by (with_reducible repeat (first | apply Kd.R_alloc | apply Kd.R_drewN | apply Kd.R_drew)); exact (Kd.R_mono (Kd.R_far (p := ⟨gb713, 0, none⟩) (Kd.R_types HO712.out BK713.out (by decide)) (fun _ hk => hk.2) (.slice Ao45 t710.length co45)) (fun _ h_ => h_.1))))) (below_size (zB HB))); replace HO705 := Aside0.mk (Kd.R_elder' (by (with_reducible repeat (first | apply Kd.R_alloc | apply Kd.R_drewN | apply Kd.R_drew)); exact (Kd.R_mono (Kd.R_far (p := ⟨gb713, 0, none⟩) (Kd.R_types HO705.out BK713.out (by decide)) (fun _ hk => hk.2) (.slice Ao45 t710.length co45)) (fun _ h_ => h_.1))) (Kd.R_base ho0) hb); replace HO708 := Aside0.mk (Kd.R_elder' (by (with_reducible repeat (first | apply Kd.R_alloc | apply Kd.R_drewN | apply Kd.R_drew)); exact (Kd.R_mono (Kd.R_far (p := ⟨gb713, 0, none⟩) (Kd.R_types HO708.out BK713.out (by decide)) (fun _ hk => hk.2) (.slice Ao45 t710.length co45)) (fun _ h_ => h_.1))) (Kd.R_base ho0) hb); replace HO712 := Aside0.mk (Kd.R_elder' (by (with_reducible repeat (first | apply Kd.R_alloc | apply Kd.R_drewN | apply Kd.R_drew)); exact (Kd.R_mono (Kd.R_far (p := ⟨gb713, 0, none⟩) (Kd.R_types HO712.out BK713.out (by decide)) (fun _ hk => hk.2) (.slice Ao45 t710.length co45)) (fun _ h_ => h_.1))) (Kd.R_base ho0) hb); replace BK701 := Aside0.mk (blk_below (g := gb701) (o := .cells #[.slice A0_0 l0_0.length c0_0] 31 (0, 0)) (zf BK701) hb); replace BK709 := Aside0.mk (blk_below (g := gb709) (o := .cells #[.slice Ao39 t706.length co39] 25 (0, 0)) (zf BK709) hb); replace BK713 := Aside0.mk (blk_below (g := gb713) (o := .cells #[.slice Ao45 t710.length co45] 25 (0, 0)) (by (with_reducible repeat (first | refine blk_drewN ?_ _ | refine blk_drew ?_ | refine blk_alloc ?_ _)); refine blk_put (cs := #[.slice none 0 0]) ?_ 0 _ rfl; (with_reducible repeat (first | refine blk_drewN ?_ _ | refine blk_drew ?_ | refine blk_alloc ?_ _)); exact BK713.out) hb); replace HB := Aside0.mk (below_step (zB HB) hb); (try clear hb); (try clear hb2); (try clear hk); (try clear hi); (try clear ho0)) | ((with_reducible refine gate_dst (N := 6) rfl ?_); refine box_event ?hg (N := 6) ?hd (cs := #[.slice none 0 0]) (t := 25) ?hr ?_; (case hd => rfl); (case hg => rfl); (case hr => first | (go_simp; done) | (go_simp; rfl)); intro gb717 hg w50 hbox hb; replace HO705 := Aside0.mk (Kd.R_below (zo HO705) hb); replace HO708 := Aside0.mk (Kd.R_below (zo HO708) hb); replace HO712 := Aside0.mk (Kd.R_below (zo HO712) hb); replace HO716 := Aside0.mk (Kd.R_below (zo HO716) hb); have BK717 := Aside0.mk (hbox); have GW717 := Aside0.mk ((by rw [hg]; exact (below_size (zB HB)) : w.heap.size ≤ gb717)); have GE717 := Aside0.mk ((by rw [hg]; exact (below_size (zB HB)) : w.heap.size ≤ gb717)); replace HB := Aside0.mk (below_step (zB HB) hb); have NB701_717 := Aside0.mk ((by rw [hg]; exact Nat.ne_of_lt (blk_lt (g := gb701) (o := .cells #[.slice A0_0 l0_0.length c0_0] 31 (0, 0)) (zb BK701)) : gb701 ≠ gb717)); have NB717_701 := Aside0.mk ((by rw [hg]; exact Nat.ne_of_gt (blk_lt (g := gb701) (o := .cells #[.slice A0_0 l0_0.length c0_0] 31 (0, 0)) (zb BK701)) : gb717 ≠ gb701)); replace BK701 := Aside0.mk (blk_below (g := gb701) (o := .cells #[.slice A0_0 l0_0.length c0_0] 31 (0, 0)) (zb BK701) hb); have NB709_717 := Aside0.mk ((by rw [hg]; exact Nat.ne_of_lt (blk_lt (g := gb709) (o := .cells #[.slice Ao39 t706.length co39] 25 (0, 0)) (zb BK709)) : gb709 ≠ gb717)); have NB717_709 := Aside0.mk ((by rw [hg]; exact Nat.ne_of_gt (blk_lt (g := gb709) (o := .cells #[.slice Ao39 t706.length co39] 25 (0, 0)) (zb BK709)) : gb717 ≠ gb709)); replace BK709 := Aside0.mk (blk_below (g := gb709) (o := .cells #[.slice Ao39 t706.length co39] 25 (0, 0)) (zb BK709) hb); have NB713_717 := Aside0.mk ((by rw [hg]; exact Nat.ne_of_lt (blk_lt (g := gb713) (o := .cells #[.slice Ao45 t710.length co45] 25 (0, 0)) (zb BK713)) : gb713 ≠ gb717)); have NB717_713 := Aside0.mk ((by rw [hg]; exact Nat.ne_of_gt (blk_lt (g := gb713) (o := .cells #[.slice Ao45 t710.length co45] 25 (0, 0)) (zb BK713)) : gb717 ≠ gb713)); replace BK713 := Aside0.mk (blk_below (g := gb713) (o := .cells #[.slice Ao45 t710.length co45] 25 (0, 0)) (zb BK713) hb); clear hb hbox hg; obtain ⟨Ao51, co51, eo51⟩ := Kd.R_slice HO716.out; subst eo51; have hnb52 := NB717_701.out; have hnc52 := NB701_717.out; have hnb53 := NB717_709.out; have hnc53 := NB709_717.out; have hnb54 := NB717_713.out; have hnc54 := NB713_717.out; have hcz55_0 : w50.cell? ⟨gb717, 0, none⟩ = some (.slice none 0 0) := (blk_cell BK717.out 0).trans rfl; have hfz55_0 := blk_frozen BK717.out 0; have hcz56_0 : w50.cell? ⟨gb709, 0, none⟩ = some (.slice Ao39 t706.length co39) := (blk_cell BK709.out 0).trans rfl; have hfz56_0 := blk_frozen BK709.out 0) | ((with_reducible refine gate_callee (f := 22) rfl ?_); refine goesL_ (some 25) rfl rfl Try.func22 (by kernel_rfl) rfl #[.agg #[.slice Ao51 t714.length co51], .agg #[.slice Ao39 t706.length co39]] rfl zl ?_; (with_reducible refine (laws_eqSignature.calls k _ _ t714 _ _ t706 true _ ?side1 ?side2 ?side3 ?side4 A11.out).mono ?_); (case side1 => refine (Kd.R_reads' (e := 41) (base := w.heap.size) (ok := fun k_ => (((True ∧ some k_ ≠ (.slice Ao36 t703.length co36 : Value).ownBlock) ∧ some k_ ≠ (.slice Ao39 t706.length co39 : Value).ownBlock) ∧ some k_ ≠ (.slice Ao45 t710.length co45 : Value).ownBlock)) (n := t714.length) (c := co51) ?_).2.2; exact (by (with_reducible repeat (first | apply Kd.R_alloc | apply Kd.R_drewN | apply Kd.R_drew)); exact (Kd.R_mono (Kd.R_far (p := ⟨gb717, 0, none⟩) (Kd.R_types HO716.out BK717.out (by decide)) (fun _ hk => hk.2) (.slice Ao51 t714.length co51)) (fun _ h_ => h_.1)))); (case side2 => exact (Kd.R_reads' HO716.out).2.1); (case side3 => refine (Kd.R_reads' (e := 41) (base := w.heap.size) (ok := fun k_ => (((True ∧ some k_ ≠ (.slice Ao36 t703.length co36 : Value).ownBlock) ∧ some k_ ≠ (.slice Ao45 t710.length co45 : Value).ownBlock) ∧ some k_ ≠ (.slice Ao51 t714.length co51 : Value).ownBlock)) (n := t706.length) (c := co39) ?_).2.2; exact (by (with_reducible repeat (first | apply Kd.R_alloc | apply Kd.R_drewN | apply Kd.R_drew)); exact (Kd.R_mono (Kd.R_far (p := ⟨gb717, 0, none⟩) (Kd.R_types HO708.out BK717.out (by decide)) (fun _ hk => hk.2) (.slice Ao51 t714.length co51)) (fun _ h_ => h_.1)))); (case side4 => exact (Kd.R_reads' HO708.out).2.1); rintro e w57 ⟨rfl, hb⟩; refine ⟨_, rfl, ?_⟩; replace HO705 := Aside0.mk (Kd.R_below (by (with_reducible repeat (first | apply Kd.R_alloc | apply Kd.R_drewN | apply Kd.R_drew)); exact (Kd.R_mono (Kd.R_far (p := ⟨gb717, 0, none⟩) (Kd.R_types HO705.out BK717.out (by decide)) (fun _ hk => hk.2) (.slice Ao51 t714.length co51)) (fun _ h_ => h_.1))) hb); replace HO708 := Aside0.mk (Kd.R_below (by (with_reducible repeat (first | apply Kd.R_alloc | apply Kd.R_drewN | apply Kd.R_drew)); exact (Kd.R_mono (Kd.R_far (p := ⟨gb717, 0, none⟩) (Kd.R_types HO708.out BK717.out (by decide)) (fun _ hk => hk.2) (.slice Ao51 t714.length co51)) (fun _ h_ => h_.1))) hb); replace HO712 := Aside0.mk (Kd.R_below (by (with_reducible repeat (first | apply Kd.R_alloc | apply Kd.R_drewN | apply Kd.R_drew)); exact (Kd.R_mono (Kd.R_far (p := ⟨gb717, 0, none⟩) (Kd.R_types HO712.out BK717.out (by decide)) (fun _ hk => hk.2) (.slice Ao51 t714.length co51)) (fun _ h_ => h_.1))) hb); replace HO716 := Aside0.mk (Kd.R_below (by (with_reducible repeat (first | apply Kd.R_alloc | apply Kd.R_drewN | apply Kd.R_drew)); exact (Kd.R_mono (Kd.R_far (p := ⟨gb717, 0, none⟩) (Kd.R_types HO716.out BK717.out (by decide)) (fun _ hk => hk.2) (.slice Ao51 t714.length co51)) (fun _ h_ => h_.1))) hb); replace BK701 := Aside0.mk (blk_below (g := gb701) (o := .cells #[.slice A0_0 l0_0.length c0_0] 31 (0, 0)) (zf BK701) hb); replace BK709 := Aside0.mk (blk_below (g := gb709) (o := .cells #[.slice Ao39 t706.length co39] 25 (0, 0)) (zf BK709) hb); replace BK713 := Aside0.mk (blk_below (g := gb713) (o := .cells #[.slice Ao45 t710.length co45] 25 (0, 0)) (zf BK713) hb); replace BK717 := Aside0.mk (blk_below (g := gb717) (o := .cells #[.slice Ao51 t714.length co51] 25 (0, 0)) (by (with_reducible repeat (first | refine blk_drewN ?_ _ | refine blk_drew ?_ | refine blk_alloc ?_ _)); refine blk_put (cs := #[.slice none 0 0]) ?_ 0 _ rfl; (with_reducible repeat (first | refine blk_drewN ?_ _ | refine blk_drew ?_ | refine blk_alloc ?_ _)); exact BK717.out) hb); replace HB := Aside0.mk (below_step (zB HB) hb); (try clear hb); (try clear hb2); (try clear hk); (try clear hi)))
           replace HO705 := Aside0.mk (Kd.R_drew HO705.out)
           replace HO708 := Aside0.mk (Kd.R_drew HO708.out)
           replace HO712 := Aside0.mk (Kd.R_drew HO712.out)
           replace HO716 := Aside0.mk (Kd.R_drew HO716.out)
           replace BK701 := Aside0.mk (blk_drew BK701.out)
           replace BK709 := Aside0.mk (blk_drew BK709.out)
           replace BK713 := Aside0.mk (blk_drew BK713.out)
           replace BK717 := Aside0.mk (blk_drew BK717.out)
           replace HB := Aside0.mk (below_drew1 HB.out)
           refine start_ (n := 5) (S := fun w' => w'.cell? ⟨gb713, 0, none⟩ = some (.slice Ao45 t710.length co45) ∧ w'.cell? ⟨gb701, 0, none⟩ = some (.slice A0_0 l0_0.length c0_0)) (ds := []) #[false, false, false, false, false] (by kernel_rfl) rfl rfl ⟨(blk_cell BK713.out 0).trans rfl, (blk_cell BK701.out 0).trans rfl⟩ (fun hHeld => ?_)
           generalize w57.drew = w58 at HO705 HO708 HO712 HO716 BK701 BK709 BK713 BK717 HB hHeld ⊢
           refine take_ (i := 0) (N := some 27) (v := ?_) (a' := ?_) #[true, false, false, false, false] rfl rfl (by kernel_rfl) (fun _ _ _ h => h) (Or.inl ⟨by rfl, ?_⟩) hHeld ?_ ?_
           rotate_left
           ·rintro w' ⟨s0, s1⟩
            go_simp
            with_reducible rfl
           rotate_left
           ·simp only [Act.put, List.setIfInBounds_toArray, List.set_cons_zero, List.set_cons_succ, i64_w, i32_w]
            rfl
           refine take_ (i := 1) (N := some 28) (v := ?_) (a' := ?_) #[true, true, false, false, false] rfl rfl (by kernel_rfl) (fun _ _ _ h => h) (Or.inl ⟨by rfl, ?_⟩) hHeld ?_ ?_
           rotate_left
           ·rintro w' ⟨s0, s1⟩
            go_simp
            with_reducible rfl
           rotate_left
           ·simp only [Act.put, List.setIfInBounds_toArray, List.set_cons_zero, List.set_cons_succ, i64_w, i32_w]
            rfl
           refine one_ (i := 2) (N := some 29) #[true, true, true, false, false] rfl rfl (by kernel_rfl) (by decide) (fun K hK => ?_)
           refine goes_ Try.func20 (by kernel_rfl) rfl #[.agg #[.slice A0_0 l0_0.length c0_0]] (by rfl) rfl rfl zl ?_
           with_reducible refine (laws_toSignature.calls k _ _ l0_0 t719 _ ?side1 ?side2 A13.out).mono ?_
           (case side1 => repeat (first | exact (Kd.C_below HR0_0.out HB.out) | (with_reducible refine Kd.C_alloc ?_ _) | (with_reducible refine Kd.C_drewN ?_ _) | (with_reducible refine Kd.C_drew ?_)))
           (case side2 => exact HC0_0.out)
           rintro e w59 ⟨v720, rfl, ho0, hb⟩
           refine ⟨_, rfl, ?_⟩
           have HO721 := Aside0.mk (Kd.R_lower (Kd.R_new' (Kd.R_new' (Kd.R_new' (Kd.R_new' ho0 (Kd.R_lt (zo HO705))) (Kd.R_lt (zo HO708))) (Kd.R_lt (zo HO712))) (Kd.R_lt (zo HO716))) (below_size (zB HB)))
           replace HO705 := Aside0.mk (Kd.R_elder' (zo HO705) (Kd.R_base ho0) hb)
           replace HO708 := Aside0.mk (Kd.R_elder' (zo HO708) (Kd.R_base ho0) hb)
           replace HO712 := Aside0.mk (Kd.R_elder' (zo HO712) (Kd.R_base ho0) hb)
           replace HO716 := Aside0.mk (Kd.R_elder' (zo HO716) (Kd.R_base ho0) hb)
           replace BK701 := Aside0.mk (blk_below (g := gb701) (o := .cells #[.slice A0_0 l0_0.length c0_0] 31 (0, 0)) (zb BK701) hb)
           replace BK709 := Aside0.mk (blk_below (g := gb709) (o := .cells #[.slice Ao39 t706.length co39] 25 (0, 0)) (zb BK709) hb)
           replace BK713 := Aside0.mk (blk_below (g := gb713) (o := .cells #[.slice Ao45 t710.length co45] 25 (0, 0)) (zb BK713) hb)
           replace BK717 := Aside0.mk (blk_below (g := gb717) (o := .cells #[.slice Ao51 t714.length co51] 25 (0, 0)) (zb BK717) hb)
           replace HB := Aside0.mk (below_step (zB HB) hb)
           (try clear hb)
           (try clear hb2)
           (try clear hk)
           (try clear hi)
           (try clear ho0)
           obtain ⟨Ao60, co60, eo60⟩ := Kd.R_slice HO721.out
           (first | subst eo60 | (injection eo60 with f1_ f2_ f3_; have f4_ := f1_.symm; have f5_ := f3_.symm; clear f1_ f2_ f3_; subst f4_; subst f5_))
           refine hK.out _ _ ⟨(blk_cell BK713.out 0).trans rfl, (blk_cell BK701.out 0).trans rfl⟩ (fun hHeld => ?_)
           clear hK K
           refine norm_ (a' := ?_) ?_ ?_
           rotate_left
           ·show Act.put _ (some 29) _ = _
            simp only [Act.put, List.setIfInBounds_toArray, List.set_cons_zero, List.set_cons_succ, i64_w, i32_w]
            rfl
           refine one_ (i := 3) (N := some 30) #[true, true, true, true, false] rfl rfl (by kernel_rfl) (by decide) (fun K hK => ?_)
           refine goes_ Try.func22 (by kernel_rfl) rfl #[.agg #[.slice Ao45 t710.length co45], .agg #[.slice Ao60 t719.length co60]] (by rfl) rfl rfl zl ?_
           with_reducible refine (laws_eqSignature.calls k _ _ t710 _ _ t719 true _ ?side1 ?side2 ?side3 ?side4 A14.out).mono ?_
           (case side1 => repeat (first | exact (Kd.R_reads' HO712.out).2.2 | (with_reducible refine Kd.C_alloc ?_ _) | (with_reducible refine Kd.C_drewN ?_ _) | (with_reducible refine Kd.C_drew ?_)))
           (case side2 => exact (Kd.R_reads' HO712.out).2.1)
           (case side3 => repeat (first | exact (Kd.R_reads' HO721.out).2.2 | (with_reducible refine Kd.C_alloc ?_ _) | (with_reducible refine Kd.C_drewN ?_ _) | (with_reducible refine Kd.C_drew ?_)))
           (case side4 => exact (Kd.R_reads' HO721.out).2.1)
           rintro e w61 ⟨rfl, hb⟩
           refine ⟨_, rfl, ?_⟩
           replace HO705 := Aside0.mk (Kd.R_below (zo HO705) hb)
           replace HO708 := Aside0.mk (Kd.R_below (zo HO708) hb)
           replace HO712 := Aside0.mk (Kd.R_below (zo HO712) hb)
           replace HO716 := Aside0.mk (Kd.R_below (zo HO716) hb)
           replace HO721 := Aside0.mk (Kd.R_below (zo HO721) hb)
           replace BK701 := Aside0.mk (blk_below (g := gb701) (o := .cells #[.slice A0_0 l0_0.length c0_0] 31 (0, 0)) (zb BK701) hb)
           replace BK709 := Aside0.mk (blk_below (g := gb709) (o := .cells #[.slice Ao39 t706.length co39] 25 (0, 0)) (zb BK709) hb)
           replace BK713 := Aside0.mk (blk_below (g := gb713) (o := .cells #[.slice Ao45 t710.length co45] 25 (0, 0)) (zb BK713) hb)
           replace BK717 := Aside0.mk (blk_below (g := gb717) (o := .cells #[.slice Ao51 t714.length co51] 25 (0, 0)) (zb BK717) hb)
           replace HB := Aside0.mk (below_step (zB HB) hb)
           (try clear hb)
           (try clear hb2)
           (try clear hk)
           (try clear hi)
           refine hK.out _ _ ⟨(blk_cell BK713.out 0).trans rfl, (blk_cell BK701.out 0).trans rfl⟩ (fun hHeld => ?_)
           clear hK K
           refine norm_ (a' := ?_) ?_ ?_
           rotate_left
           ·show Act.put _ (some 30) _ = _
            simp only [Act.put, List.setIfInBounds_toArray, List.set_cons_zero, List.set_cons_succ, i64_w, i32_w]
            rfl
           refine pure_ (i := 4) (N := some 31) (v := ?_) (a' := ?_) #[true, true, true, true, true] rfl rfl (by kernel_rfl) (fun _ _ _ h => h) (Or.inl ⟨by rfl, ?_⟩) ?_ ?_
           rotate_left
           ·intro w'
            go_simp
            with_reducible rfl
           rotate_left
           ·simp only [Act.put, List.setIfInBounds_toArray, List.set_cons_zero, List.set_cons_succ, i64_w, i32_w]
            rfl
           refine done_ (by kernel_rfl) ?_
           have hcz62_0 : w61.cell? ⟨gb713, 0, none⟩ = some (.slice Ao45 t710.length co45) := (blk_cell BK713.out 0).trans rfl
           have hfz62_0 := blk_frozen BK713.out 0
           try go_wp2_with (first | ((with_reducible refine gate_callee (f := 37) rfl ?_); refine goesL_ (some 34) rfl rfl Try.func37 (by kernel_rfl) rfl #[.agg #[.slice Ao45 t710.length co45], .int .i64 1] rfl zl ?_; (with_reducible refine (laws_markSignature.calls k (fun k_ => some k_ = (.slice Ao45 t710.length co45 : Value).ownBlock) (.slice Ao45 t710.length co45) t710 1 t723 t724 w _ ?side1 ?side2 A16.out).mono ?_); (case side1 => exact zB HB); (case side2 => exact Kd.R_tight rfl HO712.out); rintro e w63 ⟨rfl, hy0, hb, hkp⟩; refine ⟨_, rfl, ?_⟩; replace BK701 := Aside0.mk (blk_kept (zb BK701) hkp (fun hs_ => (fun e_ => (Kd.R_ne HO712.out BK701.out (by decide)) e_) hs_)); replace HO705 := Aside0.mk (Kd.R_mono (ok' := fun k_ => some k_ ≠ (.slice Ao39 t706.length co39 : Value).ownBlock ∧ some k_ ≠ (.slice Ao45 t710.length co45 : Value).ownBlock ∧ some k_ ≠ (.slice Ao51 t714.length co51 : Value).ownBlock ∧ some k_ ≠ (.slice Ao60 t719.length co60 : Value).ownBlock) (Kd.R_keptB (HO705.out) hkp (fun k_ hk_ hs_ => by first | exact (hk_.1.1.2) hs_ | (revert hk_; (try simp only [and_imp]); intros; simp_all))) (fun k_ hk_ => by first | exact ⟨hk_.1.1.1.1.2, hk_.1.1.1.2, hk_.1.1.2, hk_.1.2⟩ | (revert hk_; (try simp only [and_imp]); intros; (repeat' (first | assumption | constructor))))); replace HO708 := Aside0.mk (Kd.R_mono (ok' := fun k_ => some k_ ≠ (.slice Ao36 t703.length co36 : Value).ownBlock ∧ some k_ ≠ (.slice Ao45 t710.length co45 : Value).ownBlock ∧ some k_ ≠ (.slice Ao51 t714.length co51 : Value).ownBlock ∧ some k_ ≠ (.slice Ao60 t719.length co60 : Value).ownBlock) (Kd.R_keptB (HO708.out) hkp (fun k_ hk_ hs_ => by first | exact (hk_.1.1.2) hs_ | (revert hk_; (try simp only [and_imp]); intros; simp_all))) (fun k_ hk_ => by first | exact ⟨hk_.1.1.1.1.2, hk_.1.1.1.2, hk_.1.1.2, hk_.1.2⟩ | (revert hk_; (try simp only [and_imp]); intros; (repeat' (first | assumption | constructor))))); replace BK709 := Aside0.mk (blk_kept (zb BK709) hkp (fun hs_ => (fun e_ => (Kd.R_ne HO712.out BK709.out (by decide)) e_) hs_)); replace BK713 := Aside0.mk (blk_kept (zb BK713) hkp (fun hs_ => (fun e_ => (Kd.R_ne HO712.out BK713.out (by decide)) e_) hs_)); replace HO716 := Aside0.mk (Kd.R_mono (ok' := fun k_ => some k_ ≠ (.slice Ao36 t703.length co36 : Value).ownBlock ∧ some k_ ≠ (.slice Ao39 t706.length co39 : Value).ownBlock ∧ some k_ ≠ (.slice Ao45 t710.length co45 : Value).ownBlock ∧ some k_ ≠ (.slice Ao60 t719.length co60 : Value).ownBlock) (Kd.R_keptB (HO716.out) hkp (fun k_ hk_ hs_ => by first | exact (hk_.1.2) hs_ | (revert hk_; (try simp only [and_imp]); intros; simp_all))) (fun k_ hk_ => by first | exact ⟨hk_.1.1.1.1.2, hk_.1.1.1.2, hk_.1.1.2, hk_.1.2⟩ | (revert hk_; (try simp only [and_imp]); intros; (repeat' (first | assumption | constructor))))); replace BK717 := Aside0.mk (blk_kept (zb BK717) hkp (fun hs_ => (fun e_ => (Kd.R_ne HO712.out BK717.out (by decide)) e_) hs_)); replace HO712 := Aside0.mk (Kd.R_reok rfl hy0 (fun k_ e_ => HO712.out.1 k_ e_)); replace HO721 := Aside0.mk (Kd.R_mono (ok' := fun k_ => some k_ ≠ (.slice Ao36 t703.length co36 : Value).ownBlock ∧ some k_ ≠ (.slice Ao39 t706.length co39 : Value).ownBlock ∧ some k_ ≠ (.slice Ao45 t710.length co45 : Value).ownBlock ∧ some k_ ≠ (.slice Ao51 t714.length co51 : Value).ownBlock) (Kd.R_keptB (HO721.out) hkp (fun k_ hk_ hs_ => by first | exact (hk_.1.2) hs_ | (revert hk_; (try simp only [and_imp]); intros; simp_all))) (fun k_ hk_ => by first | exact ⟨hk_.1.1.1.1.2, hk_.1.1.1.2, hk_.1.1.2, hk_.1.2⟩ | (revert hk_; (try simp only [and_imp]); intros; (repeat' (first | assumption | constructor))))); replace HB := Aside0.mk (hb); (try clear hb); (try clear hkp); (try clear hy0); have hcz64_0 : w63.cell? ⟨gb717, 0, none⟩ = some (.slice Ao51 t714.length co51) := (blk_cell BK717.out 0).trans rfl; have hfz64_0 := blk_frozen BK717.out 0; have hcz65_0 : w63.cell? ⟨gb709, 0, none⟩ = some (.slice Ao39 t706.length co39) := (blk_cell BK709.out 0).trans rfl; have hfz65_0 := blk_frozen BK709.out 0) | (go_at_call 22; (with_reducible refine (laws_eqSignature.calls k _ _ t714 _ _ t706 true _ ?side1 ?side2 ?side3 ?side4 A18.out).mono ?_); (case side1 => repeat (first | exact (Kd.R_reads' HO716.out).2.2 | (with_reducible refine Kd.C_alloc ?_ _) | (with_reducible refine Kd.C_drewN ?_ _) | (with_reducible refine Kd.C_drew ?_))); (case side2 => exact (Kd.R_reads' HO716.out).2.1); (case side3 => repeat (first | exact (Kd.R_reads' HO708.out).2.2 | (with_reducible refine Kd.C_alloc ?_ _) | (with_reducible refine Kd.C_drewN ?_ _) | (with_reducible refine Kd.C_drew ?_))); (case side4 => exact (Kd.R_reads' HO708.out).2.1); rintro e w66 ⟨rfl, hb⟩; replace HO705 := Aside0.mk (Kd.R_below (zo HO705) hb); replace HO708 := Aside0.mk (Kd.R_below (zo HO708) hb); replace HO712 := Aside0.mk (Kd.R_below (zo HO712) hb); replace HO716 := Aside0.mk (Kd.R_below (zo HO716) hb); replace HO721 := Aside0.mk (Kd.R_below (zo HO721) hb); replace BK701 := Aside0.mk (blk_below (g := gb701) (o := .cells #[.slice A0_0 l0_0.length c0_0] 31 (0, 0)) (zb BK701) hb); replace BK709 := Aside0.mk (blk_below (g := gb709) (o := .cells #[.slice Ao39 t706.length co39] 25 (0, 0)) (zb BK709) hb); replace BK713 := Aside0.mk (blk_below (g := gb713) (o := .cells #[.slice Ao45 t710.length co45] 25 (0, 0)) (zb BK713) hb); replace BK717 := Aside0.mk (blk_below (g := gb717) (o := .cells #[.slice Ao51 t714.length co51] 25 (0, 0)) (zb BK717) hb); replace HB := Aside0.mk (below_step (zB HB) hb); (try clear hb); (try clear hb2); (try clear hk); (try clear hi); have hcz67_0 : w66.cell? ⟨gb717, 0, none⟩ = some (.slice Ao51 t714.length co51) := (blk_cell BK717.out 0).trans rfl; have hfz67_0 := blk_frozen BK717.out 0) | ((with_reducible refine gate_callee (f := 37) rfl ?_); refine goesL_ (some 45) rfl rfl Try.func37 (by kernel_rfl) rfl #[.agg #[.slice Ao51 t714.length co51], .int .i64 1] rfl zl ?_; (with_reducible refine (laws_markSignature.calls k (fun k_ => some k_ = (.slice Ao51 t714.length co51 : Value).ownBlock) (.slice Ao51 t714.length co51) t714 1 t726 t727 w _ ?side1 ?side2 A20.out).mono ?_); (case side1 => exact zB HB); (case side2 => exact Kd.R_tight rfl HO716.out); rintro e w68 ⟨rfl, hy0, hb, hkp⟩; refine ⟨_, rfl, ?_⟩; replace BK701 := Aside0.mk (blk_kept (zb BK701) hkp (fun hs_ => (fun e_ => (Kd.R_ne HO716.out BK701.out (by decide)) e_) hs_)); replace HO705 := Aside0.mk (Kd.R_mono (ok' := fun k_ => some k_ ≠ (.slice Ao39 t706.length co39 : Value).ownBlock ∧ some k_ ≠ (.slice Ao45 t710.length co45 : Value).ownBlock ∧ some k_ ≠ (.slice Ao51 t714.length co51 : Value).ownBlock ∧ some k_ ≠ (.slice Ao60 t719.length co60 : Value).ownBlock) (Kd.R_keptB (HO705.out) hkp (fun k_ hk_ hs_ => by first | exact (hk_.2.2.1) hs_ | (revert hk_; (try simp only [and_imp]); intros; simp_all))) (fun k_ hk_ => by first | exact ⟨hk_.1.1, hk_.1.2.1, hk_.1.2.2.1, hk_.1.2.2.2⟩ | (revert hk_; (try simp only [and_imp]); intros; (repeat' (first | assumption | constructor))))); replace HO708 := Aside0.mk (Kd.R_mono (ok' := fun k_ => some k_ ≠ (.slice Ao36 t703.length co36 : Value).ownBlock ∧ some k_ ≠ (.slice Ao45 t710.length co45 : Value).ownBlock ∧ some k_ ≠ (.slice Ao51 t714.length co51 : Value).ownBlock ∧ some k_ ≠ (.slice Ao60 t719.length co60 : Value).ownBlock) (Kd.R_keptB (HO708.out) hkp (fun k_ hk_ hs_ => by first | exact (hk_.2.2.1) hs_ | (revert hk_; (try simp only [and_imp]); intros; simp_all))) (fun k_ hk_ => by first | exact ⟨hk_.1.1, hk_.1.2.1, hk_.1.2.2.1, hk_.1.2.2.2⟩ | (revert hk_; (try simp only [and_imp]); intros; (repeat' (first | assumption | constructor))))); replace BK709 := Aside0.mk (blk_kept (zb BK709) hkp (fun hs_ => (fun e_ => (Kd.R_ne HO716.out BK709.out (by decide)) e_) hs_)); replace HO712 := Aside0.mk (Kd.R_mono (ok' := fun k_ => some k_ ≠ (.slice Ao36 t703.length co36 : Value).ownBlock ∧ some k_ ≠ (.slice Ao39 t706.length co39 : Value).ownBlock ∧ some k_ ≠ (.slice Ao51 t714.length co51 : Value).ownBlock ∧ some k_ ≠ (.slice Ao60 t719.length co60 : Value).ownBlock) (Kd.R_keptB (HO712.out) hkp (fun k_ hk_ hs_ => by first | exact (hk_.1.2) hs_ | (revert hk_; (try simp only [and_imp]); intros; simp_all))) (fun k_ hk_ => by first | exact ⟨hk_.1.1.1.1.2, hk_.1.1.1.2, hk_.1.1.2, hk_.1.2⟩ | (revert hk_; (try simp only [and_imp]); intros; (repeat' (first | assumption | constructor))))); replace BK713 := Aside0.mk (blk_kept (zb BK713) hkp (fun hs_ => (fun e_ => (Kd.R_ne HO716.out BK713.out (by decide)) e_) hs_)); replace BK717 := Aside0.mk (blk_kept (zb BK717) hkp (fun hs_ => (fun e_ => (Kd.R_ne HO716.out BK717.out (by decide)) e_) hs_)); replace HO716 := Aside0.mk (Kd.R_reok rfl hy0 (fun k_ e_ => HO716.out.1 k_ e_)); replace HO721 := Aside0.mk (Kd.R_mono (ok' := fun k_ => some k_ ≠ (.slice Ao36 t703.length co36 : Value).ownBlock ∧ some k_ ≠ (.slice Ao39 t706.length co39 : Value).ownBlock ∧ some k_ ≠ (.slice Ao45 t710.length co45 : Value).ownBlock ∧ some k_ ≠ (.slice Ao51 t714.length co51 : Value).ownBlock) (Kd.R_keptB (HO721.out) hkp (fun k_ hk_ hs_ => by first | exact (hk_.2.2.2) hs_ | (revert hk_; (try simp only [and_imp]); intros; simp_all))) (fun k_ hk_ => by first | exact ⟨hk_.1.1, hk_.1.2.1, hk_.1.2.2.1, hk_.1.2.2.2⟩ | (revert hk_; (try simp only [and_imp]); intros; (repeat' (first | assumption | constructor))))); replace HB := Aside0.mk (hb); (try clear hb); (try clear hkp); (try clear hy0); have hcz69_0 : w68.cell? ⟨gb717, 0, none⟩ = some (.slice Ao51 t714.length co51) := (blk_cell BK717.out 0).trans rfl; have hfz69_0 := blk_frozen BK717.out 0) | ((with_reducible refine gate_callee (f := 42) rfl ?_); refine goesL_ (some 48) rfl rfl Try.func42 (by kernel_rfl) rfl #[.agg #[.slice Ao51 t727.length co51], .int .i64 1] rfl (by (try simp only [List.map_toArray, List.map_cons, List.map_nil]); first | done | (rw [show t727.length = t714.length from (Kd.R_reads' HO716.out).1.symm] <;> rfl) | rfl | (simp only [List.length_drop, List.length_take]; rfl)) ?_; (with_reducible refine (laws_heldSignature.calls k _ _ t727 1 t728 _ ?side1 ?side2 A21.out).mono ?_); (case side1 => repeat (first | exact (Kd.R_reads' HO716.out).2.2 | (with_reducible refine Kd.C_alloc ?_ _) | (with_reducible refine Kd.C_drewN ?_ _) | (with_reducible refine Kd.C_drew ?_))); (case side2 => rw [show t727.length = t714.length from (Kd.R_reads' HO716.out).1.symm]; exact (Kd.R_reads' HO716.out).2.1); rintro e w70 ⟨rfl, hb⟩; refine ⟨_, rfl, ?_⟩; replace HO705 := Aside0.mk (Kd.R_below (zo HO705) hb); replace HO708 := Aside0.mk (Kd.R_below (zo HO708) hb); replace HO712 := Aside0.mk (Kd.R_below (zo HO712) hb); replace HO716 := Aside0.mk (Kd.R_below (zo HO716) hb); replace HO721 := Aside0.mk (Kd.R_below (zo HO721) hb); replace BK701 := Aside0.mk (blk_below (g := gb701) (o := .cells #[.slice A0_0 l0_0.length c0_0] 31 (0, 0)) (zb BK701) hb); replace BK709 := Aside0.mk (blk_below (g := gb709) (o := .cells #[.slice Ao39 t706.length co39] 25 (0, 0)) (zb BK709) hb); replace BK713 := Aside0.mk (blk_below (g := gb713) (o := .cells #[.slice Ao45 t710.length co45] 25 (0, 0)) (zb BK713) hb); replace BK717 := Aside0.mk (blk_below (g := gb717) (o := .cells #[.slice Ao51 t714.length co51] 25 (0, 0)) (zb BK717) hb); replace HB := Aside0.mk (below_step (zB HB) hb); (try clear hb); (try clear hb2); (try clear hk); (try clear hi); have hcz71_0 : w70.cell? ⟨gb701, 0, none⟩ = some (.slice A0_0 l0_0.length c0_0) := (blk_cell BK701.out 0).trans rfl; have hfz71_0 := blk_frozen BK701.out 0) | ((with_reducible refine gate_callee (f := 20) rfl ?_); refine goesL_ (some 55) rfl rfl Try.func20 (by kernel_rfl) rfl #[.agg #[.slice A0_0 l0_0.length c0_0]] rfl zl ?_; (with_reducible refine (laws_toSignature.calls k _ _ l0_0 t729 _ ?side1 ?side2 A24.out).mono ?_); (case side1 => repeat (first | exact (Kd.C_below HR0_0.out HB.out) | (with_reducible refine Kd.C_alloc ?_ _) | (with_reducible refine Kd.C_drewN ?_ _) | (with_reducible refine Kd.C_drew ?_))); (case side2 => exact HC0_0.out); rintro e w72 ⟨v730, rfl, ho0, hb⟩; refine ⟨_, rfl, ?_⟩; have HO731 := Aside0.mk (Kd.R_lower (Kd.R_new' (Kd.R_new' (Kd.R_new' (Kd.R_new' (Kd.R_new' ho0 (Kd.R_lt (zo HO705))) (Kd.R_lt (zo HO708))) (Kd.R_lt (zo HO712))) (Kd.R_lt (zo HO716))) (Kd.R_lt (zo HO721))) (below_size (zB HB))); replace HO705 := Aside0.mk (Kd.R_elder' (zo HO705) (Kd.R_base ho0) hb); replace HO708 := Aside0.mk (Kd.R_elder' (zo HO708) (Kd.R_base ho0) hb); replace HO712 := Aside0.mk (Kd.R_elder' (zo HO712) (Kd.R_base ho0) hb); replace HO716 := Aside0.mk (Kd.R_elder' (zo HO716) (Kd.R_base ho0) hb); replace HO721 := Aside0.mk (Kd.R_elder' (zo HO721) (Kd.R_base ho0) hb); replace BK701 := Aside0.mk (blk_below (g := gb701) (o := .cells #[.slice A0_0 l0_0.length c0_0] 31 (0, 0)) (zb BK701) hb); replace BK709 := Aside0.mk (blk_below (g := gb709) (o := .cells #[.slice Ao39 t706.length co39] 25 (0, 0)) (zb BK709) hb); replace BK713 := Aside0.mk (blk_below (g := gb713) (o := .cells #[.slice Ao45 t710.length co45] 25 (0, 0)) (zb BK713) hb); replace BK717 := Aside0.mk (blk_below (g := gb717) (o := .cells #[.slice Ao51 t714.length co51] 25 (0, 0)) (zb BK717) hb); replace HB := Aside0.mk (below_step (zB HB) hb); (try clear hb); (try clear hb2); (try clear hk); (try clear hi); (try clear ho0); obtain ⟨Ao73, co73, eo73⟩ := Kd.R_slice HO731.out; subst eo73) | ((with_reducible refine gate_callee (f := 44) rfl ?_); refine goesL_ (some 56) rfl rfl Try.func44 (by kernel_rfl) rfl #[.agg #[.slice Ao73 t729.length co73]] rfl zl ?_; (with_reducible refine (impl_PlacesOnly.calls k _ _ t729 t732 _ ?side1 ?side2 A25.out).mono ?_); (case side1 => repeat (first | exact (Kd.R_reads' HO731.out).2.2 | (with_reducible refine Kd.C_alloc ?_ _) | (with_reducible refine Kd.C_drewN ?_ _) | (with_reducible refine Kd.C_drew ?_))); (case side2 => exact (Kd.R_reads' HO731.out).2.1); rintro e w74 ⟨v733, rfl, ho0, hb⟩; refine ⟨_, rfl, ?_⟩; have HO734 := Aside0.mk (Kd.R_lower (Kd.R_new' (Kd.R_new' (Kd.R_new' (Kd.R_new' (Kd.R_new' (Kd.R_new' ho0 (Kd.R_lt (zo HO705))) (Kd.R_lt (zo HO708))) (Kd.R_lt (zo HO712))) (Kd.R_lt (zo HO716))) (Kd.R_lt (zo HO721))) (Kd.R_lt (zo HO731))) (below_size (zB HB))); replace HO705 := Aside0.mk (Kd.R_elder' (zo HO705) (Kd.R_base ho0) hb); replace HO708 := Aside0.mk (Kd.R_elder' (zo HO708) (Kd.R_base ho0) hb); replace HO712 := Aside0.mk (Kd.R_elder' (zo HO712) (Kd.R_base ho0) hb); replace HO716 := Aside0.mk (Kd.R_elder' (zo HO716) (Kd.R_base ho0) hb); replace HO721 := Aside0.mk (Kd.R_elder' (zo HO721) (Kd.R_base ho0) hb); replace HO731 := Aside0.mk (Kd.R_elder' (zo HO731) (Kd.R_base ho0) hb); replace BK701 := Aside0.mk (blk_below (g := gb701) (o := .cells #[.slice A0_0 l0_0.length c0_0] 31 (0, 0)) (zb BK701) hb); replace BK709 := Aside0.mk (blk_below (g := gb709) (o := .cells #[.slice Ao39 t706.length co39] 25 (0, 0)) (zb BK709) hb); replace BK713 := Aside0.mk (blk_below (g := gb713) (o := .cells #[.slice Ao45 t710.length co45] 25 (0, 0)) (zb BK713) hb); replace BK717 := Aside0.mk (blk_below (g := gb717) (o := .cells #[.slice Ao51 t714.length co51] 25 (0, 0)) (zb BK717) hb); replace HB := Aside0.mk (below_step (zB HB) hb); (try clear hb); (try clear hb2); (try clear hk); (try clear hi); (try clear ho0)) | ((with_reducible refine gate_dst (N := 10) rfl ?_); refine box_event ?hg (N := 10) ?hd (cs := #[.slice none 0 0]) (t := 25) ?hr ?_; (case hd => rfl); (case hg => rfl); (case hr => first | (go_simp; done) | (go_simp; rfl)); intro gb735 hg w75 hbox hb; replace HO705 := Aside0.mk (Kd.R_below (zo HO705) hb); replace HO708 := Aside0.mk (Kd.R_below (zo HO708) hb); replace HO712 := Aside0.mk (Kd.R_below (zo HO712) hb); replace HO716 := Aside0.mk (Kd.R_below (zo HO716) hb); replace HO721 := Aside0.mk (Kd.R_below (zo HO721) hb); replace HO731 := Aside0.mk (Kd.R_below (zo HO731) hb); replace HO734 := Aside0.mk (Kd.R_below (zo HO734) hb); have BK735 := Aside0.mk (hbox); have GW735 := Aside0.mk ((by rw [hg]; exact (below_size (zB HB)) : w.heap.size ≤ gb735)); have GE735 := Aside0.mk ((by rw [hg]; exact (below_size (zB HB)) : w.heap.size ≤ gb735)); replace HB := Aside0.mk (below_step (zB HB) hb); have NB701_735 := Aside0.mk ((by rw [hg]; exact Nat.ne_of_lt (blk_lt (g := gb701) (o := .cells #[.slice A0_0 l0_0.length c0_0] 31 (0, 0)) (zb BK701)) : gb701 ≠ gb735)); have NB735_701 := Aside0.mk ((by rw [hg]; exact Nat.ne_of_gt (blk_lt (g := gb701) (o := .cells #[.slice A0_0 l0_0.length c0_0] 31 (0, 0)) (zb BK701)) : gb735 ≠ gb701)); replace BK701 := Aside0.mk (blk_below (g := gb701) (o := .cells #[.slice A0_0 l0_0.length c0_0] 31 (0, 0)) (zb BK701) hb); have NB709_735 := Aside0.mk ((by rw [hg]; exact Nat.ne_of_lt (blk_lt (g := gb709) (o := .cells #[.slice Ao39 t706.length co39] 25 (0, 0)) (zb BK709)) : gb709 ≠ gb735)); have NB735_709 := Aside0.mk ((by rw [hg]; exact Nat.ne_of_gt (blk_lt (g := gb709) (o := .cells #[.slice Ao39 t706.length co39] 25 (0, 0)) (zb BK709)) : gb735 ≠ gb709)); replace BK709 := Aside0.mk (blk_below (g := gb709) (o := .cells #[.slice Ao39 t706.length co39] 25 (0, 0)) (zb BK709) hb); have NB713_735 := Aside0.mk ((by rw [hg]; exact Nat.ne_of_lt (blk_lt (g := gb713) (o := .cells #[.slice Ao45 t710.length co45] 25 (0, 0)) (zb BK713)) : gb713 ≠ gb735)); have NB735_713 := Aside0.mk ((by rw [hg]; exact Nat.ne_of_gt (blk_lt (g := gb713) (o := .cells #[.slice Ao45 t710.length co45] 25 (0, 0)) (zb BK713)) : gb735 ≠ gb713)); replace BK713 := Aside0.mk (blk_below (g := gb713) (o := .cells #[.slice Ao45 t710.length co45] 25 (0, 0)) (zb BK713) hb); have NB717_735 := Aside0.mk ((by rw [hg]; exact Nat.ne_of_lt (blk_lt (g := gb717) (o := .cells #[.slice Ao51 t714.length co51] 25 (0, 0)) (zb BK717)) : gb717 ≠ gb735)); have NB735_717 := Aside0.mk ((by rw [hg]; exact Nat.ne_of_gt (blk_lt (g := gb717) (o := .cells #[.slice Ao51 t714.length co51] 25 (0, 0)) (zb BK717)) : gb735 ≠ gb717)); replace BK717 := Aside0.mk (blk_below (g := gb717) (o := .cells #[.slice Ao51 t714.length co51] 25 (0, 0)) (zb BK717) hb); clear hb hbox hg; obtain ⟨Ao76, co76, eo76⟩ := Kd.R_slice HO734.out; subst eo76; have hnb77 := NB735_701.out; have hnc77 := NB701_735.out; have hnb78 := NB735_709.out; have hnc78 := NB709_735.out; have hnb79 := NB735_713.out; have hnc79 := NB713_735.out; have hnb80 := NB735_717.out; have hnc80 := NB717_735.out; have hcz81_0 : w75.cell? ⟨gb735, 0, none⟩ = some (.slice none 0 0) := (blk_cell BK735.out 0).trans rfl; have hfz81_0 := blk_frozen BK735.out 0; have hcz82_0 : w75.cell? ⟨gb709, 0, none⟩ = some (.slice Ao39 t706.length co39) := (blk_cell BK709.out 0).trans rfl; have hfz82_0 := blk_frozen BK709.out 0) | ((with_reducible refine gate_callee (f := 22) rfl ?_); refine goesL_ (some 59) rfl rfl Try.func22 (by kernel_rfl) rfl #[.agg #[.slice Ao76 t732.length co76], .agg #[.slice Ao39 t706.length co39]] rfl zl ?_; (with_reducible refine (laws_eqSignature.calls k _ _ t732 _ _ t706 true _ ?side1 ?side2 ?side3 ?side4 A26.out).mono ?_); (case side1 => refine (Kd.R_reads' (e := 41) (base := w.heap.size) (ok := fun k_ => ((((((True ∧ some k_ ≠ (.slice Ao36 t703.length co36 : Value).ownBlock) ∧ some k_ ≠ (.slice Ao39 t706.length co39 : Value).ownBlock) ∧ some k_ ≠ (.slice Ao45 t710.length co45 : Value).ownBlock) ∧ some k_ ≠ (.slice Ao51 t714.length co51 : Value).ownBlock) ∧ some k_ ≠ (.slice Ao60 t719.length co60 : Value).ownBlock) ∧ some k_ ≠ (.slice Ao73 t729.length co73 : Value).ownBlock)) (n := t732.length) (c := co76) ?_).2.2; exact (by (with_reducible repeat (first | apply Kd.R_alloc | apply Kd.R_drewN | apply Kd.R_drew)); exact (Kd.R_mono (Kd.R_far (p := ⟨gb735, 0, none⟩) (Kd.R_types HO734.out BK735.out (by decide)) (fun _ hk => hk.2) (.slice Ao76 t732.length co76)) (fun _ h_ => h_.1)))); (case side2 => exact (Kd.R_reads' HO734.out).2.1); (case side3 => refine (Kd.R_reads' (e := 41) (base := w.heap.size) (ok := fun k_ => (((some k_ ≠ (.slice Ao36 t703.length co36 : Value).ownBlock ∧ (some k_ ≠ (.slice Ao45 t710.length co45 : Value).ownBlock ∧ (some k_ ≠ (.slice Ao51 t714.length co51 : Value).ownBlock ∧ some k_ ≠ (.slice Ao60 t719.length co60 : Value).ownBlock))) ∧ some k_ ≠ (.slice Ao73 t729.length co73 : Value).ownBlock) ∧ some k_ ≠ (.slice Ao76 t732.length co76 : Value).ownBlock)) (n := t706.length) (c := co39) ?_).2.2; exact (by (with_reducible repeat (first | apply Kd.R_alloc | apply Kd.R_drewN | apply Kd.R_drew)); exact (Kd.R_mono (Kd.R_far (p := ⟨gb735, 0, none⟩) (Kd.R_types HO708.out BK735.out (by decide)) (fun _ hk => hk.2) (.slice Ao76 t732.length co76)) (fun _ h_ => h_.1)))); (case side4 => exact (Kd.R_reads' HO708.out).2.1); rintro e w83 ⟨rfl, hb⟩; refine ⟨_, rfl, ?_⟩; replace HO705 := Aside0.mk (Kd.R_below (by (with_reducible repeat (first | apply Kd.R_alloc | apply Kd.R_drewN | apply Kd.R_drew)); exact (Kd.R_mono (Kd.R_far (p := ⟨gb735, 0, none⟩) (Kd.R_types HO705.out BK735.out (by decide)) (fun _ hk => hk.2) (.slice Ao76 t732.length co76)) (fun _ h_ => h_.1))) hb); replace HO708 := Aside0.mk (Kd.R_below (by (with_reducible repeat (first | apply Kd.R_alloc | apply Kd.R_drewN | apply Kd.R_drew)); exact (Kd.R_mono (Kd.R_far (p := ⟨gb735, 0, none⟩) (Kd.R_types HO708.out BK735.out (by decide)) (fun _ hk => hk.2) (.slice Ao76 t732.length co76)) (fun _ h_ => h_.1))) hb); replace HO712 := Aside0.mk (Kd.R_below (by (with_reducible repeat (first | apply Kd.R_alloc | apply Kd.R_drewN | apply Kd.R_drew)); exact (Kd.R_mono (Kd.R_far (p := ⟨gb735, 0, none⟩) (Kd.R_types HO712.out BK735.out (by decide)) (fun _ hk => hk.2) (.slice Ao76 t732.length co76)) (fun _ h_ => h_.1))) hb); replace HO716 := Aside0.mk (Kd.R_below (by (with_reducible repeat (first | apply Kd.R_alloc | apply Kd.R_drewN | apply Kd.R_drew)); exact (Kd.R_mono (Kd.R_far (p := ⟨gb735, 0, none⟩) (Kd.R_types HO716.out BK735.out (by decide)) (fun _ hk => hk.2) (.slice Ao76 t732.length co76)) (fun _ h_ => h_.1))) hb); replace HO721 := Aside0.mk (Kd.R_below (by (with_reducible repeat (first | apply Kd.R_alloc | apply Kd.R_drewN | apply Kd.R_drew)); exact (Kd.R_mono (Kd.R_far (p := ⟨gb735, 0, none⟩) (Kd.R_types HO721.out BK735.out (by decide)) (fun _ hk => hk.2) (.slice Ao76 t732.length co76)) (fun _ h_ => h_.1))) hb); replace HO731 := Aside0.mk (Kd.R_below (by (with_reducible repeat (first | apply Kd.R_alloc | apply Kd.R_drewN | apply Kd.R_drew)); exact (Kd.R_mono (Kd.R_far (p := ⟨gb735, 0, none⟩) (Kd.R_types HO731.out BK735.out (by decide)) (fun _ hk => hk.2) (.slice Ao76 t732.length co76)) (fun _ h_ => h_.1))) hb); replace HO734 := Aside0.mk (Kd.R_below (by (with_reducible repeat (first | apply Kd.R_alloc | apply Kd.R_drewN | apply Kd.R_drew)); exact (Kd.R_mono (Kd.R_far (p := ⟨gb735, 0, none⟩) (Kd.R_types HO734.out BK735.out (by decide)) (fun _ hk => hk.2) (.slice Ao76 t732.length co76)) (fun _ h_ => h_.1))) hb); replace BK701 := Aside0.mk (blk_below (g := gb701) (o := .cells #[.slice A0_0 l0_0.length c0_0] 31 (0, 0)) (zf BK701) hb); replace BK709 := Aside0.mk (blk_below (g := gb709) (o := .cells #[.slice Ao39 t706.length co39] 25 (0, 0)) (zf BK709) hb); replace BK713 := Aside0.mk (blk_below (g := gb713) (o := .cells #[.slice Ao45 t710.length co45] 25 (0, 0)) (zf BK713) hb); replace BK717 := Aside0.mk (blk_below (g := gb717) (o := .cells #[.slice Ao51 t714.length co51] 25 (0, 0)) (zf BK717) hb); replace BK735 := Aside0.mk (blk_below (g := gb735) (o := .cells #[.slice Ao76 t732.length co76] 25 (0, 0)) (by (with_reducible repeat (first | refine blk_drewN ?_ _ | refine blk_drew ?_ | refine blk_alloc ?_ _)); refine blk_put (cs := #[.slice none 0 0]) ?_ 0 _ rfl; (with_reducible repeat (first | refine blk_drewN ?_ _ | refine blk_drew ?_ | refine blk_alloc ?_ _)); exact BK735.out) hb); replace HB := Aside0.mk (below_step (zB HB) hb); (try clear hb); (try clear hb2); (try clear hk); (try clear hi); have hcz84_0 : w83.cell? ⟨gb717, 0, none⟩ = some (.slice Ao51 t714.length co51) := (blk_cell BK717.out 0).trans rfl; have hfz84_0 := blk_frozen BK717.out 0) | ((with_reducible refine gate_callee (f := 42) rfl ?_); refine goesL_ (some 63) rfl rfl Try.func42 (by kernel_rfl) rfl #[.agg #[.slice Ao51 t727.length co51], .int .i64 1] rfl (by (try simp only [List.map_toArray, List.map_cons, List.map_nil]); first | done | (rw [show t727.length = t714.length from (Kd.R_reads' HO716.out).1.symm] <;> rfl) | rfl | (simp only [List.length_drop, List.length_take]; rfl)) ?_; (with_reducible refine (laws_heldSignature.calls k _ _ t727 1 t737 _ ?side1 ?side2 A28.out).mono ?_); (case side1 => repeat (first | exact (Kd.R_reads' HO716.out).2.2 | (with_reducible refine Kd.C_alloc ?_ _) | (with_reducible refine Kd.C_drewN ?_ _) | (with_reducible refine Kd.C_drew ?_))); (case side2 => rw [show t727.length = t714.length from (Kd.R_reads' HO716.out).1.symm]; exact (Kd.R_reads' HO716.out).2.1); rintro e w85 ⟨rfl, hb⟩; refine ⟨_, rfl, ?_⟩; replace HO705 := Aside0.mk (Kd.R_below (zo HO705) hb); replace HO708 := Aside0.mk (Kd.R_below (zo HO708) hb); replace HO712 := Aside0.mk (Kd.R_below (zo HO712) hb); replace HO716 := Aside0.mk (Kd.R_below (zo HO716) hb); replace HO721 := Aside0.mk (Kd.R_below (zo HO721) hb); replace HO731 := Aside0.mk (Kd.R_below (zo HO731) hb); replace HO734 := Aside0.mk (Kd.R_below (zo HO734) hb); replace BK701 := Aside0.mk (blk_below (g := gb701) (o := .cells #[.slice A0_0 l0_0.length c0_0] 31 (0, 0)) (zb BK701) hb); replace BK709 := Aside0.mk (blk_below (g := gb709) (o := .cells #[.slice Ao39 t706.length co39] 25 (0, 0)) (zb BK709) hb); replace BK713 := Aside0.mk (blk_below (g := gb713) (o := .cells #[.slice Ao45 t710.length co45] 25 (0, 0)) (zb BK713) hb); replace BK717 := Aside0.mk (blk_below (g := gb717) (o := .cells #[.slice Ao51 t714.length co51] 25 (0, 0)) (zb BK717) hb); replace BK735 := Aside0.mk (blk_below (g := gb735) (o := .cells #[.slice Ao76 t732.length co76] 25 (0, 0)) (zb BK735) hb); replace HB := Aside0.mk (below_step (zB HB) hb); (try clear hb); (try clear hb2); (try clear hk); (try clear hi)))
           go_ret
           exact ⟨by first | rfl | (simp [errW_none, errW_some] <;> rfl) | (simp [*, errW_none, errW_some] <;> rfl), zB HB⟩
          ·rw [if_neg c30] at H
           have c30b0 : (t737 == t726) = false := beq_eq_false_iff_ne.mpr c30
           have c30b1 : (t737 != t726) = true := bne_iff_ne.mpr c30
           obtain rfl := Option.some.inj H
           exact absurd HR_.out (by decide)
        ·replace c27 := Bool.eq_false_iff.mpr c27
         subst c27
         rw [if_neg (show ¬ (false = true) by decide)] at H
         obtain rfl := Option.some.inj H
         exact absurd HR_.out (by decide)
       ·rw [if_neg c23] at H
        have c23b0 : (t728 == t726) = false := beq_eq_false_iff_ne.mpr c23
        have c23b1 : (t728 != t726) = true := bne_iff_ne.mpr c23
        obtain rfl := Option.some.inj H
        exact absurd HR_.out (by decide)
     ·replace c19 := Bool.eq_false_iff.mpr c19
      subst c19
      rw [if_neg (show ¬ (false = true) by decide)] at H
      obtain rfl := Option.some.inj H
      exact absurd HR_.out (by decide)
   ·replace c15 := Bool.eq_false_iff.mpr c15
    subst c15
    rw [if_neg (show ¬ (false = true) by decide)] at H
    obtain rfl := Option.some.inj H
    exact absurd HR_.out (by decide)
  ·replace c12 := Bool.eq_false_iff.mpr c12
   subst c12
   rw [if_neg (show ¬ (false = true) by decide)] at H
   obtain rfl := Option.some.inj H
   exact absurd HR_.out (by decide)

end Go.Proofs.Ytjnfofgonddflaa.Q
