-- written by px.py and merge.py (programs of this claim's), over the kit's print. Not trusted: Lean checks it.
import Derived.Test.YtfcpbgedgedalaaQ0
import Derived.Test.YtfcpbgedgedalaaM1FnTurnSignature
namespace Go.Proofs.Ytfcpbgedgedalaa.Q
open Go.RowKit Go.Proofs.YtfcpbgedgedalaaL.PrintWords Go.Proofs.YtfcpbgedgedalaaL.PrintLast Go.Proofs.YtfcpbgedgedalaaL.PrintMore
attribute [local go_sem] max2_int min2_int max_two min_two max_three min_three max_four min_four   -- for this text's walks alone
set_option linter.unusedVariables false
set_option linter.unusedSimpArgs false

/-! ### spec_validParam: function 150 -/
def spec_validParam.f (k : Nat) (a0_0 : ByteArray) (a0_1 : Int) (a0_2 : Bool) (a0_3 : Int) : Option (Bool) := (spec_validName.f k a0_0).bind fun t974 => (if t974 = true then ((spec_inRange.f a0_1 0 4).bind fun t975 => (if t975 = true then ((spec_validNumber.f a0_3).bind fun t976 => (if t976 = true then (if a0_2 = true then ((spec_isSingle.f a0_0 a0_1 a0_2 a0_3).bind fun t977 => (if t977 = true then (some true) else (some (!a0_2)))) else (if a0_3 = 0 then ((spec_isSingle.f a0_0 a0_1 a0_2 a0_3).bind fun t978 => (if t978 = true then (some true) else (some (!a0_2)))) else (some false))) else (some false))) else (some false))) else (some false))
theorem spec_validParam.mono : ∀ a0 a1 a2 a3 k, LeO (spec_validParam.f k a0 a1 a2 a3) (spec_validParam.f (k + 1) a0 a1 a2 a3) := by
 intro a0 a1 a2 a3 k
 unfold spec_validParam.f
 repeat' first
   | (with_reducible exact spec_validName.mono _ _)
   | (with_reducible exact LeO.refl _)
   | (with_reducible exact LeO.none _)
   | (with_reducible refine LeO.ite ?_ ?_)
   | (with_reducible refine LeO.bind ?_ (fun _ => ?_))
   | exact spec_validName.mono _ _
   | exact LeO.none _
   | refine LeO.ite ?_ ?_
   | refine LeO.bind ?_ (fun _ => ?_)
set_option maxHeartbeats 8000000 in
set_option maxRecDepth 100000 in
theorem spec_validParam.calls (k : Nat) (a0_0 : ByteArray) (a0_1 : Int) (a0_2 : Bool) (a0_3 : Int) (r : Bool) (w : World) (h : spec_validParam.f k a0_0 a0_1 a0_2 a0_3 = some r) :
  Calls Try.prog 150 #[.agg #[.string a0_0, .int .i64 a0_1, .bool a0_2, .int .i64 a0_3]] w fun e w' => e = .returned (.bool r) ∧ Below w.heap.size w w' := by
 have hu123 := Try.underlying123
 have HB := Aside0.mk (Below.refl w.heap.size w)
 have H : ((spec_validName.f k a0_0).bind fun t974 => (if t974 = true then ((spec_inRange.f a0_1 0 4).bind fun t975 => (if t975 = true then ((spec_validNumber.f a0_3).bind fun t976 => (if t976 = true then (if a0_2 = true then ((spec_isSingle.f a0_0 a0_1 a0_2 a0_3).bind fun t977 => (if t977 = true then (some true) else (some (!a0_2)))) else (if a0_3 = 0 then ((spec_isSingle.f a0_0 a0_1 a0_2 a0_3).bind fun t978 => (if t978 = true then (some true) else (some (!a0_2)))) else (some false))) else (some false))) else (some false))) else (some false))) = some r := h
 clear h
 replace H := Option.bind_eq_some_iff.mp H
 obtain ⟨t974, A20, H⟩ := H
 (try dsimp only at H)
 have A2 := Aside0.mk A20
 clear A20
 by_cases c3 : t974 = true
 ·subst c3
  rw [if_pos rfl] at H
  replace H := Option.bind_eq_some_iff.mp H
  obtain ⟨t975, A40, H⟩ := H
  (try dsimp only at H)
  have A4 := Aside0.mk A40
  clear A40
  by_cases c5 : t975 = true
  ·subst c5
   rw [if_pos rfl] at H
   replace H := Option.bind_eq_some_iff.mp H
   obtain ⟨t976, A60, H⟩ := H
   (try dsimp only at H)
   have A6 := Aside0.mk A60
   clear A60
   by_cases c7 : t976 = true
   ·subst c7
    rw [if_pos rfl] at H
    by_cases c8 : a0_2 = true
    ·subst c8
     rw [if_pos rfl] at H
     replace H := Option.bind_eq_some_iff.mp H
     obtain ⟨t977, A90, H⟩ := H
     (try dsimp only at H)
     have A9 := Aside0.mk A90
     clear A90
     by_cases c10 : t977 = true
     ·subst c10
      rw [if_pos rfl] at H
      obtain rfl := Option.some.inj H
      go_enter Try.func150, Try.ntmps150
      go_wp2_with (first | ((with_reducible refine gate_dst (N := 1) rfl ?_); refine box_event ?hg (N := 1) ?hd (cs := #[.string a0_0, .int .i64 a0_1, .bool true, .int .i64 a0_3]) (t := 123) ?hr ?_; (case hd => rfl); (case hg => rfl); (case hr => first | (go_simp; done) | (go_simp; rfl)); intro gb973 hg w11 hbox hb; have BK973 := Aside0.mk (hbox); have GW973 := Aside0.mk ((by rw [hg]; exact (below_size (zB HB)) : w.heap.size ≤ gb973)); have GE973 := Aside0.mk ((by rw [hg]; exact (below_size (zB HB)) : w.heap.size ≤ gb973)); replace HB := Aside0.mk (below_step (zB HB) hb); clear hb hbox hg; have hcz12_0 : w11.cell? ⟨gb973, 0, none⟩ = some (.string a0_0) := (blk_cell BK973.out 0).trans rfl; have hcz12_1 : w11.cell? ⟨gb973, 1, none⟩ = some (.int .i64 a0_1) := (blk_cell BK973.out 1).trans rfl; have hcz12_2 : w11.cell? ⟨gb973, 2, none⟩ = some (.bool true) := (blk_cell BK973.out 2).trans rfl; have hcz12_3 : w11.cell? ⟨gb973, 3, none⟩ = some (.int .i64 a0_3) := (blk_cell BK973.out 3).trans rfl; have hfz12_0 := blk_frozen BK973.out 0; have hfz12_1 := blk_frozen BK973.out 1; have hfz12_2 := blk_frozen BK973.out 2; have hfz12_3 := blk_frozen BK973.out 3) | ((with_reducible refine gate_callee (f := 129) rfl ?_); refine goesL_ (some 5) rfl rfl Try.func129 (by kernel_rfl) rfl #[.string a0_0] rfl zl ?_; (with_reducible refine (spec_validName.calls k a0_0 true _ A2.out).mono ?_); rintro e w' ⟨rfl, ⟨nd, rfl⟩⟩; refine ⟨_, rfl, ?_⟩) | (go_at_call 144; (with_reducible refine (spec_inRange.calls a0_1 0 4 true _ A4.out).mono ?_); rintro e w' ⟨rfl, ⟨nd, rfl⟩⟩) | (go_at_call 127; (with_reducible refine (spec_validNumber.calls a0_3 true _ A6.out).mono ?_); rintro e w' ⟨rfl, ⟨nd, rfl⟩⟩) | (go_at_call 147; (with_reducible refine (spec_isSingle.calls a0_0 a0_1 true a0_3 true _ A9.out).mono ?_); rintro e w13 ⟨rfl, hb⟩; replace BK973 := Aside0.mk (blk_below (g := gb973) (o := .cells #[.string a0_0, .int .i64 a0_1, .bool true, .int .i64 a0_3] 123 (0, 0)) (zb BK973) hb); replace HB := Aside0.mk (below_step (zB HB) hb); (try clear hb); (try clear hb2); (try clear hk); (try clear hi)))
      go_ret
      exact ⟨by first | rfl | (simp [errW_none, errW_some] <;> rfl) | (simp [*, errW_none, errW_some] <;> rfl), zB HB⟩
     ·replace c10 := Bool.eq_false_iff.mpr c10
      subst c10
      rw [if_neg (show ¬ (false = true) by decide)] at H
      obtain rfl := Option.some.inj H
      go_enter Try.func150, Try.ntmps150
      go_wp2_with (first | ((with_reducible refine gate_dst (N := 1) rfl ?_); refine box_event ?hg (N := 1) ?hd (cs := #[.string a0_0, .int .i64 a0_1, .bool true, .int .i64 a0_3]) (t := 123) ?hr ?_; (case hd => rfl); (case hg => rfl); (case hr => first | (go_simp; done) | (go_simp; rfl)); intro gb973 hg w14 hbox hb; have BK973 := Aside0.mk (hbox); have GW973 := Aside0.mk ((by rw [hg]; exact (below_size (zB HB)) : w.heap.size ≤ gb973)); have GE973 := Aside0.mk ((by rw [hg]; exact (below_size (zB HB)) : w.heap.size ≤ gb973)); replace HB := Aside0.mk (below_step (zB HB) hb); clear hb hbox hg; have hcz15_0 : w14.cell? ⟨gb973, 0, none⟩ = some (.string a0_0) := (blk_cell BK973.out 0).trans rfl; have hcz15_1 : w14.cell? ⟨gb973, 1, none⟩ = some (.int .i64 a0_1) := (blk_cell BK973.out 1).trans rfl; have hcz15_2 : w14.cell? ⟨gb973, 2, none⟩ = some (.bool true) := (blk_cell BK973.out 2).trans rfl; have hcz15_3 : w14.cell? ⟨gb973, 3, none⟩ = some (.int .i64 a0_3) := (blk_cell BK973.out 3).trans rfl; have hfz15_0 := blk_frozen BK973.out 0; have hfz15_1 := blk_frozen BK973.out 1; have hfz15_2 := blk_frozen BK973.out 2; have hfz15_3 := blk_frozen BK973.out 3) | ((with_reducible refine gate_callee (f := 129) rfl ?_); refine goesL_ (some 5) rfl rfl Try.func129 (by kernel_rfl) rfl #[.string a0_0] rfl zl ?_; (with_reducible refine (spec_validName.calls k a0_0 true _ A2.out).mono ?_); rintro e w' ⟨rfl, ⟨nd, rfl⟩⟩; refine ⟨_, rfl, ?_⟩) | (go_at_call 144; (with_reducible refine (spec_inRange.calls a0_1 0 4 true _ A4.out).mono ?_); rintro e w' ⟨rfl, ⟨nd, rfl⟩⟩) | (go_at_call 127; (with_reducible refine (spec_validNumber.calls a0_3 true _ A6.out).mono ?_); rintro e w' ⟨rfl, ⟨nd, rfl⟩⟩) | (go_at_call 147; (with_reducible refine (spec_isSingle.calls a0_0 a0_1 true a0_3 false _ A9.out).mono ?_); rintro e w16 ⟨rfl, hb⟩; replace BK973 := Aside0.mk (blk_below (g := gb973) (o := .cells #[.string a0_0, .int .i64 a0_1, .bool true, .int .i64 a0_3] 123 (0, 0)) (zb BK973) hb); replace HB := Aside0.mk (below_step (zB HB) hb); (try clear hb); (try clear hb2); (try clear hk); (try clear hi); have hcz17_0 : w16.cell? ⟨gb973, 0, none⟩ = some (.string a0_0) := (blk_cell BK973.out 0).trans rfl; have hcz17_1 : w16.cell? ⟨gb973, 1, none⟩ = some (.int .i64 a0_1) := (blk_cell BK973.out 1).trans rfl; have hcz17_2 : w16.cell? ⟨gb973, 2, none⟩ = some (.bool true) := (blk_cell BK973.out 2).trans rfl; have hcz17_3 : w16.cell? ⟨gb973, 3, none⟩ = some (.int .i64 a0_3) := (blk_cell BK973.out 3).trans rfl; have hfz17_0 := blk_frozen BK973.out 0; have hfz17_1 := blk_frozen BK973.out 1; have hfz17_2 := blk_frozen BK973.out 2; have hfz17_3 := blk_frozen BK973.out 3))
      go_ret
      exact ⟨by first | rfl | (simp [errW_none, errW_some] <;> rfl) | (simp [*, errW_none, errW_some] <;> rfl), zB HB⟩
    ·replace c8 := Bool.eq_false_iff.mpr c8
     subst c8
     rw [if_neg (show ¬ (false = true) by decide)] at H
     by_cases c18 : a0_3 = 0
     ·rw [if_pos c18] at H
      have c18b0 : (a0_3 == 0) = true := beq_iff_eq.mpr c18
      have c18b1 : (a0_3 != 0) = false := bne_eq_false_iff_eq.mpr c18
      clear c18
      replace H := Option.bind_eq_some_iff.mp H
      obtain ⟨t978, A190, H⟩ := H
      (try dsimp only at H)
      have A19 := Aside0.mk A190
      clear A190
      by_cases c20 : t978 = true
      ·subst c20
       rw [if_pos rfl] at H
       obtain rfl := Option.some.inj H
       go_enter Try.func150, Try.ntmps150
       go_wp2_with (first | ((with_reducible refine gate_dst (N := 1) rfl ?_); refine box_event ?hg (N := 1) ?hd (cs := #[.string a0_0, .int .i64 a0_1, .bool false, .int .i64 a0_3]) (t := 123) ?hr ?_; (case hd => rfl); (case hg => rfl); (case hr => first | (go_simp; done) | (go_simp; rfl)); intro gb973 hg w21 hbox hb; have BK973 := Aside0.mk (hbox); have GW973 := Aside0.mk ((by rw [hg]; exact (below_size (zB HB)) : w.heap.size ≤ gb973)); have GE973 := Aside0.mk ((by rw [hg]; exact (below_size (zB HB)) : w.heap.size ≤ gb973)); replace HB := Aside0.mk (below_step (zB HB) hb); clear hb hbox hg; have hcz22_0 : w21.cell? ⟨gb973, 0, none⟩ = some (.string a0_0) := (blk_cell BK973.out 0).trans rfl; have hcz22_1 : w21.cell? ⟨gb973, 1, none⟩ = some (.int .i64 a0_1) := (blk_cell BK973.out 1).trans rfl; have hcz22_2 : w21.cell? ⟨gb973, 2, none⟩ = some (.bool false) := (blk_cell BK973.out 2).trans rfl; have hcz22_3 : w21.cell? ⟨gb973, 3, none⟩ = some (.int .i64 a0_3) := (blk_cell BK973.out 3).trans rfl; have hfz22_0 := blk_frozen BK973.out 0; have hfz22_1 := blk_frozen BK973.out 1; have hfz22_2 := blk_frozen BK973.out 2; have hfz22_3 := blk_frozen BK973.out 3) | ((with_reducible refine gate_callee (f := 129) rfl ?_); refine goesL_ (some 5) rfl rfl Try.func129 (by kernel_rfl) rfl #[.string a0_0] rfl zl ?_; (with_reducible refine (spec_validName.calls k a0_0 true _ A2.out).mono ?_); rintro e w' ⟨rfl, ⟨nd, rfl⟩⟩; refine ⟨_, rfl, ?_⟩) | (go_at_call 144; (with_reducible refine (spec_inRange.calls a0_1 0 4 true _ A4.out).mono ?_); rintro e w' ⟨rfl, ⟨nd, rfl⟩⟩) | (go_at_call 127; (with_reducible refine (spec_validNumber.calls a0_3 true _ A6.out).mono ?_); rintro e w' ⟨rfl, ⟨nd, rfl⟩⟩) | (go_at_call 147; (with_reducible refine (spec_isSingle.calls a0_0 a0_1 false a0_3 true _ A19.out).mono ?_); rintro e w23 ⟨rfl, hb⟩; replace BK973 := Aside0.mk (blk_below (g := gb973) (o := .cells #[.string a0_0, .int .i64 a0_1, .bool false, .int .i64 a0_3] 123 (0, 0)) (zb BK973) hb); replace HB := Aside0.mk (below_step (zB HB) hb); (try clear hb); (try clear hb2); (try clear hk); (try clear hi)))
       go_ret
       exact ⟨by first | rfl | (simp [errW_none, errW_some] <;> rfl) | (simp [*, errW_none, errW_some] <;> rfl), zB HB⟩
      ·replace c20 := Bool.eq_false_iff.mpr c20
       subst c20
       rw [if_neg (show ¬ (false = true) by decide)] at H
       obtain rfl := Option.some.inj H
       go_enter Try.func150, Try.ntmps150
       go_wp2_with (first | ((with_reducible refine gate_dst (N := 1) rfl ?_); refine box_event ?hg (N := 1) ?hd (cs := #[.string a0_0, .int .i64 a0_1, .bool false, .int .i64 a0_3]) (t := 123) ?hr ?_; (case hd => rfl); (case hg => rfl); (case hr => first | (go_simp; done) | (go_simp; rfl)); intro gb973 hg w24 hbox hb; have BK973 := Aside0.mk (hbox); have GW973 := Aside0.mk ((by rw [hg]; exact (below_size (zB HB)) : w.heap.size ≤ gb973)); have GE973 := Aside0.mk ((by rw [hg]; exact (below_size (zB HB)) : w.heap.size ≤ gb973)); replace HB := Aside0.mk (below_step (zB HB) hb); clear hb hbox hg; have hcz25_0 : w24.cell? ⟨gb973, 0, none⟩ = some (.string a0_0) := (blk_cell BK973.out 0).trans rfl; have hcz25_1 : w24.cell? ⟨gb973, 1, none⟩ = some (.int .i64 a0_1) := (blk_cell BK973.out 1).trans rfl; have hcz25_2 : w24.cell? ⟨gb973, 2, none⟩ = some (.bool false) := (blk_cell BK973.out 2).trans rfl; have hcz25_3 : w24.cell? ⟨gb973, 3, none⟩ = some (.int .i64 a0_3) := (blk_cell BK973.out 3).trans rfl; have hfz25_0 := blk_frozen BK973.out 0; have hfz25_1 := blk_frozen BK973.out 1; have hfz25_2 := blk_frozen BK973.out 2; have hfz25_3 := blk_frozen BK973.out 3) | ((with_reducible refine gate_callee (f := 129) rfl ?_); refine goesL_ (some 5) rfl rfl Try.func129 (by kernel_rfl) rfl #[.string a0_0] rfl zl ?_; (with_reducible refine (spec_validName.calls k a0_0 true _ A2.out).mono ?_); rintro e w' ⟨rfl, ⟨nd, rfl⟩⟩; refine ⟨_, rfl, ?_⟩) | (go_at_call 144; (with_reducible refine (spec_inRange.calls a0_1 0 4 true _ A4.out).mono ?_); rintro e w' ⟨rfl, ⟨nd, rfl⟩⟩) | (go_at_call 127; (with_reducible refine (spec_validNumber.calls a0_3 true _ A6.out).mono ?_); rintro e w' ⟨rfl, ⟨nd, rfl⟩⟩) | (go_at_call 147; (with_reducible refine (spec_isSingle.calls a0_0 a0_1 false a0_3 false _ A19.out).mono ?_); rintro e w26 ⟨rfl, hb⟩; replace BK973 := Aside0.mk (blk_below (g := gb973) (o := .cells #[.string a0_0, .int .i64 a0_1, .bool false, .int .i64 a0_3] 123 (0, 0)) (zb BK973) hb); replace HB := Aside0.mk (below_step (zB HB) hb); (try clear hb); (try clear hb2); (try clear hk); (try clear hi); have hcz27_0 : w26.cell? ⟨gb973, 0, none⟩ = some (.string a0_0) := (blk_cell BK973.out 0).trans rfl; have hcz27_1 : w26.cell? ⟨gb973, 1, none⟩ = some (.int .i64 a0_1) := (blk_cell BK973.out 1).trans rfl; have hcz27_2 : w26.cell? ⟨gb973, 2, none⟩ = some (.bool false) := (blk_cell BK973.out 2).trans rfl; have hcz27_3 : w26.cell? ⟨gb973, 3, none⟩ = some (.int .i64 a0_3) := (blk_cell BK973.out 3).trans rfl; have hfz27_0 := blk_frozen BK973.out 0; have hfz27_1 := blk_frozen BK973.out 1; have hfz27_2 := blk_frozen BK973.out 2; have hfz27_3 := blk_frozen BK973.out 3))
       go_ret
       exact ⟨by first | rfl | (simp [errW_none, errW_some] <;> rfl) | (simp [*, errW_none, errW_some] <;> rfl), zB HB⟩
     ·rw [if_neg c18] at H
      have c18b0 : (a0_3 == 0) = false := beq_eq_false_iff_ne.mpr c18
      have c18b1 : (a0_3 != 0) = true := bne_iff_ne.mpr c18
      obtain rfl := Option.some.inj H
      go_enter Try.func150, Try.ntmps150
      go_wp2_with (first | ((with_reducible refine gate_dst (N := 1) rfl ?_); refine box_event ?hg (N := 1) ?hd (cs := #[.string a0_0, .int .i64 a0_1, .bool false, .int .i64 a0_3]) (t := 123) ?hr ?_; (case hd => rfl); (case hg => rfl); (case hr => first | (go_simp; done) | (go_simp; rfl)); intro gb973 hg w28 hbox hb; have BK973 := Aside0.mk (hbox); have GW973 := Aside0.mk ((by rw [hg]; exact (below_size (zB HB)) : w.heap.size ≤ gb973)); have GE973 := Aside0.mk ((by rw [hg]; exact (below_size (zB HB)) : w.heap.size ≤ gb973)); replace HB := Aside0.mk (below_step (zB HB) hb); clear hb hbox hg; have hcz29_0 : w28.cell? ⟨gb973, 0, none⟩ = some (.string a0_0) := (blk_cell BK973.out 0).trans rfl; have hcz29_1 : w28.cell? ⟨gb973, 1, none⟩ = some (.int .i64 a0_1) := (blk_cell BK973.out 1).trans rfl; have hcz29_2 : w28.cell? ⟨gb973, 2, none⟩ = some (.bool false) := (blk_cell BK973.out 2).trans rfl; have hcz29_3 : w28.cell? ⟨gb973, 3, none⟩ = some (.int .i64 a0_3) := (blk_cell BK973.out 3).trans rfl; have hfz29_0 := blk_frozen BK973.out 0; have hfz29_1 := blk_frozen BK973.out 1; have hfz29_2 := blk_frozen BK973.out 2; have hfz29_3 := blk_frozen BK973.out 3) | ((with_reducible refine gate_callee (f := 129) rfl ?_); refine goesL_ (some 5) rfl rfl Try.func129 (by kernel_rfl) rfl #[.string a0_0] rfl zl ?_; (with_reducible refine (spec_validName.calls k a0_0 true _ A2.out).mono ?_); rintro e w' ⟨rfl, ⟨nd, rfl⟩⟩; refine ⟨_, rfl, ?_⟩) | (go_at_call 144; (with_reducible refine (spec_inRange.calls a0_1 0 4 true _ A4.out).mono ?_); rintro e w' ⟨rfl, ⟨nd, rfl⟩⟩) | (go_at_call 127; (with_reducible refine (spec_validNumber.calls a0_3 true _ A6.out).mono ?_); rintro e w' ⟨rfl, ⟨nd, rfl⟩⟩))
      go_ret
      exact ⟨by first | rfl | (simp [errW_none, errW_some] <;> rfl) | (simp [*, errW_none, errW_some] <;> rfl), zB HB⟩
   ·replace c7 := Bool.eq_false_iff.mpr c7
    subst c7
    rw [if_neg (show ¬ (false = true) by decide)] at H
    obtain rfl := Option.some.inj H
    go_enter Try.func150, Try.ntmps150
    go_wp2_with (first | ((with_reducible refine gate_dst (N := 1) rfl ?_); refine box_event ?hg (N := 1) ?hd (cs := #[.string a0_0, .int .i64 a0_1, .bool a0_2, .int .i64 a0_3]) (t := 123) ?hr ?_; (case hd => rfl); (case hg => rfl); (case hr => first | (go_simp; done) | (go_simp; rfl)); intro gb973 hg w30 hbox hb; have BK973 := Aside0.mk (hbox); have GW973 := Aside0.mk ((by rw [hg]; exact (below_size (zB HB)) : w.heap.size ≤ gb973)); have GE973 := Aside0.mk ((by rw [hg]; exact (below_size (zB HB)) : w.heap.size ≤ gb973)); replace HB := Aside0.mk (below_step (zB HB) hb); clear hb hbox hg; have hcz31_0 : w30.cell? ⟨gb973, 0, none⟩ = some (.string a0_0) := (blk_cell BK973.out 0).trans rfl; have hcz31_1 : w30.cell? ⟨gb973, 1, none⟩ = some (.int .i64 a0_1) := (blk_cell BK973.out 1).trans rfl; have hcz31_2 : w30.cell? ⟨gb973, 2, none⟩ = some (.bool a0_2) := (blk_cell BK973.out 2).trans rfl; have hcz31_3 : w30.cell? ⟨gb973, 3, none⟩ = some (.int .i64 a0_3) := (blk_cell BK973.out 3).trans rfl; have hfz31_0 := blk_frozen BK973.out 0; have hfz31_1 := blk_frozen BK973.out 1; have hfz31_2 := blk_frozen BK973.out 2; have hfz31_3 := blk_frozen BK973.out 3) | ((with_reducible refine gate_callee (f := 129) rfl ?_); refine goesL_ (some 5) rfl rfl Try.func129 (by kernel_rfl) rfl #[.string a0_0] rfl zl ?_; (with_reducible refine (spec_validName.calls k a0_0 true _ A2.out).mono ?_); rintro e w' ⟨rfl, ⟨nd, rfl⟩⟩; refine ⟨_, rfl, ?_⟩) | (go_at_call 144; (with_reducible refine (spec_inRange.calls a0_1 0 4 true _ A4.out).mono ?_); rintro e w' ⟨rfl, ⟨nd, rfl⟩⟩) | (go_at_call 127; (with_reducible refine (spec_validNumber.calls a0_3 false _ A6.out).mono ?_); rintro e w' ⟨rfl, ⟨nd, rfl⟩⟩))
    go_ret
    exact ⟨by first | rfl | (simp [errW_none, errW_some] <;> rfl) | (simp [*, errW_none, errW_some] <;> rfl), zB HB⟩
  ·replace c5 := Bool.eq_false_iff.mpr c5
   subst c5
   rw [if_neg (show ¬ (false = true) by decide)] at H
   obtain rfl := Option.some.inj H
   go_enter Try.func150, Try.ntmps150
   go_wp2_with (first | ((with_reducible refine gate_dst (N := 1) rfl ?_); refine box_event ?hg (N := 1) ?hd (cs := #[.string a0_0, .int .i64 a0_1, .bool a0_2, .int .i64 a0_3]) (t := 123) ?hr ?_; (case hd => rfl); (case hg => rfl); (case hr => first | (go_simp; done) | (go_simp; rfl)); intro gb973 hg w32 hbox hb; have BK973 := Aside0.mk (hbox); have GW973 := Aside0.mk ((by rw [hg]; exact (below_size (zB HB)) : w.heap.size ≤ gb973)); have GE973 := Aside0.mk ((by rw [hg]; exact (below_size (zB HB)) : w.heap.size ≤ gb973)); replace HB := Aside0.mk (below_step (zB HB) hb); clear hb hbox hg; have hcz33_0 : w32.cell? ⟨gb973, 0, none⟩ = some (.string a0_0) := (blk_cell BK973.out 0).trans rfl; have hcz33_1 : w32.cell? ⟨gb973, 1, none⟩ = some (.int .i64 a0_1) := (blk_cell BK973.out 1).trans rfl; have hcz33_2 : w32.cell? ⟨gb973, 2, none⟩ = some (.bool a0_2) := (blk_cell BK973.out 2).trans rfl; have hcz33_3 : w32.cell? ⟨gb973, 3, none⟩ = some (.int .i64 a0_3) := (blk_cell BK973.out 3).trans rfl; have hfz33_0 := blk_frozen BK973.out 0; have hfz33_1 := blk_frozen BK973.out 1; have hfz33_2 := blk_frozen BK973.out 2; have hfz33_3 := blk_frozen BK973.out 3) | ((with_reducible refine gate_callee (f := 129) rfl ?_); refine goesL_ (some 5) rfl rfl Try.func129 (by kernel_rfl) rfl #[.string a0_0] rfl zl ?_; (with_reducible refine (spec_validName.calls k a0_0 true _ A2.out).mono ?_); rintro e w' ⟨rfl, ⟨nd, rfl⟩⟩; refine ⟨_, rfl, ?_⟩) | (go_at_call 144; (with_reducible refine (spec_inRange.calls a0_1 0 4 false _ A4.out).mono ?_); rintro e w' ⟨rfl, ⟨nd, rfl⟩⟩))
   go_ret
   exact ⟨by first | rfl | (simp [errW_none, errW_some] <;> rfl) | (simp [*, errW_none, errW_some] <;> rfl), zB HB⟩
 ·replace c3 := Bool.eq_false_iff.mpr c3
  subst c3
  rw [if_neg (show ¬ (false = true) by decide)] at H
  obtain rfl := Option.some.inj H
  go_enter Try.func150, Try.ntmps150
  go_wp2_with (first | ((with_reducible refine gate_dst (N := 1) rfl ?_); refine box_event ?hg (N := 1) ?hd (cs := #[.string a0_0, .int .i64 a0_1, .bool a0_2, .int .i64 a0_3]) (t := 123) ?hr ?_; (case hd => rfl); (case hg => rfl); (case hr => first | (go_simp; done) | (go_simp; rfl)); intro gb973 hg w34 hbox hb; have BK973 := Aside0.mk (hbox); have GW973 := Aside0.mk ((by rw [hg]; exact (below_size (zB HB)) : w.heap.size ≤ gb973)); have GE973 := Aside0.mk ((by rw [hg]; exact (below_size (zB HB)) : w.heap.size ≤ gb973)); replace HB := Aside0.mk (below_step (zB HB) hb); clear hb hbox hg; have hcz35_0 : w34.cell? ⟨gb973, 0, none⟩ = some (.string a0_0) := (blk_cell BK973.out 0).trans rfl; have hcz35_1 : w34.cell? ⟨gb973, 1, none⟩ = some (.int .i64 a0_1) := (blk_cell BK973.out 1).trans rfl; have hcz35_2 : w34.cell? ⟨gb973, 2, none⟩ = some (.bool a0_2) := (blk_cell BK973.out 2).trans rfl; have hcz35_3 : w34.cell? ⟨gb973, 3, none⟩ = some (.int .i64 a0_3) := (blk_cell BK973.out 3).trans rfl; have hfz35_0 := blk_frozen BK973.out 0; have hfz35_1 := blk_frozen BK973.out 1; have hfz35_2 := blk_frozen BK973.out 2; have hfz35_3 := blk_frozen BK973.out 3) | ((with_reducible refine gate_callee (f := 129) rfl ?_); refine goesL_ (some 5) rfl rfl Try.func129 (by kernel_rfl) rfl #[.string a0_0] rfl zl ?_; (with_reducible refine (spec_validName.calls k a0_0 false _ A2.out).mono ?_); rintro e w' ⟨rfl, ⟨nd, rfl⟩⟩; refine ⟨_, rfl, ?_⟩))
  go_ret
  exact ⟨by first | rfl | (simp [errW_none, errW_some] <;> rfl) | (simp [*, errW_none, errW_some] <;> rfl), zB HB⟩

end Go.Proofs.Ytfcpbgedgedalaa.Q

namespace Go.Proofs.Ytfcpbgedgedalaa.Q
open Go.RowKit Go.Proofs.YtfcpbgedgedalaaL.PrintWords Go.Proofs.YtfcpbgedgedalaaL.PrintLast Go.Proofs.YtfcpbgedgedalaaL.PrintMore
attribute [local go_sem] max2_int min2_int max_two min_two max_three min_three max_four min_four   -- for this text's walks alone
set_option linter.unusedVariables false
set_option linter.unusedSimpArgs false

/-! ### spec_findParam: function 151 -/
def spec_findParam.l0 : Nat → List (S123) → ByteArray → Int → Option (Int)
 | 0, _, _, _ => none
 | k + 1, x0, x1, x5 => if x5 < (x0.length : Int) then (if 0 ≤ x5 then (if ((rd_T123 x0 x5).f0).toList = x1.toList then (some x5) else (spec_findParam.l0 k x0 x1 (wrap64 (x5 + 1)))) else (none)) else (some (-1))
def spec_findParam.f (k : Nat) (l0 : List (S123)) (a1 : ByteArray) : Option (Int) := spec_findParam.l0 k l0 a1 0
theorem spec_findParam.mono_l : ∀ k, (∀ y0 y1 y2, LeO (spec_findParam.l0 k y0 y1 y2) (spec_findParam.l0 (k + 1) y0 y1 y2))
 | 0 => fun _ _ _ r h => by simp [spec_findParam.l0] at h
 | k + 1 => by
  have ih0 := spec_findParam.mono_l k
  ·intro y0 y1 y2
   unfold spec_findParam.l0
   repeat' first
   | (with_reducible exact ih0 _ _ _)
   | (with_reducible exact LeO.refl _)
   | (with_reducible exact LeO.none _)
   | (with_reducible refine LeO.ite ?_ ?_)
   | (with_reducible refine LeO.bind ?_ (fun _ => ?_))
   | exact ih0 _ _ _
   | exact LeO.none _
   | refine LeO.ite ?_ ?_
   | refine LeO.bind ?_ (fun _ => ?_)
theorem spec_findParam.mono : ∀ a0 a1 k, LeO (spec_findParam.f k a0 a1) (spec_findParam.f (k + 1) a0 a1) := by
 intro a0 a1 k
 have ih0 := spec_findParam.mono_l k
 unfold spec_findParam.f
 repeat' first
   | (with_reducible exact ih0 _ _ _)
   | (with_reducible exact LeO.refl _)
   | (with_reducible exact LeO.none _)
   | (with_reducible refine LeO.ite ?_ ?_)
   | (with_reducible refine LeO.bind ?_ (fun _ => ?_))
   | exact ih0 _ _ _
   | exact LeO.none _
   | refine LeO.ite ?_ ?_
   | refine LeO.bind ?_ (fun _ => ?_)
set_option maxHeartbeats 8000000 in
set_option maxRecDepth 100000 in
theorem spec_findParam.calls (k : Nat) (A0 : Option Addr) (c0 : Nat) (l0 : List (S123)) (a1 : ByteArray) (r : Int) (w : World) (hr0 : Kd.C k123 w A0 l0.length l0) (hc0 : l0.length ≤ c0) (h : spec_findParam.f k l0 a1 = some r) :
  Calls Try.prog 151 #[.slice A0 l0.length c0, .string a1] w fun e w' => e = .returned (.int .i64 r) ∧ Drawn0 w w' := by
 have HR0 := Aside0.mk hr0
 have HC0 := Aside0.mk hc0
 clear hr0 hc0
 have H : (spec_findParam.l0 k l0 a1 0) = some r := h
 clear h
 have H' := Aside0.mk H
 clear H
 go_enter Try.func151, Try.ntmps151
 go_wp2
 go_loopg [5] k (fun kq v5 w' => ∃ (x5_1 : Int), v5 = .int .i64 x5_1 ∧ Aside0 (spec_findParam.l0 kq l0 a1 x5_1 = some r) ∧ Aside0 (kq ≤ k) ∧ Drawn0 w w')
 case atStart => exact ⟨(0), zr, H', ⟨Nat.le_refl _⟩, by repeat (first | exact Drawn0.refl _ | apply Drawn0.step)⟩
 case round =>
  clear H'
  try clear c1
  try clear p2
  obtain ⟨x5_1, rfl, HA, HK1, ⟨m1, rfl⟩⟩ := hrel
  cases gk with
  | zero => exact absurd HA.out (by simp [spec_findParam.l0])
  | succ k1 =>
   have H := HA.out
   clear HA
   simp only [spec_findParam.l0] at H
   by_cases c3 : x5_1 < (l0.length : Int)
   ·rw [if_pos c3] at H
    have c3b0 : decide (x5_1 < (l0.length : Int)) = true := decide_eq_true c3
    clear c3
    by_cases c4 : 0 ≤ x5_1
    ·rw [if_pos c4] at H
     have c4b0 : decide (0 ≤ x5_1) = true := decide_eq_true c4
     clear c4
     by_cases c5 : ((rd_T123 l0 x5_1).f0).toList = a1.toList
     ·rw [if_pos c5] at H
      have c5b0 : (((rd_T123 l0 x5_1).f0).toList == a1.toList) = true := beq_iff_eq.mpr c5
      have c5b1 : (((rd_T123 l0 x5_1).f0).toList != a1.toList) = false := bne_eq_false_iff_eq.mpr c5
      clear c5
      obtain rfl := Option.some.inj H
      have p979 : 0 ≤ (x5_1 : Int) := of_decide_eq_true za
      have q979 : x5_1 < (l0.length : Int) := of_decide_eq_true za
      obtain ⟨ad979, e979, hx979_0, hx979_1, hx979_2, hx979_3⟩ := at_T123 HR0.out x5_1 p979 q979
      cases e979
      replace p979 := eq_true p979
      replace q979 := eq_true q979
      go_wp2
      go_ret
      exact ⟨by first | rfl | (simp; done) | (simp [*]; done), by repeat (first | exact Drawn0.refl _ | apply Drawn0.step)⟩
     ·rw [if_neg c5] at H
      have c5b0 : (((rd_T123 l0 x5_1).f0).toList == a1.toList) = false := beq_eq_false_iff_ne.mpr c5
      have c5b1 : (((rd_T123 l0 x5_1).f0).toList != a1.toList) = true := bne_iff_ne.mpr c5
      have H' := Aside0.mk H
      clear H
      have p979 : 0 ≤ (x5_1 : Int) := of_decide_eq_true za
      have q979 : x5_1 < (l0.length : Int) := of_decide_eq_true za
      obtain ⟨ad979, e979, hx979_0, hx979_1, hx979_2, hx979_3⟩ := at_T123 HR0.out x5_1 p979 q979
      cases e979
      replace p979 := eq_true p979
      replace q979 := eq_true q979
      go_wp2
      go_roundg k1
      case measure => have := HK1.out; omega
      case rel => exact ⟨(wrap64 (x5_1 + 1)), zr, H', ⟨by have := HK1.out; omega⟩, by repeat (first | exact Drawn0.refl _ | apply Drawn0.step)⟩
    ·rw [if_neg c4] at H
     exact absurd H (by simp)
   ·rw [if_neg c3] at H
    have c3b0 : decide (x5_1 < (l0.length : Int)) = false := decide_eq_false c3
    clear c3
    obtain rfl := Option.some.inj H
    go_wp2
    go_ret
    exact ⟨by first | rfl | (simp; done) | (simp [*]; done), by repeat (first | exact Drawn0.refl _ | apply Drawn0.step)⟩

end Go.Proofs.Ytfcpbgedgedalaa.Q
