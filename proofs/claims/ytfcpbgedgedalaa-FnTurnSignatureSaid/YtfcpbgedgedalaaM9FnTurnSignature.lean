-- written by px.py and merge.py (programs of this claim's), over the kit's print. Not trusted: Lean checks it.
import Derived.Test.YtfcpbgedgedalaaQ0
import Derived.Test.YtfcpbgedgedalaaM0FnTurnSignature
import Derived.Test.YtfcpbgedgedalaaM5FnTurnSignature
import Derived.Test.YtfcpbgedgedalaaM6FnTurnSignature
import Derived.Test.YtfcpbgedgedalaaM7FnTurnSignature
import Derived.Test.YtfcpbgedgedalaaM8FnTurnSignature
namespace Go.Proofs.Ytfcpbgedgedalaa.Q
open Go.RowKit Go.Proofs.YtfcpbgedgedalaaL.PrintWords Go.Proofs.YtfcpbgedgedalaaL.PrintLast Go.Proofs.YtfcpbgedgedalaaL.PrintMore
attribute [local go_sem] max2_int min2_int max_two min_two max_three min_three max_four min_four   -- for this text's walks alone
set_option linter.unusedVariables false
set_option linter.unusedSimpArgs false

/-! ### laws_FnTurnSignature: function 11 -/
def laws_FnTurnSignature.j0 : Nat → List (S107) → Bool → List (S123) → List (S123) → Option (Bool)
 | 0, _, _, _, _ => none
 | k + 1, x3, x32, x1132000, x1136000 => if x32 = true then ((spec_TurnSignature.f k x3 x1132000).bind fun t1142 => ((laws_equalSignature.f k x1136000 t1142).bind fun t1145 => (some t1145))) else ((impl_TurnBack.f k x3).bind fun t1146 => ((impl_TurnSignature.f k t1146 x1136000).bind fun t1149 => ((laws_equalSignature.f k t1149 x1132000).bind fun t1152 => (if t1152 = true then ((impl_ValidSignature.f k x1136000).bind fun t1153 => (some t1153)) else (some false)))))
def laws_FnTurnSignature.f (k : Nat) (l0 : List Int) : Option (Bool) := if (l0.length : Int) > 1048576 then (some true) else ((spec_DrawTurnSignature.f k l0).bind fun bt1125 => ((impl_TurnSignature.f k bt1125.1 bt1125.2).bind fun t1132 => ((spec_TurnSignature.f k bt1125.1 bt1125.2).bind fun t1136 => ((laws_equalSignature.f k t1132 t1136).bind fun t1139 => (if t1139 = true then ((impl_ValidTurns.f bt1125.1).bind fun t1140 => (if t1140 = true then ((impl_ValidSignature.f k bt1125.2).bind fun t1141 => (laws_FnTurnSignature.j0 k bt1125.1 (!t1141) bt1125.2 t1132)) else (laws_FnTurnSignature.j0 k bt1125.1 true bt1125.2 t1132))) else (laws_FnTurnSignature.j0 k bt1125.1 true bt1125.2 t1132))))))
theorem laws_FnTurnSignature.mono_l : ∀ k, (∀ y0 y1 y2 y3, LeO (laws_FnTurnSignature.j0 k y0 y1 y2 y3) (laws_FnTurnSignature.j0 (k + 1) y0 y1 y2 y3))
 | 0 => fun _ _ _ _ r h => by simp [laws_FnTurnSignature.j0] at h
 | k + 1 => by
  have ih0 := laws_FnTurnSignature.mono_l k
  ·intro y0 y1 y2 y3
   unfold laws_FnTurnSignature.j0
   repeat' first
   | (with_reducible exact ih0 _ _ _ _)
   | (with_reducible exact impl_TurnBack.mono _ _)
   | (with_reducible exact impl_TurnSignature.mono _ _ _)
   | (with_reducible exact impl_ValidSignature.mono _ _)
   | (with_reducible exact laws_equalSignature.mono _ _ _)
   | (with_reducible exact spec_DrawTurnSignature.mono _ _)
   | (with_reducible exact spec_TurnSignature.mono _ _ _)
   | (with_reducible exact LeO.refl _)
   | (with_reducible exact LeO.none _)
   | (with_reducible refine LeO.ite ?_ ?_)
   | (with_reducible refine LeO.bind ?_ (fun _ => ?_))
   | exact ih0 _ _ _ _
   | exact impl_TurnBack.mono _ _
   | exact impl_TurnSignature.mono _ _ _
   | exact impl_ValidSignature.mono _ _
   | exact laws_equalSignature.mono _ _ _
   | exact spec_DrawTurnSignature.mono _ _
   | exact spec_TurnSignature.mono _ _ _
   | exact LeO.none _
   | refine LeO.ite ?_ ?_
   | refine LeO.bind ?_ (fun _ => ?_)
theorem laws_FnTurnSignature.mono : ∀ a0 k, LeO (laws_FnTurnSignature.f k a0) (laws_FnTurnSignature.f (k + 1) a0) := by
 intro a0 k
 have ih0 := laws_FnTurnSignature.mono_l k
 unfold laws_FnTurnSignature.f
 repeat' first
   | (with_reducible exact ih0 _ _ _ _)
   | (with_reducible exact impl_TurnBack.mono _ _)
   | (with_reducible exact impl_TurnSignature.mono _ _ _)
   | (with_reducible exact impl_ValidSignature.mono _ _)
   | (with_reducible exact laws_equalSignature.mono _ _ _)
   | (with_reducible exact spec_DrawTurnSignature.mono _ _)
   | (with_reducible exact spec_TurnSignature.mono _ _ _)
   | (with_reducible exact LeO.refl _)
   | (with_reducible exact LeO.none _)
   | (with_reducible refine LeO.ite ?_ ?_)
   | (with_reducible refine LeO.bind ?_ (fun _ => ?_))
   | exact ih0 _ _ _ _
   | exact impl_TurnBack.mono _ _
   | exact impl_TurnSignature.mono _ _ _
   | exact impl_ValidSignature.mono _ _
   | exact laws_equalSignature.mono _ _ _
   | exact spec_DrawTurnSignature.mono _ _
   | exact spec_TurnSignature.mono _ _ _
   | exact LeO.none _
   | refine LeO.ite ?_ ?_
   | refine LeO.bind ?_ (fun _ => ?_)
def laws_FnTurnSignature.T5 : Bool × List (List Nat × List Nat) := (true, [([], []), ([], []), ([], []), ([1, 2], [1, 2]), ([0, 3, 3], [0, 3]), ([4], [4]), ([5, 4], [5]), ([6], [6]), ([7, 6, 6], [6, 7]), ([8, 6], [6, 8]), ([6, 9], [6, 9]), ([10, 8], [10]), ([11], [11]), ([12, 11, 11], [11, 12]), ([13, 11], [11, 13]), ([11, 14], [11, 14])])
def laws_FnTurnSignature.B5 : List Nat := [0, 0, 0, 6, 15, 31, 63, 127, 255, 511, 1023, 2047, 4095, 8191, 16383, 32767]
theorem laws_FnTurnSignature.tab5 : rtab .any (opsOf Try.f11 5) = laws_FnTurnSignature.T5 := by kernel_rfl
theorem laws_FnTurnSignature.bits5 : waitsOk laws_FnTurnSignature.T5.2 laws_FnTurnSignature.B5 = true := by kernel_rfl
def laws_FnTurnSignature.T7 : Bool × List (List Nat × List Nat) := (true, [([], []), ([0], [0]), ([], []), ([1, 2, 1], [1, 2]), ([], []), ([3, 4, 3], [3, 4]), ([5, 5], [5]), ([6], [6]), ([7, 6, 6], [6, 7]), ([6, 8], [6, 8]), ([9, 8, 0, 1, 2, 3, 4, 5, 6, 7, 8, 9], [9])])
def laws_FnTurnSignature.B7 : List Nat := [0, 1, 0, 7, 0, 31, 63, 127, 255, 511, 1023]
theorem laws_FnTurnSignature.tab7 : rtab .any (opsOf Try.f11 7) = laws_FnTurnSignature.T7 := by kernel_rfl
theorem laws_FnTurnSignature.bits7 : waitsOk laws_FnTurnSignature.T7.2 laws_FnTurnSignature.B7 = true := by kernel_rfl
set_option maxHeartbeats 8000000 in
set_option maxRecDepth 100000 in
theorem laws_FnTurnSignature.calls (k : Nat) (A0 : Option Addr) (c0 : Nat) (l0 : List Int) (r : Bool) (w : World) (hr0 : Kd.C (Kd.int .u8) w A0 l0.length l0) (hc0 : l0.length ≤ c0) (h : laws_FnTurnSignature.f k l0 = some r) (hr_ : r = true) :
  Calls Try.prog 11 #[.slice A0 l0.length c0] w fun e w' => e = .returned (.bool r) ∧ Below w.heap.size w w' := by
 have hu71 := Try.underlying71
 have HR_ := Aside0.mk hr_
 clear hr_
 have HR0 := Aside0.mk hr0
 have HC0 := Aside0.mk hc0
 clear hr0 hc0
 have HB := Aside0.mk (Below.refl w.heap.size w)
 have H : (if (l0.length : Int) > 1048576 then (some true) else ((spec_DrawTurnSignature.f k l0).bind fun bt1125 => ((impl_TurnSignature.f k bt1125.1 bt1125.2).bind fun t1132 => ((spec_TurnSignature.f k bt1125.1 bt1125.2).bind fun t1136 => ((laws_equalSignature.f k t1132 t1136).bind fun t1139 => (if t1139 = true then ((impl_ValidTurns.f bt1125.1).bind fun t1140 => (if t1140 = true then ((impl_ValidSignature.f k bt1125.2).bind fun t1141 => (laws_FnTurnSignature.j0 k bt1125.1 (!t1141) bt1125.2 t1132)) else (laws_FnTurnSignature.j0 k bt1125.1 true bt1125.2 t1132))) else (laws_FnTurnSignature.j0 k bt1125.1 true bt1125.2 t1132))))))) = some r := h
 clear h
 by_cases c2 : (l0.length : Int) > 1048576
 ·rw [if_pos c2] at H
  have c2b0 : decide (1048576 < (l0.length : Int)) = true := decide_eq_true c2
  have c2b1 : decide (1048576 < l0.length) = true := decide_eq_true (by omega)
  clear c2
  obtain rfl := Option.some.inj H
  go_enter Try.func11, Try.ntmps11
  go_wp2
  go_ret
  exact ⟨by first | rfl | (simp [errW_none, errW_some] <;> rfl) | (simp [*, errW_none, errW_some] <;> rfl), zB HB⟩
 ·rw [if_neg c2] at H
  have c2b0 : decide (1048576 < (l0.length : Int)) = false := decide_eq_false c2
  have c2b1 : decide (1048576 < l0.length) = false := decide_eq_false (by omega)
  clear c2
  replace H := Option.bind_eq_some_iff.mp H
  obtain ⟨⟨t1125, t1128⟩, A30, H⟩ := H
  (try dsimp only at H)
  have A3 := Aside0.mk A30
  clear A30
  replace H := Option.bind_eq_some_iff.mp H
  obtain ⟨t1132, A40, H⟩ := H
  (try dsimp only at H)
  have A4 := Aside0.mk A40
  clear A40
  have HC5 := Aside0.mk H
  clear H
  go_enter Try.func11, Try.ntmps11
  go_upto_region 5 with (first | ((with_reducible refine gate_callee (f := 47) rfl ?_); refine goesL_ (some 11) rfl rfl Try.func47 (by kernel_rfl) rfl #[.slice A0 l0.length c0] rfl zl ?_; (with_reducible refine (spec_DrawTurnSignature.calls k _ _ l0 t1125 t1128 _ ?side1 ?side2 A3.out).mono ?_); (case side1 => repeat (first | exact HR0.out | (with_reducible refine Kd.C_alloc ?_ _) | (with_reducible refine Kd.C_drewN ?_ _) | (with_reducible refine Kd.C_drew ?_))); (case side2 => exact HC0.out); rintro e w6 ⟨v1126, v1129, rfl, ho0, ho1, hb⟩; refine ⟨_, rfl, ?_⟩; have HO1127 := Aside0.mk (Kd.R_lower ho0 (below_size (zB HB))); have HO1130 := Aside0.mk (Kd.R_lower ho1 (below_size (zB HB))); replace HB := Aside0.mk (below_step (zB HB) hb); (try clear hb); (try clear hb2); (try clear hk); (try clear hi); (try clear ho0); (try clear ho1)) | ((with_reducible refine gate_dst (N := 4) rfl ?_); refine box_event ?hg (N := 4) ?hd (cs := #[.slice none 0 0]) (t := 71) ?hr ?_; (case hd => rfl); (case hg => rfl); (case hr => first | (go_simp; done) | (go_simp; rfl)); intro gb1131 hg w7 hbox hb; replace HO1127 := Aside0.mk (Kd.R_below (zo HO1127) hb); replace HO1130 := Aside0.mk (Kd.R_below (zo HO1130) hb); have BK1131 := Aside0.mk (hbox); have GW1131 := Aside0.mk ((by rw [hg]; exact (below_size (zB HB)) : w.heap.size ≤ gb1131)); have GE1131 := Aside0.mk ((by rw [hg]; exact (below_size (zB HB)) : w.heap.size ≤ gb1131)); replace HB := Aside0.mk (below_step (zB HB) hb); clear hb hbox hg; obtain ⟨Ao8, co8, eo8⟩ := Kd.R_slice HO1130.out; subst eo8; have hcz9_0 : w7.cell? ⟨gb1131, 0, none⟩ = some (.slice none 0 0) := (blk_cell BK1131.out 0).trans rfl; have hfz9_0 := blk_frozen BK1131.out 0; obtain ⟨Ao10, co10, eo10⟩ := Kd.R_slice HO1127.out; subst eo10) | ((with_reducible refine gate_callee (f := 48) rfl ?_); refine goesL_ (some 16) rfl rfl Try.func48 (by kernel_rfl) rfl #[.slice Ao10 t1125.length co10, .agg #[.slice Ao8 t1128.length co8]] rfl zl ?_; (with_reducible refine (impl_TurnSignature.calls k _ _ t1125 _ _ t1128 t1132 _ ?side1 ?side2 ?side3 ?side4 A4.out).mono ?_); (case side1 => refine (Kd.R_reads' (e := 107) (base := w.heap.size) (ok := fun k_ => True) (n := t1125.length) (c := co10) ?_).2.2; exact (by (with_reducible repeat (first | apply Kd.R_alloc | apply Kd.R_drewN | apply Kd.R_drew)); exact (Kd.R_mono (Kd.R_far (p := ⟨gb1131, 0, none⟩) (Kd.R_types HO1127.out BK1131.out (by decide)) (fun _ hk => hk.2) (.slice Ao8 t1128.length co8)) (fun _ h_ => h_.1)))); (case side2 => exact (Kd.R_reads' HO1127.out).2.1); (case side3 => refine (Kd.R_reads' (e := 123) (base := w.heap.size) (ok := fun k_ => True) (n := t1128.length) (c := co8) ?_).2.2; exact (by (with_reducible repeat (first | apply Kd.R_alloc | apply Kd.R_drewN | apply Kd.R_drew)); exact (Kd.R_mono (Kd.R_far (p := ⟨gb1131, 0, none⟩) (Kd.R_types HO1130.out BK1131.out (by decide)) (fun _ hk => hk.2) (.slice Ao8 t1128.length co8)) (fun _ h_ => h_.1)))); (case side4 => exact (Kd.R_reads' HO1130.out).2.1); rintro e w11 ⟨v1133, rfl, ho0, hb⟩; refine ⟨_, rfl, ?_⟩; replace HO1127 := Aside0.mk (Kd.R_below (by (with_reducible repeat (first | apply Kd.R_alloc | apply Kd.R_drewN | apply Kd.R_drew)); exact (Kd.R_mono (Kd.R_far (p := ⟨gb1131, 0, none⟩) (Kd.R_types HO1127.out BK1131.out (by decide)) (fun _ hk => hk.2) (.slice Ao8 t1128.length co8)) (fun _ h_ => h_.1))) hb); have HO1134 := Aside0.mk (Kd.R_lower (Kd.R_new' ho0 (Kd.R_lt (by (with_reducible repeat (first | apply Kd.R_alloc | apply Kd.R_drewN | apply Kd.R_drew)); exact (Kd.R_mono (Kd.R_far (p := ⟨gb1131, 0, none⟩) (Kd.R_types HO1130.out BK1131.out (by decide)) (fun _ hk => hk.2) (.slice Ao8 t1128.length co8)) (fun _ h_ => h_.1))))) (below_size (zB HB))); replace HO1130 := Aside0.mk (Kd.R_elder' (by (with_reducible repeat (first | apply Kd.R_alloc | apply Kd.R_drewN | apply Kd.R_drew)); exact (Kd.R_mono (Kd.R_far (p := ⟨gb1131, 0, none⟩) (Kd.R_types HO1130.out BK1131.out (by decide)) (fun _ hk => hk.2) (.slice Ao8 t1128.length co8)) (fun _ h_ => h_.1))) (Kd.R_base ho0) hb); replace BK1131 := Aside0.mk (blk_below (g := gb1131) (o := .cells #[.slice Ao8 t1128.length co8] 71 (0, 0)) (by (with_reducible repeat (first | refine blk_drewN ?_ _ | refine blk_drew ?_ | refine blk_alloc ?_ _)); refine blk_put (cs := #[.slice none 0 0]) ?_ 0 _ rfl; (with_reducible repeat (first | refine blk_drewN ?_ _ | refine blk_drew ?_ | refine blk_alloc ?_ _)); exact BK1131.out) hb); replace HB := Aside0.mk (below_step (zB HB) hb); (try clear hb); (try clear hb2); (try clear hk); (try clear hi); (try clear ho0)) | ((with_reducible refine gate_dst (N := 5) rfl ?_); refine box_event ?hg (N := 5) ?hd (cs := #[.slice none 0 0]) (t := 71) ?hr ?_; (case hd => rfl); (case hg => rfl); (case hr => first | (go_simp; done) | (go_simp; rfl)); intro gb1135 hg w12 hbox hb; replace HO1127 := Aside0.mk (Kd.R_below (zo HO1127) hb); replace HO1130 := Aside0.mk (Kd.R_below (zo HO1130) hb); replace HO1134 := Aside0.mk (Kd.R_below (zo HO1134) hb); have BK1135 := Aside0.mk (hbox); have GW1135 := Aside0.mk ((by rw [hg]; exact (below_size (zB HB)) : w.heap.size ≤ gb1135)); have GE1135 := Aside0.mk ((by rw [hg]; exact (below_size (zB HB)) : w.heap.size ≤ gb1135)); replace HB := Aside0.mk (below_step (zB HB) hb); have NB1131_1135 := Aside0.mk ((by rw [hg]; exact Nat.ne_of_lt (blk_lt (g := gb1131) (o := .cells #[.slice Ao8 t1128.length co8] 71 (0, 0)) (zb BK1131)) : gb1131 ≠ gb1135)); have NB1135_1131 := Aside0.mk ((by rw [hg]; exact Nat.ne_of_gt (blk_lt (g := gb1131) (o := .cells #[.slice Ao8 t1128.length co8] 71 (0, 0)) (zb BK1131)) : gb1135 ≠ gb1131)); replace BK1131 := Aside0.mk (blk_below (g := gb1131) (o := .cells #[.slice Ao8 t1128.length co8] 71 (0, 0)) (zb BK1131) hb); clear hb hbox hg; obtain ⟨Ao13, co13, eo13⟩ := Kd.R_slice HO1134.out; subst eo13; have hnb14 := NB1135_1131.out; have hnc14 := NB1131_1135.out; have hcz15_0 : w12.cell? ⟨gb1135, 0, none⟩ = some (.slice none 0 0) := (blk_cell BK1135.out 0).trans rfl; have hfz15_0 := blk_frozen BK1135.out 0))
  (try simp only [Act.put, List.setIfInBounds_toArray, List.set_cons_zero, List.set_cons_succ])
  go_cut [32] (fun v32 wc => ∃ (kq : Nat) (x32_4 : Bool), v32 = .bool x32_4 ∧ Aside0 (laws_FnTurnSignature.j0 kq t1125 x32_4 t1128 t1132 = some r) ∧ Aside0 (kq ≤ k) ∧ Aside0 (Kd.R k107 107 wc w.heap.size (fun _ => True) (.slice Ao10 t1125.length co10) t1125) ∧ Aside0 (Kd.R k123 123 wc w.heap.size (fun k_ => some k_ ≠ ((.slice Ao13 t1132.length co13) : Value).ownBlock) (.slice Ao8 t1128.length co8) t1128) ∧ Aside0 (Kd.R k123 123 wc w.heap.size (fun k_ => some k_ ≠ ((.slice Ao8 t1128.length co8) : Value).ownBlock) (.slice Ao13 t1132.length co13) t1132) ∧ Aside0 (wc.heap[gb1131]? = some (.cells #[(.slice Ao8 t1128.length co8)] 71 (0, 0))) ∧ Aside0 (wc.heap[gb1135]? = some (.cells #[(.slice Ao13 t1132.length co13)] 71 (0, 0))) ∧ Aside0 (Below w.heap.size w wc))
  case first =>
   have H := HC5.out
   clear HC5
   replace H := Option.bind_eq_some_iff.mp H
   obtain ⟨t1136, A160, H⟩ := H
   (try dsimp only at H)
   have A16 := Aside0.mk A160
   clear A160
   replace H := Option.bind_eq_some_iff.mp H
   obtain ⟨t1139, A170, H⟩ := H
   (try dsimp only at H)
   have A17 := Aside0.mk A170
   clear A170
   by_cases c18 : t1139 = true
   ·subst c18
    rw [if_pos rfl] at H
    replace H := Option.bind_eq_some_iff.mp H
    obtain ⟨t1140, A190, H⟩ := H
    (try dsimp only at H)
    have A19 := Aside0.mk A190
    clear A190
    by_cases c20 : t1140 = true
    ·subst c20
     rw [if_pos rfl] at H
     replace H := Option.bind_eq_some_iff.mp H
     obtain ⟨t1141, A210, H⟩ := H
     (try dsimp only at H)
     have A21 := Aside0.mk A210
     clear A210
     have H' := Aside0.mk H
     clear H
     try go_wp2
     have n0_ : Aside0 (Kd.R k107 107 (w12.setCell ⟨gb1135, 0, none⟩ (.slice Ao13 t1132.length co13)) w.heap.size (fun _ => True) (.slice Ao10 t1125.length co10) t1125) := ⟨by (with_reducible repeat (first | apply Kd.R_alloc | apply Kd.R_drewN | apply Kd.R_drew)); exact Kd.R_mono (Kd.R_far (p := ⟨gb1135, 0, none⟩) (Kd.R_types HO1127.out BK1135.out (by decide)) (fun _ hk => hk.2) (.slice Ao13 t1132.length co13)) (fun _ hk => trivial)⟩
     have n1_ : Aside0 (Kd.R k123 123 (w12.setCell ⟨gb1135, 0, none⟩ (.slice Ao13 t1132.length co13)) w.heap.size (fun k_ => some k_ ≠ (.slice Ao13 t1132.length co13 : Value).ownBlock) (.slice Ao8 t1128.length co8) t1128) := ⟨by (with_reducible repeat (first | apply Kd.R_alloc | apply Kd.R_drewN | apply Kd.R_drew)); exact Kd.R_mono (Kd.R_far (p := ⟨gb1135, 0, none⟩) (Kd.R_types HO1130.out BK1135.out (by decide)) (fun _ hk => hk.2) (.slice Ao13 t1132.length co13)) (fun _ hk => hk.1.2)⟩
     have n2_ : Aside0 (Kd.R k123 123 (w12.setCell ⟨gb1135, 0, none⟩ (.slice Ao13 t1132.length co13)) w.heap.size (fun k_ => some k_ ≠ (.slice Ao8 t1128.length co8 : Value).ownBlock) (.slice Ao13 t1132.length co13) t1132) := ⟨by (with_reducible repeat (first | apply Kd.R_alloc | apply Kd.R_drewN | apply Kd.R_drew)); exact Kd.R_mono (Kd.R_far (p := ⟨gb1135, 0, none⟩) (Kd.R_types HO1134.out BK1135.out (by decide)) (fun _ hk => hk.2) (.slice Ao13 t1132.length co13)) (fun _ hk => hk.1.2)⟩
     have n3_ : Aside0 ((w12.setCell ⟨gb1135, 0, none⟩ (.slice Ao13 t1132.length co13)).heap[gb1131]? = some (.cells #[.slice Ao8 t1128.length co8] 71 (0, 0))) := ⟨zf BK1131⟩
     have n4_ : Aside0 ((w12.setCell ⟨gb1135, 0, none⟩ (.slice Ao13 t1132.length co13)).heap[gb1135]? = some (.cells #[.slice Ao13 t1132.length co13] 71 (0, 0))) := ⟨by (with_reducible repeat (first | refine blk_drewN ?_ _ | refine blk_drew ?_ | refine blk_alloc ?_ _)); refine blk_put (cs := #[.slice none 0 0]) ?_ 0 _ rfl; (with_reducible repeat (first | refine blk_drewN ?_ _ | refine blk_drew ?_ | refine blk_alloc ?_ _)); exact BK1135.out⟩
     have n5_ : Aside0 (Below w.heap.size w (w12.setCell ⟨gb1135, 0, none⟩ (.slice Ao13 t1132.length co13))) := ⟨zB HB⟩
     (try clear HO1127)
     (try clear HO1130)
     (try clear HO1134)
     (try clear BK1131)
     (try clear BK1135)
     (try clear HB)
     generalize (w12.setCell ⟨gb1135, 0, none⟩ (.slice Ao13 t1132.length co13)) = w22 at n0_ n1_ n2_ n3_ n4_ n5_ ⊢
     have HO1127 := n0_
     have HO1130 := n1_
     have HO1134 := n2_
     have BK1131 := n3_
     have BK1135 := n4_
     have HB := n5_
     clear n0_ n1_ n2_ n3_ n4_ n5_
     replace HO1127 := Aside0.mk (Kd.R_drew HO1127.out)
     replace HO1130 := Aside0.mk (Kd.R_drew HO1130.out)
     replace HO1134 := Aside0.mk (Kd.R_drew HO1134.out)
     replace BK1131 := Aside0.mk (blk_drew BK1131.out)
     replace BK1135 := Aside0.mk (blk_drew BK1135.out)
     replace HB := Aside0.mk (below_drew1 HB.out)
     refine start_ (n := 16) (S := fun w' => w'.cell? ⟨gb1135, 0, none⟩ = some (.slice Ao13 t1132.length co13) ∧ w'.cell? ⟨gb1131, 0, none⟩ = some (.slice Ao8 t1128.length co8)) (ds := []) #[false, false, false, false, false, false, false, false, false, false, false, false, false, false, false, false] (by kernel_rfl) rfl rfl ⟨(blk_cell BK1135.out 0).trans rfl, (blk_cell BK1131.out 0).trans rfl⟩ (fun hHeld => ?_); refine with_tabW laws_FnTurnSignature.tab5 laws_FnTurnSignature.bits5 (fun HT_ HW_ => ?_)
     generalize w22.drew = w23 at HO1127 HO1130 HO1134 BK1131 BK1135 HB hHeld ⊢
     refine pure_ (i := 1) (N := some 18) (v := ?_) (a' := ?_) #[false, true, false, false, false, false, false, false, false, false, false, false, false, false, false, false] rfl rfl (any_of HT_.out (by kernel_rfl)) (fun _ _ _ h => h) (Or.inl ⟨by rfl, ?_⟩) ?_ ?_
     rotate_left
     ·intro w'
      go_simp
      with_reducible rfl
     rotate_left
     ·simp only [Act.put, List.setIfInBounds_toArray, List.set_cons_zero, List.set_cons_succ, i64_w, i32_w]
      rfl
     refine take_ (i := 0) (N := some 17) (v := ?_) (a' := ?_) #[true, true, false, false, false, false, false, false, false, false, false, false, false, false, false, false] rfl rfl (take_ofW HT_.out HW_.out (by kernel_rfl)) (fun _ _ _ h => h) (Or.inl ⟨by rfl, ?_⟩) hHeld ?_ ?_
     rotate_left
     ·rintro w' ⟨s0, s1⟩
      go_simp
      with_reducible rfl
     rotate_left
     ·simp only [Act.put, List.setIfInBounds_toArray, List.set_cons_zero, List.set_cons_succ, i64_w, i32_w]
      rfl
     refine take_ (i := 2) (N := some 19) (v := ?_) (a' := ?_) #[true, true, true, false, false, false, false, false, false, false, false, false, false, false, false, false] rfl rfl (take_ofW HT_.out HW_.out (by kernel_rfl)) (fun _ _ _ h => h) (Or.inl ⟨by rfl, ?_⟩) hHeld ?_ ?_
     rotate_left
     ·rintro w' ⟨s0, s1⟩
      go_simp
      with_reducible rfl
     rotate_left
     ·simp only [Act.put, List.setIfInBounds_toArray, List.set_cons_zero, List.set_cons_succ, i64_w, i32_w]
      rfl
     refine one_ (i := 3) (N := some 20) #[true, true, true, true, false, false, false, false, false, false, false, false, false, false, false, false] rfl rfl (one_of HT_.out (by kernel_rfl)) (by decide) (fun K hK => ?_)
     refine goes_ Try.func50 (by kernel_rfl) rfl #[.slice Ao10 t1125.length co10, .agg #[.slice Ao8 t1128.length co8]] (by rfl) rfl rfl zl ?_
     with_reducible refine (spec_TurnSignature.calls k _ _ t1125 _ _ t1128 t1136 _ ?side1 ?side2 ?side3 ?side4 A16.out).mono ?_
     (case side1 => repeat (first | exact (Kd.R_reads' HO1127.out).2.2 | (with_reducible refine Kd.C_alloc ?_ _) | (with_reducible refine Kd.C_drewN ?_ _) | (with_reducible refine Kd.C_drew ?_)))
     (case side2 => exact (Kd.R_reads' HO1127.out).2.1)
     (case side3 => repeat (first | exact (Kd.R_reads' HO1130.out).2.2 | (with_reducible refine Kd.C_alloc ?_ _) | (with_reducible refine Kd.C_drewN ?_ _) | (with_reducible refine Kd.C_drew ?_)))
     (case side4 => exact (Kd.R_reads' HO1130.out).2.1)
     rintro e w24 ⟨v1137, rfl, ho0, hb⟩
     refine ⟨_, rfl, ?_⟩
     replace HO1127 := Aside0.mk (Kd.R_below (zo HO1127) hb)
     have HO1138 := Aside0.mk (Kd.R_lower (Kd.R_new' (Kd.R_new' ho0 (Kd.R_lt (zo HO1130))) (Kd.R_lt (zo HO1134))) (below_size (zB HB)))
     replace HO1130 := Aside0.mk (Kd.R_elder' (zo HO1130) (Kd.R_base ho0) hb)
     replace HO1134 := Aside0.mk (Kd.R_elder' (zo HO1134) (Kd.R_base ho0) hb)
     replace BK1131 := Aside0.mk (blk_below (g := gb1131) (o := .cells #[.slice Ao8 t1128.length co8] 71 (0, 0)) (zb BK1131) hb)
     replace BK1135 := Aside0.mk (blk_below (g := gb1135) (o := .cells #[.slice Ao13 t1132.length co13] 71 (0, 0)) (zb BK1135) hb)
     replace HB := Aside0.mk (below_step (zB HB) hb)
     (try clear hb)
     (try clear hb2)
     (try clear hk)
     (try clear hi)
     (try clear ho0)
     obtain ⟨Ao25, co25, eo25⟩ := Kd.R_slice HO1138.out
     (first | subst eo25 | (injection eo25 with f1_ f2_ f3_; have f4_ := f1_.symm; have f5_ := f3_.symm; clear f1_ f2_ f3_; subst f4_; subst f5_))
     refine hK.out _ _ ⟨(blk_cell BK1135.out 0).trans rfl, (blk_cell BK1131.out 0).trans rfl⟩ (fun hHeld => ?_)
     clear hK K
     refine norm_ (a' := ?_) ?_ ?_
     rotate_left
     ·show Act.put _ (some 20) _ = _
      simp only [Act.put, List.setIfInBounds_toArray, List.set_cons_zero, List.set_cons_succ, i64_w, i32_w]
      rfl
     refine one_ (i := 4) (N := some 21) #[true, true, true, true, true, false, false, false, false, false, false, false, false, false, false, false] rfl rfl (one_of HT_.out (by kernel_rfl)) (by decide) (fun K hK => ?_)
     refine goes_ Try.func49 (by kernel_rfl) rfl #[.agg #[.slice Ao13 t1132.length co13], .agg #[.slice Ao25 t1136.length co25]] (by rfl) rfl rfl zl ?_
     with_reducible refine (laws_equalSignature.calls k _ _ t1132 _ _ t1136 true _ ?side1 ?side2 ?side3 ?side4 A17.out).mono ?_
     (case side1 => repeat (first | exact (Kd.R_reads' HO1134.out).2.2 | (with_reducible refine Kd.C_alloc ?_ _) | (with_reducible refine Kd.C_drewN ?_ _) | (with_reducible refine Kd.C_drew ?_)))
     (case side2 => exact (Kd.R_reads' HO1134.out).2.1)
     (case side3 => repeat (first | exact (Kd.R_reads' HO1138.out).2.2 | (with_reducible refine Kd.C_alloc ?_ _) | (with_reducible refine Kd.C_drewN ?_ _) | (with_reducible refine Kd.C_drew ?_)))
     (case side4 => exact (Kd.R_reads' HO1138.out).2.1)
     rintro e w26 ⟨rfl, hb⟩
     refine ⟨_, rfl, ?_⟩
     replace HO1127 := Aside0.mk (Kd.R_below (zo HO1127) hb)
     replace HO1130 := Aside0.mk (Kd.R_below (zo HO1130) hb)
     replace HO1134 := Aside0.mk (Kd.R_below (zo HO1134) hb)
     replace HO1138 := Aside0.mk (Kd.R_below (zo HO1138) hb)
     replace BK1131 := Aside0.mk (blk_below (g := gb1131) (o := .cells #[.slice Ao8 t1128.length co8] 71 (0, 0)) (zb BK1131) hb)
     replace BK1135 := Aside0.mk (blk_below (g := gb1135) (o := .cells #[.slice Ao13 t1132.length co13] 71 (0, 0)) (zb BK1135) hb)
     replace HB := Aside0.mk (below_step (zB HB) hb)
     (try clear hb)
     (try clear hb2)
     (try clear hk)
     (try clear hi)
     refine hK.out _ _ ⟨(blk_cell BK1135.out 0).trans rfl, (blk_cell BK1131.out 0).trans rfl⟩ (fun hHeld => ?_)
     clear hK K
     refine norm_ (a' := ?_) ?_ ?_
     rotate_left
     ·show Act.put _ (some 21) _ = _
      simp only [Act.put, List.setIfInBounds_toArray, List.set_cons_zero, List.set_cons_succ, i64_w, i32_w]
      rfl
     refine pure_ (i := 5) (N := some 22) (v := ?_) (a' := ?_) #[true, true, true, true, true, true, false, false, false, false, false, false, false, false, false, false] rfl rfl (any_of HT_.out (by kernel_rfl)) (fun _ _ _ h => h) (Or.inl ⟨by rfl, ?_⟩) ?_ ?_
     rotate_left
     ·intro w'
      go_simp
      with_reducible rfl
     rotate_left
     ·simp only [Act.put, List.setIfInBounds_toArray, List.set_cons_zero, List.set_cons_succ, i64_w, i32_w]
      rfl
     refine pure_ (i := 6) (N := some 23) (v := ?_) (a' := ?_) #[true, true, true, true, true, true, true, false, false, false, false, false, false, false, false, false] rfl rfl (any_of HT_.out (by kernel_rfl)) (fun _ _ _ h => h) (Or.inl ⟨by rfl, ?_⟩) ?_ ?_
     rotate_left
     ·intro w'
      go_simp
      with_reducible rfl
     rotate_left
     ·simp only [Act.put, List.setIfInBounds_toArray, List.set_cons_zero, List.set_cons_succ, i64_w, i32_w]
      rfl
     refine pure_ (i := 7) (N := some 24) (v := ?_) (a' := ?_) #[true, true, true, true, true, true, true, true, false, false, false, false, false, false, false, false] rfl rfl (any_of HT_.out (by kernel_rfl)) (fun _ _ _ h => h) (Or.inl ⟨by rfl, ?_⟩) ?_ ?_
     rotate_left
     ·intro w'
      go_simp
      with_reducible rfl
     rotate_left
     ·simp only [Act.put, List.setIfInBounds_toArray, List.set_cons_zero, List.set_cons_succ, i64_w, i32_w]
      rfl
     refine one_ (i := 8) (N := some 25) #[true, true, true, true, true, true, true, true, true, false, false, false, false, false, false, false] rfl rfl (one_of HT_.out (by kernel_rfl)) (by decide) (fun K hK => ?_)
     refine goes_ Try.func46 (by kernel_rfl) rfl #[.slice Ao10 t1125.length co10] (by rfl) rfl rfl zl ?_
     with_reducible refine (impl_ValidTurns.calls _ _ t1125 true _ ?side1 ?side2 A19.out).mono ?_
     (case side1 => repeat (first | exact (Kd.R_reads' HO1127.out).2.2 | (with_reducible refine Kd.C_alloc ?_ _) | (with_reducible refine Kd.C_drewN ?_ _) | (with_reducible refine Kd.C_drew ?_)))
     (case side2 => exact (Kd.R_reads' HO1127.out).2.1)
     rintro e w27 ⟨rfl, hb⟩
     refine ⟨_, rfl, ?_⟩
     replace HO1127 := Aside0.mk (Kd.R_below (zo HO1127) hb)
     replace HO1130 := Aside0.mk (Kd.R_below (zo HO1130) hb)
     replace HO1134 := Aside0.mk (Kd.R_below (zo HO1134) hb)
     replace HO1138 := Aside0.mk (Kd.R_below (zo HO1138) hb)
     replace BK1131 := Aside0.mk (blk_below (g := gb1131) (o := .cells #[.slice Ao8 t1128.length co8] 71 (0, 0)) (zb BK1131) hb)
     replace BK1135 := Aside0.mk (blk_below (g := gb1135) (o := .cells #[.slice Ao13 t1132.length co13] 71 (0, 0)) (zb BK1135) hb)
     replace HB := Aside0.mk (below_step (zB HB) hb)
     (try clear hb)
     (try clear hb2)
     (try clear hk)
     (try clear hi)
     refine hK.out _ _ ⟨(blk_cell BK1135.out 0).trans rfl, (blk_cell BK1131.out 0).trans rfl⟩ (fun hHeld => ?_)
     clear hK K
     refine norm_ (a' := ?_) ?_ ?_
     rotate_left
     ·show Act.put _ (some 25) _ = _
      simp only [Act.put, List.setIfInBounds_toArray, List.set_cons_zero, List.set_cons_succ, i64_w, i32_w]
      rfl
     refine pure_ (i := 9) (N := some 26) (v := ?_) (a' := ?_) #[true, true, true, true, true, true, true, true, true, true, false, false, false, false, false, false] rfl rfl (any_of HT_.out (by kernel_rfl)) (fun _ _ _ h => h) (Or.inl ⟨by rfl, ?_⟩) ?_ ?_
     rotate_left
     ·intro w'
      go_simp
      with_reducible rfl
     rotate_left
     ·simp only [Act.put, List.setIfInBounds_toArray, List.set_cons_zero, List.set_cons_succ, i64_w, i32_w]
      rfl
     refine pure_ (i := 10) (N := some 27) (v := ?_) (a' := ?_) #[true, true, true, true, true, true, true, true, true, true, true, false, false, false, false, false] rfl rfl (any_of HT_.out (by kernel_rfl)) (fun _ _ _ h => h) (Or.inl ⟨by rfl, ?_⟩) ?_ ?_
     rotate_left
     ·intro w'
      go_simp
      with_reducible rfl
     rotate_left
     ·simp only [Act.put, List.setIfInBounds_toArray, List.set_cons_zero, List.set_cons_succ, i64_w, i32_w]
      rfl
     refine pure_ (i := 11) (N := some 28) (v := ?_) (a' := ?_) #[true, true, true, true, true, true, true, true, true, true, true, true, false, false, false, false] rfl rfl (any_of HT_.out (by kernel_rfl)) (fun _ _ _ h => h) (Or.inl ⟨by rfl, ?_⟩) ?_ ?_
     rotate_left
     ·intro w'
      go_simp
      with_reducible rfl
     rotate_left
     ·simp only [Act.put, List.setIfInBounds_toArray, List.set_cons_zero, List.set_cons_succ, i64_w, i32_w]
      rfl
     refine take_ (i := 12) (N := some 29) (v := ?_) (a' := ?_) #[true, true, true, true, true, true, true, true, true, true, true, true, true, false, false, false] rfl rfl (take_ofW HT_.out HW_.out (by kernel_rfl)) (fun _ _ _ h => h) (Or.inl ⟨by rfl, ?_⟩) hHeld ?_ ?_
     rotate_left
     ·rintro w' ⟨s0, s1⟩
      go_simp
      with_reducible rfl
     rotate_left
     ·simp only [Act.put, List.setIfInBounds_toArray, List.set_cons_zero, List.set_cons_succ, i64_w, i32_w]
      rfl
     refine one_ (i := 13) (N := some 30) #[true, true, true, true, true, true, true, true, true, true, true, true, true, true, false, false] rfl rfl (one_of HT_.out (by kernel_rfl)) (by decide) (fun K hK => ?_)
     refine goes_ Try.func51 (by kernel_rfl) rfl #[.agg #[.slice Ao8 t1128.length co8]] (by rfl) rfl rfl zl ?_
     with_reducible refine (impl_ValidSignature.calls k _ _ t1128 t1141 _ ?side1 ?side2 A21.out).mono ?_
     (case side1 => repeat (first | exact (Kd.R_reads' HO1130.out).2.2 | (with_reducible refine Kd.C_alloc ?_ _) | (with_reducible refine Kd.C_drewN ?_ _) | (with_reducible refine Kd.C_drew ?_)))
     (case side2 => exact (Kd.R_reads' HO1130.out).2.1)
     rintro e w28 ⟨rfl, hb⟩
     refine ⟨_, rfl, ?_⟩
     replace HO1127 := Aside0.mk (Kd.R_below (zo HO1127) hb)
     replace HO1130 := Aside0.mk (Kd.R_below (zo HO1130) hb)
     replace HO1134 := Aside0.mk (Kd.R_below (zo HO1134) hb)
     replace HO1138 := Aside0.mk (Kd.R_below (zo HO1138) hb)
     replace BK1131 := Aside0.mk (blk_below (g := gb1131) (o := .cells #[.slice Ao8 t1128.length co8] 71 (0, 0)) (zb BK1131) hb)
     replace BK1135 := Aside0.mk (blk_below (g := gb1135) (o := .cells #[.slice Ao13 t1132.length co13] 71 (0, 0)) (zb BK1135) hb)
     replace HB := Aside0.mk (below_step (zB HB) hb)
     (try clear hb)
     (try clear hb2)
     (try clear hk)
     (try clear hi)
     refine hK.out _ _ ⟨(blk_cell BK1135.out 0).trans rfl, (blk_cell BK1131.out 0).trans rfl⟩ (fun hHeld => ?_)
     clear hK K
     refine norm_ (a' := ?_) ?_ ?_
     rotate_left
     ·show Act.put _ (some 30) _ = _
      simp only [Act.put, List.setIfInBounds_toArray, List.set_cons_zero, List.set_cons_succ, i64_w, i32_w]
      rfl
     refine pure_ (i := 14) (N := some 31) (v := ?_) (a' := ?_) #[true, true, true, true, true, true, true, true, true, true, true, true, true, true, true, false] rfl rfl (any_of HT_.out (by kernel_rfl)) (fun _ _ _ h => h) (Or.inl ⟨by rfl, ?_⟩) ?_ ?_
     rotate_left
     ·intro w'
      go_simp
      with_reducible rfl
     rotate_left
     ·simp only [Act.put, List.setIfInBounds_toArray, List.set_cons_zero, List.set_cons_succ, i64_w, i32_w]
      rfl
     refine pure_ (i := 15) (N := some 32) (v := ?_) (a' := ?_) #[true, true, true, true, true, true, true, true, true, true, true, true, true, true, true, true] rfl rfl (any_of HT_.out (by kernel_rfl)) (fun _ _ _ h => h) (Or.inl ⟨by rfl, ?_⟩) ?_ ?_
     rotate_left
     ·intro w'
      go_simp
      with_reducible rfl
     rotate_left
     ·simp only [Act.put, List.setIfInBounds_toArray, List.set_cons_zero, List.set_cons_succ, i64_w, i32_w]
      rfl
     refine done_ (done_of HT_.out (by kernel_rfl)) ?_
     try go_wp2
     go_meet
     case rel => exact ⟨_, (!t1141), zr, H', ⟨by first | omega | exact Nat.le_refl _⟩, ⟨zo HO1127⟩, ⟨by (with_reducible repeat (first | apply Kd.R_alloc | apply Kd.R_drewN | apply Kd.R_drew)); exact Kd.R_mono HO1130.out (fun _ hk => hk.1)⟩, ⟨by (with_reducible repeat (first | apply Kd.R_alloc | apply Kd.R_drewN | apply Kd.R_drew)); exact Kd.R_mono HO1134.out (fun _ hk => hk.1)⟩, ⟨zb BK1131⟩, ⟨zb BK1135⟩, ⟨zB HB⟩⟩
    ·replace c20 := Bool.eq_false_iff.mpr c20
     subst c20
     rw [if_neg (show ¬ (false = true) by decide)] at H
     have H' := Aside0.mk H
     clear H
     try go_wp2
     have n0_ : Aside0 (Kd.R k107 107 (w12.setCell ⟨gb1135, 0, none⟩ (.slice Ao13 t1132.length co13)) w.heap.size (fun _ => True) (.slice Ao10 t1125.length co10) t1125) := ⟨by (with_reducible repeat (first | apply Kd.R_alloc | apply Kd.R_drewN | apply Kd.R_drew)); exact Kd.R_mono (Kd.R_far (p := ⟨gb1135, 0, none⟩) (Kd.R_types HO1127.out BK1135.out (by decide)) (fun _ hk => hk.2) (.slice Ao13 t1132.length co13)) (fun _ hk => trivial)⟩
     have n1_ : Aside0 (Kd.R k123 123 (w12.setCell ⟨gb1135, 0, none⟩ (.slice Ao13 t1132.length co13)) w.heap.size (fun k_ => some k_ ≠ (.slice Ao13 t1132.length co13 : Value).ownBlock) (.slice Ao8 t1128.length co8) t1128) := ⟨by (with_reducible repeat (first | apply Kd.R_alloc | apply Kd.R_drewN | apply Kd.R_drew)); exact Kd.R_mono (Kd.R_far (p := ⟨gb1135, 0, none⟩) (Kd.R_types HO1130.out BK1135.out (by decide)) (fun _ hk => hk.2) (.slice Ao13 t1132.length co13)) (fun _ hk => hk.1.2)⟩
     have n2_ : Aside0 (Kd.R k123 123 (w12.setCell ⟨gb1135, 0, none⟩ (.slice Ao13 t1132.length co13)) w.heap.size (fun k_ => some k_ ≠ (.slice Ao8 t1128.length co8 : Value).ownBlock) (.slice Ao13 t1132.length co13) t1132) := ⟨by (with_reducible repeat (first | apply Kd.R_alloc | apply Kd.R_drewN | apply Kd.R_drew)); exact Kd.R_mono (Kd.R_far (p := ⟨gb1135, 0, none⟩) (Kd.R_types HO1134.out BK1135.out (by decide)) (fun _ hk => hk.2) (.slice Ao13 t1132.length co13)) (fun _ hk => hk.1.2)⟩
     have n3_ : Aside0 ((w12.setCell ⟨gb1135, 0, none⟩ (.slice Ao13 t1132.length co13)).heap[gb1131]? = some (.cells #[.slice Ao8 t1128.length co8] 71 (0, 0))) := ⟨zf BK1131⟩
     have n4_ : Aside0 ((w12.setCell ⟨gb1135, 0, none⟩ (.slice Ao13 t1132.length co13)).heap[gb1135]? = some (.cells #[.slice Ao13 t1132.length co13] 71 (0, 0))) := ⟨by (with_reducible repeat (first | refine blk_drewN ?_ _ | refine blk_drew ?_ | refine blk_alloc ?_ _)); refine blk_put (cs := #[.slice none 0 0]) ?_ 0 _ rfl; (with_reducible repeat (first | refine blk_drewN ?_ _ | refine blk_drew ?_ | refine blk_alloc ?_ _)); exact BK1135.out⟩
     have n5_ : Aside0 (Below w.heap.size w (w12.setCell ⟨gb1135, 0, none⟩ (.slice Ao13 t1132.length co13))) := ⟨zB HB⟩
     (try clear HO1127)
     (try clear HO1130)
     (try clear HO1134)
     (try clear BK1131)
     (try clear BK1135)
     (try clear HB)
     generalize (w12.setCell ⟨gb1135, 0, none⟩ (.slice Ao13 t1132.length co13)) = w29 at n0_ n1_ n2_ n3_ n4_ n5_ ⊢
     have HO1127 := n0_
     have HO1130 := n1_
     have HO1134 := n2_
     have BK1131 := n3_
     have BK1135 := n4_
     have HB := n5_
     clear n0_ n1_ n2_ n3_ n4_ n5_
     replace HO1127 := Aside0.mk (Kd.R_drew HO1127.out)
     replace HO1130 := Aside0.mk (Kd.R_drew HO1130.out)
     replace HO1134 := Aside0.mk (Kd.R_drew HO1134.out)
     replace BK1131 := Aside0.mk (blk_drew BK1131.out)
     replace BK1135 := Aside0.mk (blk_drew BK1135.out)
     replace HB := Aside0.mk (below_drew1 HB.out)
     refine start_ (n := 16) (S := fun w' => w'.cell? ⟨gb1135, 0, none⟩ = some (.slice Ao13 t1132.length co13) ∧ w'.cell? ⟨gb1131, 0, none⟩ = some (.slice Ao8 t1128.length co8)) (ds := []) #[false, false, false, false, false, false, false, false, false, false, false, false, false, false, false, false] (by kernel_rfl) rfl rfl ⟨(blk_cell BK1135.out 0).trans rfl, (blk_cell BK1131.out 0).trans rfl⟩ (fun hHeld => ?_); refine with_tabW laws_FnTurnSignature.tab5 laws_FnTurnSignature.bits5 (fun HT_ HW_ => ?_)
     generalize w29.drew = w30 at HO1127 HO1130 HO1134 BK1131 BK1135 HB hHeld ⊢
     refine pure_ (i := 1) (N := some 18) (v := ?_) (a' := ?_) #[false, true, false, false, false, false, false, false, false, false, false, false, false, false, false, false] rfl rfl (any_of HT_.out (by kernel_rfl)) (fun _ _ _ h => h) (Or.inl ⟨by rfl, ?_⟩) ?_ ?_
     rotate_left
     ·intro w'
      go_simp
      with_reducible rfl
     rotate_left
     ·simp only [Act.put, List.setIfInBounds_toArray, List.set_cons_zero, List.set_cons_succ, i64_w, i32_w]
      rfl
     refine take_ (i := 0) (N := some 17) (v := ?_) (a' := ?_) #[true, true, false, false, false, false, false, false, false, false, false, false, false, false, false, false] rfl rfl (take_ofW HT_.out HW_.out (by kernel_rfl)) (fun _ _ _ h => h) (Or.inl ⟨by rfl, ?_⟩) hHeld ?_ ?_
     rotate_left
     ·rintro w' ⟨s0, s1⟩
      go_simp
      with_reducible rfl
     rotate_left
     ·simp only [Act.put, List.setIfInBounds_toArray, List.set_cons_zero, List.set_cons_succ, i64_w, i32_w]
      rfl
     refine take_ (i := 2) (N := some 19) (v := ?_) (a' := ?_) #[true, true, true, false, false, false, false, false, false, false, false, false, false, false, false, false] rfl rfl (take_ofW HT_.out HW_.out (by kernel_rfl)) (fun _ _ _ h => h) (Or.inl ⟨by rfl, ?_⟩) hHeld ?_ ?_
     rotate_left
     ·rintro w' ⟨s0, s1⟩
      go_simp
      with_reducible rfl
     rotate_left
     ·simp only [Act.put, List.setIfInBounds_toArray, List.set_cons_zero, List.set_cons_succ, i64_w, i32_w]
      rfl
     refine one_ (i := 3) (N := some 20) #[true, true, true, true, false, false, false, false, false, false, false, false, false, false, false, false] rfl rfl (one_of HT_.out (by kernel_rfl)) (by decide) (fun K hK => ?_)
     refine goes_ Try.func50 (by kernel_rfl) rfl #[.slice Ao10 t1125.length co10, .agg #[.slice Ao8 t1128.length co8]] (by rfl) rfl rfl zl ?_
     with_reducible refine (spec_TurnSignature.calls k _ _ t1125 _ _ t1128 t1136 _ ?side1 ?side2 ?side3 ?side4 A16.out).mono ?_
     (case side1 => repeat (first | exact (Kd.R_reads' HO1127.out).2.2 | (with_reducible refine Kd.C_alloc ?_ _) | (with_reducible refine Kd.C_drewN ?_ _) | (with_reducible refine Kd.C_drew ?_)))
     (case side2 => exact (Kd.R_reads' HO1127.out).2.1)
     (case side3 => repeat (first | exact (Kd.R_reads' HO1130.out).2.2 | (with_reducible refine Kd.C_alloc ?_ _) | (with_reducible refine Kd.C_drewN ?_ _) | (with_reducible refine Kd.C_drew ?_)))
     (case side4 => exact (Kd.R_reads' HO1130.out).2.1)
     rintro e w31 ⟨v1137, rfl, ho0, hb⟩
     refine ⟨_, rfl, ?_⟩
     replace HO1127 := Aside0.mk (Kd.R_below (zo HO1127) hb)
     have HO1138 := Aside0.mk (Kd.R_lower (Kd.R_new' (Kd.R_new' ho0 (Kd.R_lt (zo HO1130))) (Kd.R_lt (zo HO1134))) (below_size (zB HB)))
     replace HO1130 := Aside0.mk (Kd.R_elder' (zo HO1130) (Kd.R_base ho0) hb)
     replace HO1134 := Aside0.mk (Kd.R_elder' (zo HO1134) (Kd.R_base ho0) hb)
     replace BK1131 := Aside0.mk (blk_below (g := gb1131) (o := .cells #[.slice Ao8 t1128.length co8] 71 (0, 0)) (zb BK1131) hb)
     replace BK1135 := Aside0.mk (blk_below (g := gb1135) (o := .cells #[.slice Ao13 t1132.length co13] 71 (0, 0)) (zb BK1135) hb)
     replace HB := Aside0.mk (below_step (zB HB) hb)
     (try clear hb)
     (try clear hb2)
     (try clear hk)
     (try clear hi)
     (try clear ho0)
     obtain ⟨Ao32, co32, eo32⟩ := Kd.R_slice HO1138.out
     (first | subst eo32 | (injection eo32 with f1_ f2_ f3_; have f4_ := f1_.symm; have f5_ := f3_.symm; clear f1_ f2_ f3_; subst f4_; subst f5_))
     refine hK.out _ _ ⟨(blk_cell BK1135.out 0).trans rfl, (blk_cell BK1131.out 0).trans rfl⟩ (fun hHeld => ?_)
     clear hK K
     refine norm_ (a' := ?_) ?_ ?_
     rotate_left
     ·show Act.put _ (some 20) _ = _
      simp only [Act.put, List.setIfInBounds_toArray, List.set_cons_zero, List.set_cons_succ, i64_w, i32_w]
      rfl
     refine one_ (i := 4) (N := some 21) #[true, true, true, true, true, false, false, false, false, false, false, false, false, false, false, false] rfl rfl (one_of HT_.out (by kernel_rfl)) (by decide) (fun K hK => ?_)
     refine goes_ Try.func49 (by kernel_rfl) rfl #[.agg #[.slice Ao13 t1132.length co13], .agg #[.slice Ao32 t1136.length co32]] (by rfl) rfl rfl zl ?_
     with_reducible refine (laws_equalSignature.calls k _ _ t1132 _ _ t1136 true _ ?side1 ?side2 ?side3 ?side4 A17.out).mono ?_
     (case side1 => repeat (first | exact (Kd.R_reads' HO1134.out).2.2 | (with_reducible refine Kd.C_alloc ?_ _) | (with_reducible refine Kd.C_drewN ?_ _) | (with_reducible refine Kd.C_drew ?_)))
     (case side2 => exact (Kd.R_reads' HO1134.out).2.1)
     (case side3 => repeat (first | exact (Kd.R_reads' HO1138.out).2.2 | (with_reducible refine Kd.C_alloc ?_ _) | (with_reducible refine Kd.C_drewN ?_ _) | (with_reducible refine Kd.C_drew ?_)))
     (case side4 => exact (Kd.R_reads' HO1138.out).2.1)
     rintro e w33 ⟨rfl, hb⟩
     refine ⟨_, rfl, ?_⟩
     replace HO1127 := Aside0.mk (Kd.R_below (zo HO1127) hb)
     replace HO1130 := Aside0.mk (Kd.R_below (zo HO1130) hb)
     replace HO1134 := Aside0.mk (Kd.R_below (zo HO1134) hb)
     replace HO1138 := Aside0.mk (Kd.R_below (zo HO1138) hb)
     replace BK1131 := Aside0.mk (blk_below (g := gb1131) (o := .cells #[.slice Ao8 t1128.length co8] 71 (0, 0)) (zb BK1131) hb)
     replace BK1135 := Aside0.mk (blk_below (g := gb1135) (o := .cells #[.slice Ao13 t1132.length co13] 71 (0, 0)) (zb BK1135) hb)
     replace HB := Aside0.mk (below_step (zB HB) hb)
     (try clear hb)
     (try clear hb2)
     (try clear hk)
     (try clear hi)
     refine hK.out _ _ ⟨(blk_cell BK1135.out 0).trans rfl, (blk_cell BK1131.out 0).trans rfl⟩ (fun hHeld => ?_)
     clear hK K
     refine norm_ (a' := ?_) ?_ ?_
     rotate_left
     ·show Act.put _ (some 21) _ = _
      simp only [Act.put, List.setIfInBounds_toArray, List.set_cons_zero, List.set_cons_succ, i64_w, i32_w]
      rfl
     refine pure_ (i := 5) (N := some 22) (v := ?_) (a' := ?_) #[true, true, true, true, true, true, false, false, false, false, false, false, false, false, false, false] rfl rfl (any_of HT_.out (by kernel_rfl)) (fun _ _ _ h => h) (Or.inl ⟨by rfl, ?_⟩) ?_ ?_
     rotate_left
     ·intro w'
      go_simp
      with_reducible rfl
     rotate_left
     ·simp only [Act.put, List.setIfInBounds_toArray, List.set_cons_zero, List.set_cons_succ, i64_w, i32_w]
      rfl
     refine pure_ (i := 6) (N := some 23) (v := ?_) (a' := ?_) #[true, true, true, true, true, true, true, false, false, false, false, false, false, false, false, false] rfl rfl (any_of HT_.out (by kernel_rfl)) (fun _ _ _ h => h) (Or.inl ⟨by rfl, ?_⟩) ?_ ?_
     rotate_left
     ·intro w'
      go_simp
      with_reducible rfl
     rotate_left
     ·simp only [Act.put, List.setIfInBounds_toArray, List.set_cons_zero, List.set_cons_succ, i64_w, i32_w]
      rfl
     refine pure_ (i := 7) (N := some 24) (v := ?_) (a' := ?_) #[true, true, true, true, true, true, true, true, false, false, false, false, false, false, false, false] rfl rfl (any_of HT_.out (by kernel_rfl)) (fun _ _ _ h => h) (Or.inl ⟨by rfl, ?_⟩) ?_ ?_
     rotate_left
     ·intro w'
      go_simp
      with_reducible rfl
     rotate_left
     ·simp only [Act.put, List.setIfInBounds_toArray, List.set_cons_zero, List.set_cons_succ, i64_w, i32_w]
      rfl
     refine one_ (i := 8) (N := some 25) #[true, true, true, true, true, true, true, true, true, false, false, false, false, false, false, false] rfl rfl (one_of HT_.out (by kernel_rfl)) (by decide) (fun K hK => ?_)
     refine goes_ Try.func46 (by kernel_rfl) rfl #[.slice Ao10 t1125.length co10] (by rfl) rfl rfl zl ?_
     with_reducible refine (impl_ValidTurns.calls _ _ t1125 false _ ?side1 ?side2 A19.out).mono ?_
     (case side1 => repeat (first | exact (Kd.R_reads' HO1127.out).2.2 | (with_reducible refine Kd.C_alloc ?_ _) | (with_reducible refine Kd.C_drewN ?_ _) | (with_reducible refine Kd.C_drew ?_)))
     (case side2 => exact (Kd.R_reads' HO1127.out).2.1)
     rintro e w34 ⟨rfl, hb⟩
     refine ⟨_, rfl, ?_⟩
     replace HO1127 := Aside0.mk (Kd.R_below (zo HO1127) hb)
     replace HO1130 := Aside0.mk (Kd.R_below (zo HO1130) hb)
     replace HO1134 := Aside0.mk (Kd.R_below (zo HO1134) hb)
     replace HO1138 := Aside0.mk (Kd.R_below (zo HO1138) hb)
     replace BK1131 := Aside0.mk (blk_below (g := gb1131) (o := .cells #[.slice Ao8 t1128.length co8] 71 (0, 0)) (zb BK1131) hb)
     replace BK1135 := Aside0.mk (blk_below (g := gb1135) (o := .cells #[.slice Ao13 t1132.length co13] 71 (0, 0)) (zb BK1135) hb)
     replace HB := Aside0.mk (below_step (zB HB) hb)
     (try clear hb)
     (try clear hb2)
     (try clear hk)
     (try clear hi)
     refine hK.out _ _ ⟨(blk_cell BK1135.out 0).trans rfl, (blk_cell BK1131.out 0).trans rfl⟩ (fun hHeld => ?_)
     clear hK K
     refine norm_ (a' := ?_) ?_ ?_
     rotate_left
     ·show Act.put _ (some 25) _ = _
      simp only [Act.put, List.setIfInBounds_toArray, List.set_cons_zero, List.set_cons_succ, i64_w, i32_w]
      rfl
     refine pure_ (i := 9) (N := some 26) (v := ?_) (a' := ?_) #[true, true, true, true, true, true, true, true, true, true, false, false, false, false, false, false] rfl rfl (any_of HT_.out (by kernel_rfl)) (fun _ _ _ h => h) (Or.inl ⟨by rfl, ?_⟩) ?_ ?_
     rotate_left
     ·intro w'
      go_simp
      with_reducible rfl
     rotate_left
     ·simp only [Act.put, List.setIfInBounds_toArray, List.set_cons_zero, List.set_cons_succ, i64_w, i32_w]
      rfl
     refine pure_ (i := 10) (N := some 27) (v := ?_) (a' := ?_) #[true, true, true, true, true, true, true, true, true, true, true, false, false, false, false, false] rfl rfl (any_of HT_.out (by kernel_rfl)) (fun _ _ _ h => h) (Or.inl ⟨by rfl, ?_⟩) ?_ ?_
     rotate_left
     ·intro w'
      go_simp
      with_reducible rfl
     rotate_left
     ·simp only [Act.put, List.setIfInBounds_toArray, List.set_cons_zero, List.set_cons_succ, i64_w, i32_w]
      rfl
     refine pure_ (i := 11) (N := some 28) (v := ?_) (a' := ?_) #[true, true, true, true, true, true, true, true, true, true, true, true, false, false, false, false] rfl rfl (any_of HT_.out (by kernel_rfl)) (fun _ _ _ h => h) (Or.inl ⟨by rfl, ?_⟩) ?_ ?_
     rotate_left
     ·intro w'
      go_simp
      with_reducible rfl
     rotate_left
     ·simp only [Act.put, List.setIfInBounds_toArray, List.set_cons_zero, List.set_cons_succ, i64_w, i32_w]
      rfl
     refine pure_ (i := 12) (N := some 29) (v := undef) (a' := ?_) #[true, true, true, true, true, true, true, true, true, true, true, true, true, false, false, false] rfl rfl (any_of HT_.out (by kernel_rfl)) (fun _ _ _ h => h) (Or.inr ⟨by rfl, rfl⟩) ?_ ?_
     rotate_left
     ·simp only [Act.put, List.setIfInBounds_toArray, List.set_cons_zero, List.set_cons_succ, i64_w, i32_w]
      rfl
     refine pure_ (i := 13) (N := some 30) (v := undef) (a' := ?_) #[true, true, true, true, true, true, true, true, true, true, true, true, true, true, false, false] rfl rfl (any_of HT_.out (by kernel_rfl)) (fun _ _ _ h => h) (Or.inr ⟨by rfl, rfl⟩) ?_ ?_
     rotate_left
     ·simp only [Act.put, List.setIfInBounds_toArray, List.set_cons_zero, List.set_cons_succ, i64_w, i32_w]
      rfl
     refine pure_ (i := 14) (N := some 31) (v := undef) (a' := ?_) #[true, true, true, true, true, true, true, true, true, true, true, true, true, true, true, false] rfl rfl (any_of HT_.out (by kernel_rfl)) (fun _ _ _ h => h) (Or.inr ⟨by rfl, rfl⟩) ?_ ?_
     rotate_left
     ·simp only [Act.put, List.setIfInBounds_toArray, List.set_cons_zero, List.set_cons_succ, i64_w, i32_w]
      rfl
     refine pure_ (i := 15) (N := some 32) (v := ?_) (a' := ?_) #[true, true, true, true, true, true, true, true, true, true, true, true, true, true, true, true] rfl rfl (any_of HT_.out (by kernel_rfl)) (fun _ _ _ h => h) (Or.inl ⟨by rfl, ?_⟩) ?_ ?_
     rotate_left
     ·intro w'
      go_simp
      with_reducible rfl
     rotate_left
     ·simp only [Act.put, List.setIfInBounds_toArray, List.set_cons_zero, List.set_cons_succ, i64_w, i32_w]
      rfl
     refine done_ (done_of HT_.out (by kernel_rfl)) ?_
     try go_wp2
     go_meet
     case rel => exact ⟨_, (true), zr, H', ⟨by first | omega | exact Nat.le_refl _⟩, ⟨zo HO1127⟩, ⟨by (with_reducible repeat (first | apply Kd.R_alloc | apply Kd.R_drewN | apply Kd.R_drew)); exact Kd.R_mono HO1130.out (fun _ hk => hk.1)⟩, ⟨by (with_reducible repeat (first | apply Kd.R_alloc | apply Kd.R_drewN | apply Kd.R_drew)); exact Kd.R_mono HO1134.out (fun _ hk => hk.1)⟩, ⟨zb BK1131⟩, ⟨zb BK1135⟩, ⟨zB HB⟩⟩
   ·replace c18 := Bool.eq_false_iff.mpr c18
    subst c18
    rw [if_neg (show ¬ (false = true) by decide)] at H
    have H' := Aside0.mk H
    clear H
    try go_wp2
    have n0_ : Aside0 (Kd.R k107 107 (w12.setCell ⟨gb1135, 0, none⟩ (.slice Ao13 t1132.length co13)) w.heap.size (fun _ => True) (.slice Ao10 t1125.length co10) t1125) := ⟨by (with_reducible repeat (first | apply Kd.R_alloc | apply Kd.R_drewN | apply Kd.R_drew)); exact Kd.R_mono (Kd.R_far (p := ⟨gb1135, 0, none⟩) (Kd.R_types HO1127.out BK1135.out (by decide)) (fun _ hk => hk.2) (.slice Ao13 t1132.length co13)) (fun _ hk => trivial)⟩
    have n1_ : Aside0 (Kd.R k123 123 (w12.setCell ⟨gb1135, 0, none⟩ (.slice Ao13 t1132.length co13)) w.heap.size (fun k_ => some k_ ≠ (.slice Ao13 t1132.length co13 : Value).ownBlock) (.slice Ao8 t1128.length co8) t1128) := ⟨by (with_reducible repeat (first | apply Kd.R_alloc | apply Kd.R_drewN | apply Kd.R_drew)); exact Kd.R_mono (Kd.R_far (p := ⟨gb1135, 0, none⟩) (Kd.R_types HO1130.out BK1135.out (by decide)) (fun _ hk => hk.2) (.slice Ao13 t1132.length co13)) (fun _ hk => hk.1.2)⟩
    have n2_ : Aside0 (Kd.R k123 123 (w12.setCell ⟨gb1135, 0, none⟩ (.slice Ao13 t1132.length co13)) w.heap.size (fun k_ => some k_ ≠ (.slice Ao8 t1128.length co8 : Value).ownBlock) (.slice Ao13 t1132.length co13) t1132) := ⟨by (with_reducible repeat (first | apply Kd.R_alloc | apply Kd.R_drewN | apply Kd.R_drew)); exact Kd.R_mono (Kd.R_far (p := ⟨gb1135, 0, none⟩) (Kd.R_types HO1134.out BK1135.out (by decide)) (fun _ hk => hk.2) (.slice Ao13 t1132.length co13)) (fun _ hk => hk.1.2)⟩
    have n3_ : Aside0 ((w12.setCell ⟨gb1135, 0, none⟩ (.slice Ao13 t1132.length co13)).heap[gb1131]? = some (.cells #[.slice Ao8 t1128.length co8] 71 (0, 0))) := ⟨zf BK1131⟩
    have n4_ : Aside0 ((w12.setCell ⟨gb1135, 0, none⟩ (.slice Ao13 t1132.length co13)).heap[gb1135]? = some (.cells #[.slice Ao13 t1132.length co13] 71 (0, 0))) := ⟨by (with_reducible repeat (first | refine blk_drewN ?_ _ | refine blk_drew ?_ | refine blk_alloc ?_ _)); refine blk_put (cs := #[.slice none 0 0]) ?_ 0 _ rfl; (with_reducible repeat (first | refine blk_drewN ?_ _ | refine blk_drew ?_ | refine blk_alloc ?_ _)); exact BK1135.out⟩
    have n5_ : Aside0 (Below w.heap.size w (w12.setCell ⟨gb1135, 0, none⟩ (.slice Ao13 t1132.length co13))) := ⟨zB HB⟩
    (try clear HO1127)
    (try clear HO1130)
    (try clear HO1134)
    (try clear BK1131)
    (try clear BK1135)
    (try clear HB)
    generalize (w12.setCell ⟨gb1135, 0, none⟩ (.slice Ao13 t1132.length co13)) = w35 at n0_ n1_ n2_ n3_ n4_ n5_ ⊢
    have HO1127 := n0_
    have HO1130 := n1_
    have HO1134 := n2_
    have BK1131 := n3_
    have BK1135 := n4_
    have HB := n5_
    clear n0_ n1_ n2_ n3_ n4_ n5_
    replace HO1127 := Aside0.mk (Kd.R_drew HO1127.out)
    replace HO1130 := Aside0.mk (Kd.R_drew HO1130.out)
    replace HO1134 := Aside0.mk (Kd.R_drew HO1134.out)
    replace BK1131 := Aside0.mk (blk_drew BK1131.out)
    replace BK1135 := Aside0.mk (blk_drew BK1135.out)
    replace HB := Aside0.mk (below_drew1 HB.out)
    refine start_ (n := 16) (S := fun w' => w'.cell? ⟨gb1135, 0, none⟩ = some (.slice Ao13 t1132.length co13) ∧ w'.cell? ⟨gb1131, 0, none⟩ = some (.slice Ao8 t1128.length co8)) (ds := []) #[false, false, false, false, false, false, false, false, false, false, false, false, false, false, false, false] (by kernel_rfl) rfl rfl ⟨(blk_cell BK1135.out 0).trans rfl, (blk_cell BK1131.out 0).trans rfl⟩ (fun hHeld => ?_); refine with_tabW laws_FnTurnSignature.tab5 laws_FnTurnSignature.bits5 (fun HT_ HW_ => ?_)
    generalize w35.drew = w36 at HO1127 HO1130 HO1134 BK1131 BK1135 HB hHeld ⊢
    refine pure_ (i := 1) (N := some 18) (v := ?_) (a' := ?_) #[false, true, false, false, false, false, false, false, false, false, false, false, false, false, false, false] rfl rfl (any_of HT_.out (by kernel_rfl)) (fun _ _ _ h => h) (Or.inl ⟨by rfl, ?_⟩) ?_ ?_
    rotate_left
    ·intro w'
     go_simp
     with_reducible rfl
    rotate_left
    ·simp only [Act.put, List.setIfInBounds_toArray, List.set_cons_zero, List.set_cons_succ, i64_w, i32_w]
     rfl
    refine take_ (i := 0) (N := some 17) (v := ?_) (a' := ?_) #[true, true, false, false, false, false, false, false, false, false, false, false, false, false, false, false] rfl rfl (take_ofW HT_.out HW_.out (by kernel_rfl)) (fun _ _ _ h => h) (Or.inl ⟨by rfl, ?_⟩) hHeld ?_ ?_
    rotate_left
    ·rintro w' ⟨s0, s1⟩
     go_simp
     with_reducible rfl
    rotate_left
    ·simp only [Act.put, List.setIfInBounds_toArray, List.set_cons_zero, List.set_cons_succ, i64_w, i32_w]
     rfl
    refine take_ (i := 2) (N := some 19) (v := ?_) (a' := ?_) #[true, true, true, false, false, false, false, false, false, false, false, false, false, false, false, false] rfl rfl (take_ofW HT_.out HW_.out (by kernel_rfl)) (fun _ _ _ h => h) (Or.inl ⟨by rfl, ?_⟩) hHeld ?_ ?_
    rotate_left
    ·rintro w' ⟨s0, s1⟩
     go_simp
     with_reducible rfl
    rotate_left
    ·simp only [Act.put, List.setIfInBounds_toArray, List.set_cons_zero, List.set_cons_succ, i64_w, i32_w]
     rfl
    refine one_ (i := 3) (N := some 20) #[true, true, true, true, false, false, false, false, false, false, false, false, false, false, false, false] rfl rfl (one_of HT_.out (by kernel_rfl)) (by decide) (fun K hK => ?_)
    refine goes_ Try.func50 (by kernel_rfl) rfl #[.slice Ao10 t1125.length co10, .agg #[.slice Ao8 t1128.length co8]] (by rfl) rfl rfl zl ?_
    with_reducible refine (spec_TurnSignature.calls k _ _ t1125 _ _ t1128 t1136 _ ?side1 ?side2 ?side3 ?side4 A16.out).mono ?_
    (case side1 => repeat (first | exact (Kd.R_reads' HO1127.out).2.2 | (with_reducible refine Kd.C_alloc ?_ _) | (with_reducible refine Kd.C_drewN ?_ _) | (with_reducible refine Kd.C_drew ?_)))
    (case side2 => exact (Kd.R_reads' HO1127.out).2.1)
    (case side3 => repeat (first | exact (Kd.R_reads' HO1130.out).2.2 | (with_reducible refine Kd.C_alloc ?_ _) | (with_reducible refine Kd.C_drewN ?_ _) | (with_reducible refine Kd.C_drew ?_)))
    (case side4 => exact (Kd.R_reads' HO1130.out).2.1)
    rintro e w37 ⟨v1137, rfl, ho0, hb⟩
    refine ⟨_, rfl, ?_⟩
    replace HO1127 := Aside0.mk (Kd.R_below (zo HO1127) hb)
    have HO1138 := Aside0.mk (Kd.R_lower (Kd.R_new' (Kd.R_new' ho0 (Kd.R_lt (zo HO1130))) (Kd.R_lt (zo HO1134))) (below_size (zB HB)))
    replace HO1130 := Aside0.mk (Kd.R_elder' (zo HO1130) (Kd.R_base ho0) hb)
    replace HO1134 := Aside0.mk (Kd.R_elder' (zo HO1134) (Kd.R_base ho0) hb)
    replace BK1131 := Aside0.mk (blk_below (g := gb1131) (o := .cells #[.slice Ao8 t1128.length co8] 71 (0, 0)) (zb BK1131) hb)
    replace BK1135 := Aside0.mk (blk_below (g := gb1135) (o := .cells #[.slice Ao13 t1132.length co13] 71 (0, 0)) (zb BK1135) hb)
    replace HB := Aside0.mk (below_step (zB HB) hb)
    (try clear hb)
    (try clear hb2)
    (try clear hk)
    (try clear hi)
    (try clear ho0)
    obtain ⟨Ao38, co38, eo38⟩ := Kd.R_slice HO1138.out
    (first | subst eo38 | (injection eo38 with f1_ f2_ f3_; have f4_ := f1_.symm; have f5_ := f3_.symm; clear f1_ f2_ f3_; subst f4_; subst f5_))
    refine hK.out _ _ ⟨(blk_cell BK1135.out 0).trans rfl, (blk_cell BK1131.out 0).trans rfl⟩ (fun hHeld => ?_)
    clear hK K
    refine norm_ (a' := ?_) ?_ ?_
    rotate_left
    ·show Act.put _ (some 20) _ = _
     simp only [Act.put, List.setIfInBounds_toArray, List.set_cons_zero, List.set_cons_succ, i64_w, i32_w]
     rfl
    refine one_ (i := 4) (N := some 21) #[true, true, true, true, true, false, false, false, false, false, false, false, false, false, false, false] rfl rfl (one_of HT_.out (by kernel_rfl)) (by decide) (fun K hK => ?_)
    refine goes_ Try.func49 (by kernel_rfl) rfl #[.agg #[.slice Ao13 t1132.length co13], .agg #[.slice Ao38 t1136.length co38]] (by rfl) rfl rfl zl ?_
    with_reducible refine (laws_equalSignature.calls k _ _ t1132 _ _ t1136 false _ ?side1 ?side2 ?side3 ?side4 A17.out).mono ?_
    (case side1 => repeat (first | exact (Kd.R_reads' HO1134.out).2.2 | (with_reducible refine Kd.C_alloc ?_ _) | (with_reducible refine Kd.C_drewN ?_ _) | (with_reducible refine Kd.C_drew ?_)))
    (case side2 => exact (Kd.R_reads' HO1134.out).2.1)
    (case side3 => repeat (first | exact (Kd.R_reads' HO1138.out).2.2 | (with_reducible refine Kd.C_alloc ?_ _) | (with_reducible refine Kd.C_drewN ?_ _) | (with_reducible refine Kd.C_drew ?_)))
    (case side4 => exact (Kd.R_reads' HO1138.out).2.1)
    rintro e w39 ⟨rfl, hb⟩
    refine ⟨_, rfl, ?_⟩
    replace HO1127 := Aside0.mk (Kd.R_below (zo HO1127) hb)
    replace HO1130 := Aside0.mk (Kd.R_below (zo HO1130) hb)
    replace HO1134 := Aside0.mk (Kd.R_below (zo HO1134) hb)
    replace HO1138 := Aside0.mk (Kd.R_below (zo HO1138) hb)
    replace BK1131 := Aside0.mk (blk_below (g := gb1131) (o := .cells #[.slice Ao8 t1128.length co8] 71 (0, 0)) (zb BK1131) hb)
    replace BK1135 := Aside0.mk (blk_below (g := gb1135) (o := .cells #[.slice Ao13 t1132.length co13] 71 (0, 0)) (zb BK1135) hb)
    replace HB := Aside0.mk (below_step (zB HB) hb)
    (try clear hb)
    (try clear hb2)
    (try clear hk)
    (try clear hi)
    refine hK.out _ _ ⟨(blk_cell BK1135.out 0).trans rfl, (blk_cell BK1131.out 0).trans rfl⟩ (fun hHeld => ?_)
    clear hK K
    refine norm_ (a' := ?_) ?_ ?_
    rotate_left
    ·show Act.put _ (some 21) _ = _
     simp only [Act.put, List.setIfInBounds_toArray, List.set_cons_zero, List.set_cons_succ, i64_w, i32_w]
     rfl
    refine pure_ (i := 5) (N := some 22) (v := ?_) (a' := ?_) #[true, true, true, true, true, true, false, false, false, false, false, false, false, false, false, false] rfl rfl (any_of HT_.out (by kernel_rfl)) (fun _ _ _ h => h) (Or.inl ⟨by rfl, ?_⟩) ?_ ?_
    rotate_left
    ·intro w'
     go_simp
     with_reducible rfl
    rotate_left
    ·simp only [Act.put, List.setIfInBounds_toArray, List.set_cons_zero, List.set_cons_succ, i64_w, i32_w]
     rfl
    refine pure_ (i := 6) (N := some 23) (v := ?_) (a' := ?_) #[true, true, true, true, true, true, true, false, false, false, false, false, false, false, false, false] rfl rfl (any_of HT_.out (by kernel_rfl)) (fun _ _ _ h => h) (Or.inl ⟨by rfl, ?_⟩) ?_ ?_
    rotate_left
    ·intro w'
     go_simp
     with_reducible rfl
    rotate_left
    ·simp only [Act.put, List.setIfInBounds_toArray, List.set_cons_zero, List.set_cons_succ, i64_w, i32_w]
     rfl
    refine pure_ (i := 7) (N := some 24) (v := undef) (a' := ?_) #[true, true, true, true, true, true, true, true, false, false, false, false, false, false, false, false] rfl rfl (any_of HT_.out (by kernel_rfl)) (fun _ _ _ h => h) (Or.inr ⟨by rfl, rfl⟩) ?_ ?_
    rotate_left
    ·simp only [Act.put, List.setIfInBounds_toArray, List.set_cons_zero, List.set_cons_succ, i64_w, i32_w]
     rfl
    refine pure_ (i := 8) (N := some 25) (v := undef) (a' := ?_) #[true, true, true, true, true, true, true, true, true, false, false, false, false, false, false, false] rfl rfl (any_of HT_.out (by kernel_rfl)) (fun _ _ _ h => h) (Or.inr ⟨by rfl, rfl⟩) ?_ ?_
    rotate_left
    ·simp only [Act.put, List.setIfInBounds_toArray, List.set_cons_zero, List.set_cons_succ, i64_w, i32_w]
     rfl
    refine pure_ (i := 9) (N := some 26) (v := undef) (a' := ?_) #[true, true, true, true, true, true, true, true, true, true, false, false, false, false, false, false] rfl rfl (any_of HT_.out (by kernel_rfl)) (fun _ _ _ h => h) (Or.inr ⟨by rfl, rfl⟩) ?_ ?_
    rotate_left
    ·simp only [Act.put, List.setIfInBounds_toArray, List.set_cons_zero, List.set_cons_succ, i64_w, i32_w]
     rfl
    refine pure_ (i := 10) (N := some 27) (v := ?_) (a' := ?_) #[true, true, true, true, true, true, true, true, true, true, true, false, false, false, false, false] rfl rfl (any_of HT_.out (by kernel_rfl)) (fun _ _ _ h => h) (Or.inl ⟨by rfl, ?_⟩) ?_ ?_
    rotate_left
    ·intro w'
     go_simp
     with_reducible rfl
    rotate_left
    ·simp only [Act.put, List.setIfInBounds_toArray, List.set_cons_zero, List.set_cons_succ, i64_w, i32_w]
     rfl
    refine pure_ (i := 11) (N := some 28) (v := ?_) (a' := ?_) #[true, true, true, true, true, true, true, true, true, true, true, true, false, false, false, false] rfl rfl (any_of HT_.out (by kernel_rfl)) (fun _ _ _ h => h) (Or.inl ⟨by rfl, ?_⟩) ?_ ?_
    rotate_left
    ·intro w'
     go_simp
     with_reducible rfl
    rotate_left
    ·simp only [Act.put, List.setIfInBounds_toArray, List.set_cons_zero, List.set_cons_succ, i64_w, i32_w]
     rfl
    refine pure_ (i := 12) (N := some 29) (v := undef) (a' := ?_) #[true, true, true, true, true, true, true, true, true, true, true, true, true, false, false, false] rfl rfl (any_of HT_.out (by kernel_rfl)) (fun _ _ _ h => h) (Or.inr ⟨by rfl, rfl⟩) ?_ ?_
    rotate_left
    ·simp only [Act.put, List.setIfInBounds_toArray, List.set_cons_zero, List.set_cons_succ, i64_w, i32_w]
     rfl
    refine pure_ (i := 13) (N := some 30) (v := undef) (a' := ?_) #[true, true, true, true, true, true, true, true, true, true, true, true, true, true, false, false] rfl rfl (any_of HT_.out (by kernel_rfl)) (fun _ _ _ h => h) (Or.inr ⟨by rfl, rfl⟩) ?_ ?_
    rotate_left
    ·simp only [Act.put, List.setIfInBounds_toArray, List.set_cons_zero, List.set_cons_succ, i64_w, i32_w]
     rfl
    refine pure_ (i := 14) (N := some 31) (v := undef) (a' := ?_) #[true, true, true, true, true, true, true, true, true, true, true, true, true, true, true, false] rfl rfl (any_of HT_.out (by kernel_rfl)) (fun _ _ _ h => h) (Or.inr ⟨by rfl, rfl⟩) ?_ ?_
    rotate_left
    ·simp only [Act.put, List.setIfInBounds_toArray, List.set_cons_zero, List.set_cons_succ, i64_w, i32_w]
     rfl
    refine pure_ (i := 15) (N := some 32) (v := ?_) (a' := ?_) #[true, true, true, true, true, true, true, true, true, true, true, true, true, true, true, true] rfl rfl (any_of HT_.out (by kernel_rfl)) (fun _ _ _ h => h) (Or.inl ⟨by rfl, ?_⟩) ?_ ?_
    rotate_left
    ·intro w'
     go_simp
     with_reducible rfl
    rotate_left
    ·simp only [Act.put, List.setIfInBounds_toArray, List.set_cons_zero, List.set_cons_succ, i64_w, i32_w]
     rfl
    refine done_ (done_of HT_.out (by kernel_rfl)) ?_
    try go_wp2
    go_meet
    case rel => exact ⟨_, (true), zr, H', ⟨by first | omega | exact Nat.le_refl _⟩, ⟨zo HO1127⟩, ⟨by (with_reducible repeat (first | apply Kd.R_alloc | apply Kd.R_drewN | apply Kd.R_drew)); exact Kd.R_mono HO1130.out (fun _ hk => hk.1)⟩, ⟨by (with_reducible repeat (first | apply Kd.R_alloc | apply Kd.R_drewN | apply Kd.R_drew)); exact Kd.R_mono HO1134.out (fun _ hk => hk.1)⟩, ⟨zb BK1131⟩, ⟨zb BK1135⟩, ⟨zB HB⟩⟩
  case rest =>
   clear HC5
   try clear c1
   try clear c2
   try clear p2
   try clear c4
   try clear c5
   try clear c18
   try clear c20
   obtain ⟨kq, x32_4, rfl, HA, HJ4, HO_3, HO_1132000, HO_1136000, BK1131, BK1135, HB⟩ := hcut
   cases kq with
   | zero => exact absurd HA.out (by simp [laws_FnTurnSignature.j0])
   | succ kj4 =>
    have H := HA.out
    clear HA
    simp only [laws_FnTurnSignature.j0] at H
    by_cases c40 : x32_4 = true
    ·subst c40
     rw [if_pos rfl] at H
     replace H := Option.bind_eq_some_iff.mp H
     obtain ⟨t1142, A410, H⟩ := H
     (try dsimp only at H)
     have A41 := Aside0.mk A410
     clear A410
     replace H := Option.bind_eq_some_iff.mp H
     obtain ⟨t1145, A420, H⟩ := H
     (try dsimp only at H)
     have A42 := Aside0.mk A420
     clear A420
     obtain rfl := Option.some.inj H
     try go_wp2
     replace HO_3 := Aside0.mk (Kd.R_drew HO_3.out)
     replace HO_1132000 := Aside0.mk (Kd.R_drew HO_1132000.out)
     replace HO_1136000 := Aside0.mk (Kd.R_drew HO_1136000.out)
     replace BK1131 := Aside0.mk (blk_drew BK1131.out)
     replace BK1135 := Aside0.mk (blk_drew BK1135.out)
     replace HB := Aside0.mk (below_drew1 HB.out)
     refine start_ (n := 6) (S := fun w' => w'.cell? ⟨gb1135, 0, none⟩ = some (.slice Ao13 t1132.length co13) ∧ w'.cell? ⟨gb1131, 0, none⟩ = some (.slice Ao8 t1128.length co8)) (ds := []) #[false, false, false, false, false, false] (by kernel_rfl) rfl rfl ⟨(blk_cell BK1135.out 0).trans rfl, (blk_cell BK1131.out 0).trans rfl⟩ (fun hHeld => ?_)
     generalize wc.drew = w43 at HO_3 HO_1132000 HO_1136000 BK1131 BK1135 HB hHeld ⊢
     refine pure_ (i := 1) (N := some 34) (v := ?_) (a' := ?_) #[false, true, false, false, false, false] rfl rfl (by kernel_rfl) (fun _ _ _ h => h) (Or.inl ⟨by rfl, ?_⟩) ?_ ?_
     rotate_left
     ·intro w'
      go_simp
      with_reducible rfl
     rotate_left
     ·simp only [Act.put, List.setIfInBounds_toArray, List.set_cons_zero, List.set_cons_succ, i64_w, i32_w]
      rfl
     refine take_ (i := 0) (N := some 33) (v := ?_) (a' := ?_) #[true, true, false, false, false, false] rfl rfl (by kernel_rfl) (fun _ _ _ h => h) (Or.inl ⟨by rfl, ?_⟩) hHeld ?_ ?_
     rotate_left
     ·rintro w' ⟨s0, s1⟩
      go_simp
      with_reducible rfl
     rotate_left
     ·simp only [Act.put, List.setIfInBounds_toArray, List.set_cons_zero, List.set_cons_succ, i64_w, i32_w]
      rfl
     refine take_ (i := 2) (N := some 35) (v := ?_) (a' := ?_) #[true, true, true, false, false, false] rfl rfl (by kernel_rfl) (fun _ _ _ h => h) (Or.inl ⟨by rfl, ?_⟩) hHeld ?_ ?_
     rotate_left
     ·rintro w' ⟨s0, s1⟩
      go_simp
      with_reducible rfl
     rotate_left
     ·simp only [Act.put, List.setIfInBounds_toArray, List.set_cons_zero, List.set_cons_succ, i64_w, i32_w]
      rfl
     refine one_ (i := 3) (N := some 36) #[true, true, true, true, false, false] rfl rfl (by kernel_rfl) (by decide) (fun K hK => ?_)
     refine goes_ Try.func50 (by kernel_rfl) rfl #[.slice Ao10 t1125.length co10, .agg #[.slice Ao8 t1128.length co8]] (by rfl) rfl rfl zl ?_
     with_reducible refine (spec_TurnSignature.calls kj4 _ _ t1125 _ _ t1128 t1142 _ ?side1 ?side2 ?side3 ?side4 A41.out).mono ?_
     (case side1 => repeat (first | exact (Kd.R_reads' HO_3.out).2.2 | (with_reducible refine Kd.C_alloc ?_ _) | (with_reducible refine Kd.C_drewN ?_ _) | (with_reducible refine Kd.C_drew ?_)))
     (case side2 => exact (Kd.R_reads' HO_3.out).2.1)
     (case side3 => repeat (first | exact (Kd.R_reads' HO_1132000.out).2.2 | (with_reducible refine Kd.C_alloc ?_ _) | (with_reducible refine Kd.C_drewN ?_ _) | (with_reducible refine Kd.C_drew ?_)))
     (case side4 => exact (Kd.R_reads' HO_1132000.out).2.1)
     rintro e w44 ⟨v1143, rfl, ho0, hb⟩
     refine ⟨_, rfl, ?_⟩
     replace HO_3 := Aside0.mk (Kd.R_below (zo HO_3) hb)
     have HO1144 := Aside0.mk (Kd.R_lower (Kd.R_new' (Kd.R_new' ho0 (Kd.R_lt (zo HO_1132000))) (Kd.R_lt (zo HO_1136000))) (below_size (zB HB)))
     replace HO_1132000 := Aside0.mk (Kd.R_elder' (zo HO_1132000) (Kd.R_base ho0) hb)
     replace HO_1136000 := Aside0.mk (Kd.R_elder' (zo HO_1136000) (Kd.R_base ho0) hb)
     replace BK1131 := Aside0.mk (blk_below (g := gb1131) (o := .cells #[.slice Ao8 t1128.length co8] 71 (0, 0)) (zb BK1131) hb)
     replace BK1135 := Aside0.mk (blk_below (g := gb1135) (o := .cells #[.slice Ao13 t1132.length co13] 71 (0, 0)) (zb BK1135) hb)
     replace HB := Aside0.mk (below_step (zB HB) hb)
     (try clear hb)
     (try clear hb2)
     (try clear hk)
     (try clear hi)
     (try clear ho0)
     obtain ⟨Ao45, co45, eo45⟩ := Kd.R_slice HO1144.out
     (first | subst eo45 | (injection eo45 with f1_ f2_ f3_; have f4_ := f1_.symm; have f5_ := f3_.symm; clear f1_ f2_ f3_; subst f4_; subst f5_))
     refine hK.out _ _ ⟨(blk_cell BK1135.out 0).trans rfl, (blk_cell BK1131.out 0).trans rfl⟩ (fun hHeld => ?_)
     clear hK K
     refine norm_ (a' := ?_) ?_ ?_
     rotate_left
     ·show Act.put _ (some 36) _ = _
      simp only [Act.put, List.setIfInBounds_toArray, List.set_cons_zero, List.set_cons_succ, i64_w, i32_w]
      rfl
     refine one_ (i := 4) (N := some 37) #[true, true, true, true, true, false] rfl rfl (by kernel_rfl) (by decide) (fun K hK => ?_)
     refine goes_ Try.func49 (by kernel_rfl) rfl #[.agg #[.slice Ao13 t1132.length co13], .agg #[.slice Ao45 t1142.length co45]] (by rfl) rfl rfl zl ?_
     with_reducible refine (laws_equalSignature.calls kj4 _ _ t1132 _ _ t1142 t1145 _ ?side1 ?side2 ?side3 ?side4 A42.out).mono ?_
     (case side1 => repeat (first | exact (Kd.R_reads' HO_1136000.out).2.2 | (with_reducible refine Kd.C_alloc ?_ _) | (with_reducible refine Kd.C_drewN ?_ _) | (with_reducible refine Kd.C_drew ?_)))
     (case side2 => exact (Kd.R_reads' HO_1136000.out).2.1)
     (case side3 => repeat (first | exact (Kd.R_reads' HO1144.out).2.2 | (with_reducible refine Kd.C_alloc ?_ _) | (with_reducible refine Kd.C_drewN ?_ _) | (with_reducible refine Kd.C_drew ?_)))
     (case side4 => exact (Kd.R_reads' HO1144.out).2.1)
     rintro e w46 ⟨rfl, hb⟩
     refine ⟨_, rfl, ?_⟩
     replace HO_3 := Aside0.mk (Kd.R_below (zo HO_3) hb)
     replace HO_1132000 := Aside0.mk (Kd.R_below (zo HO_1132000) hb)
     replace HO_1136000 := Aside0.mk (Kd.R_below (zo HO_1136000) hb)
     replace HO1144 := Aside0.mk (Kd.R_below (zo HO1144) hb)
     replace BK1131 := Aside0.mk (blk_below (g := gb1131) (o := .cells #[.slice Ao8 t1128.length co8] 71 (0, 0)) (zb BK1131) hb)
     replace BK1135 := Aside0.mk (blk_below (g := gb1135) (o := .cells #[.slice Ao13 t1132.length co13] 71 (0, 0)) (zb BK1135) hb)
     replace HB := Aside0.mk (below_step (zB HB) hb)
     (try clear hb)
     (try clear hb2)
     (try clear hk)
     (try clear hi)
     refine hK.out _ _ ⟨(blk_cell BK1135.out 0).trans rfl, (blk_cell BK1131.out 0).trans rfl⟩ (fun hHeld => ?_)
     clear hK K
     refine norm_ (a' := ?_) ?_ ?_
     rotate_left
     ·show Act.put _ (some 37) _ = _
      simp only [Act.put, List.setIfInBounds_toArray, List.set_cons_zero, List.set_cons_succ, i64_w, i32_w]
      rfl
     refine pure_ (i := 5) (N := some 2) (v := ?_) (a' := ?_) #[true, true, true, true, true, true] rfl rfl (by kernel_rfl) (fun _ _ _ h => h) (Or.inl ⟨by rfl, ?_⟩) ?_ ?_
     rotate_left
     ·intro w'
      go_simp
      with_reducible rfl
     rotate_left
     ·simp only [Act.put, List.setIfInBounds_toArray, List.set_cons_zero, List.set_cons_succ, i64_w, i32_w]
      rfl
     refine done_ (by kernel_rfl) ?_
     try go_wp2
     go_ret
     exact ⟨by first | rfl | (simp [errW_none, errW_some] <;> rfl) | (simp [*, errW_none, errW_some] <;> rfl), zB HB⟩
    ·replace c40 := Bool.eq_false_iff.mpr c40
     subst c40
     rw [if_neg (show ¬ (false = true) by decide)] at H
     replace H := Option.bind_eq_some_iff.mp H
     obtain ⟨t1146, A470, H⟩ := H
     (try dsimp only at H)
     have A47 := Aside0.mk A470
     clear A470
     replace H := Option.bind_eq_some_iff.mp H
     obtain ⟨t1149, A480, H⟩ := H
     (try dsimp only at H)
     have A48 := Aside0.mk A480
     clear A480
     replace H := Option.bind_eq_some_iff.mp H
     obtain ⟨t1152, A490, H⟩ := H
     (try dsimp only at H)
     have A49 := Aside0.mk A490
     clear A490
     by_cases c50 : t1152 = true
     ·subst c50
      rw [if_pos rfl] at H
      replace H := Option.bind_eq_some_iff.mp H
      obtain ⟨t1153, A510, H⟩ := H
      (try dsimp only at H)
      have A51 := Aside0.mk A510
      clear A510
      obtain rfl := Option.some.inj H
      try go_wp2
      replace HO_3 := Aside0.mk (Kd.R_drew HO_3.out)
      replace HO_1132000 := Aside0.mk (Kd.R_drew HO_1132000.out)
      replace HO_1136000 := Aside0.mk (Kd.R_drew HO_1136000.out)
      replace BK1131 := Aside0.mk (blk_drew BK1131.out)
      replace BK1135 := Aside0.mk (blk_drew BK1135.out)
      replace HB := Aside0.mk (below_drew1 HB.out)
      refine start_ (n := 11) (S := fun w' => w'.cell? ⟨gb1135, 0, none⟩ = some (.slice Ao13 t1132.length co13) ∧ w'.cell? ⟨gb1131, 0, none⟩ = some (.slice Ao8 t1128.length co8)) (ds := []) #[false, false, false, false, false, false, false, false, false, false, false] (by kernel_rfl) rfl rfl ⟨(blk_cell BK1135.out 0).trans rfl, (blk_cell BK1131.out 0).trans rfl⟩ (fun hHeld => ?_); refine with_tabW laws_FnTurnSignature.tab7 laws_FnTurnSignature.bits7 (fun HT_ HW_ => ?_)
      generalize wc.drew = w52 at HO_3 HO_1132000 HO_1136000 BK1131 BK1135 HB hHeld ⊢
      refine pure_ (i := 0) (N := some 38) (v := ?_) (a' := ?_) #[true, false, false, false, false, false, false, false, false, false, false] rfl rfl (any_of HT_.out (by kernel_rfl)) (fun _ _ _ h => h) (Or.inl ⟨by rfl, ?_⟩) ?_ ?_
      rotate_left
      ·intro w'
       go_simp
       with_reducible rfl
      rotate_left
      ·simp only [Act.put, List.setIfInBounds_toArray, List.set_cons_zero, List.set_cons_succ, i64_w, i32_w]
       rfl
      refine take_ (i := 2) (N := some 40) (v := ?_) (a' := ?_) #[true, false, true, false, false, false, false, false, false, false, false] rfl rfl (take_ofW HT_.out HW_.out (by kernel_rfl)) (fun _ _ _ h => h) (Or.inl ⟨by rfl, ?_⟩) hHeld ?_ ?_
      rotate_left
      ·rintro w' ⟨s0, s1⟩
       go_simp
       with_reducible rfl
      rotate_left
      ·simp only [Act.put, List.setIfInBounds_toArray, List.set_cons_zero, List.set_cons_succ, i64_w, i32_w]
       rfl
      refine take_ (i := 4) (N := some 42) (v := ?_) (a' := ?_) #[true, false, true, false, true, false, false, false, false, false, false] rfl rfl (take_ofW HT_.out HW_.out (by kernel_rfl)) (fun _ _ _ h => h) (Or.inl ⟨by rfl, ?_⟩) hHeld ?_ ?_
      rotate_left
      ·rintro w' ⟨s0, s1⟩
       go_simp
       with_reducible rfl
      rotate_left
      ·simp only [Act.put, List.setIfInBounds_toArray, List.set_cons_zero, List.set_cons_succ, i64_w, i32_w]
       rfl
      refine one_ (i := 1) (N := some 39) #[true, true, true, false, true, false, false, false, false, false, false] rfl rfl (one_of HT_.out (by kernel_rfl)) (by decide) (fun K hK => ?_)
      refine goes_ Try.func42 (by kernel_rfl) rfl #[.slice Ao10 t1125.length co10] (by rfl) rfl rfl zl ?_
      with_reducible refine (impl_TurnBack.calls kj4 _ _ t1125 t1146 _ ?side1 ?side2 A47.out).mono ?_
      (case side1 => repeat (first | exact (Kd.R_reads' HO_3.out).2.2 | (with_reducible refine Kd.C_alloc ?_ _) | (with_reducible refine Kd.C_drewN ?_ _) | (with_reducible refine Kd.C_drew ?_)))
      (case side2 => exact (Kd.R_reads' HO_3.out).2.1)
      rintro e w53 ⟨v1147, rfl, ho0, hb⟩
      refine ⟨_, rfl, ?_⟩
      replace HO_1132000 := Aside0.mk (Kd.R_below (zo HO_1132000) hb)
      replace HO_1136000 := Aside0.mk (Kd.R_below (zo HO_1136000) hb)
      have HO1148 := Aside0.mk (Kd.R_lower (Kd.R_new' ho0 (Kd.R_lt (zo HO_3))) (below_size (zB HB)))
      replace HO_3 := Aside0.mk (Kd.R_elder' (zo HO_3) (Kd.R_base ho0) hb)
      replace BK1131 := Aside0.mk (blk_below (g := gb1131) (o := .cells #[.slice Ao8 t1128.length co8] 71 (0, 0)) (zb BK1131) hb)
      replace BK1135 := Aside0.mk (blk_below (g := gb1135) (o := .cells #[.slice Ao13 t1132.length co13] 71 (0, 0)) (zb BK1135) hb)
      replace HB := Aside0.mk (below_step (zB HB) hb)
      (try clear hb)
      (try clear hb2)
      (try clear hk)
      (try clear hi)
      (try clear ho0)
      obtain ⟨Ao54, co54, eo54⟩ := Kd.R_slice HO1148.out
      (first | subst eo54 | (injection eo54 with f1_ f2_ f3_; have f4_ := f1_.symm; have f5_ := f3_.symm; clear f1_ f2_ f3_; subst f4_; subst f5_))
      refine hK.out _ _ ⟨(blk_cell BK1135.out 0).trans rfl, (blk_cell BK1131.out 0).trans rfl⟩ (fun hHeld => ?_)
      clear hK K
      refine norm_ (a' := ?_) ?_ ?_
      rotate_left
      ·show Act.put _ (some 39) _ = _
       simp only [Act.put, List.setIfInBounds_toArray, List.set_cons_zero, List.set_cons_succ, i64_w, i32_w]
       rfl
      refine one_ (i := 3) (N := some 41) #[true, true, true, true, true, false, false, false, false, false, false] rfl rfl (one_of HT_.out (by kernel_rfl)) (by decide) (fun K hK => ?_)
      refine goes_ Try.func48 (by kernel_rfl) rfl #[.slice Ao54 t1146.length co54, .agg #[.slice Ao13 t1132.length co13]] (by rfl) rfl rfl zl ?_
      with_reducible refine (impl_TurnSignature.calls kj4 _ _ t1146 _ _ t1132 t1149 _ ?side1 ?side2 ?side3 ?side4 A48.out).mono ?_
      (case side1 => repeat (first | exact (Kd.R_reads' HO1148.out).2.2 | (with_reducible refine Kd.C_alloc ?_ _) | (with_reducible refine Kd.C_drewN ?_ _) | (with_reducible refine Kd.C_drew ?_)))
      (case side2 => exact (Kd.R_reads' HO1148.out).2.1)
      (case side3 => repeat (first | exact (Kd.R_reads' HO_1136000.out).2.2 | (with_reducible refine Kd.C_alloc ?_ _) | (with_reducible refine Kd.C_drewN ?_ _) | (with_reducible refine Kd.C_drew ?_)))
      (case side4 => exact (Kd.R_reads' HO_1136000.out).2.1)
      rintro e w55 ⟨v1150, rfl, ho0, hb⟩
      refine ⟨_, rfl, ?_⟩
      replace HO_3 := Aside0.mk (Kd.R_below (zo HO_3) hb)
      replace HO1148 := Aside0.mk (Kd.R_below (zo HO1148) hb)
      have HO1151 := Aside0.mk (Kd.R_lower (Kd.R_new' (Kd.R_new' ho0 (Kd.R_lt (zo HO_1132000))) (Kd.R_lt (zo HO_1136000))) (below_size (zB HB)))
      replace HO_1132000 := Aside0.mk (Kd.R_elder' (zo HO_1132000) (Kd.R_base ho0) hb)
      replace HO_1136000 := Aside0.mk (Kd.R_elder' (zo HO_1136000) (Kd.R_base ho0) hb)
      replace BK1131 := Aside0.mk (blk_below (g := gb1131) (o := .cells #[.slice Ao8 t1128.length co8] 71 (0, 0)) (zb BK1131) hb)
      replace BK1135 := Aside0.mk (blk_below (g := gb1135) (o := .cells #[.slice Ao13 t1132.length co13] 71 (0, 0)) (zb BK1135) hb)
      replace HB := Aside0.mk (below_step (zB HB) hb)
      (try clear hb)
      (try clear hb2)
      (try clear hk)
      (try clear hi)
      (try clear ho0)
      obtain ⟨Ao56, co56, eo56⟩ := Kd.R_slice HO1151.out
      (first | subst eo56 | (injection eo56 with f1_ f2_ f3_; have f4_ := f1_.symm; have f5_ := f3_.symm; clear f1_ f2_ f3_; subst f4_; subst f5_))
      refine hK.out _ _ ⟨(blk_cell BK1135.out 0).trans rfl, (blk_cell BK1131.out 0).trans rfl⟩ (fun hHeld => ?_)
      clear hK K
      refine norm_ (a' := ?_) ?_ ?_
      rotate_left
      ·show Act.put _ (some 41) _ = _
       simp only [Act.put, List.setIfInBounds_toArray, List.set_cons_zero, List.set_cons_succ, i64_w, i32_w]
       rfl
      refine one_ (i := 5) (N := some 43) #[true, true, true, true, true, true, false, false, false, false, false] rfl rfl (one_of HT_.out (by kernel_rfl)) (by decide) (fun K hK => ?_)
      refine goes_ Try.func49 (by kernel_rfl) rfl #[.agg #[.slice Ao56 t1149.length co56], .agg #[.slice Ao8 t1128.length co8]] (by rfl) rfl rfl zl ?_
      with_reducible refine (laws_equalSignature.calls kj4 _ _ t1149 _ _ t1128 true _ ?side1 ?side2 ?side3 ?side4 A49.out).mono ?_
      (case side1 => repeat (first | exact (Kd.R_reads' HO1151.out).2.2 | (with_reducible refine Kd.C_alloc ?_ _) | (with_reducible refine Kd.C_drewN ?_ _) | (with_reducible refine Kd.C_drew ?_)))
      (case side2 => exact (Kd.R_reads' HO1151.out).2.1)
      (case side3 => repeat (first | exact (Kd.R_reads' HO_1132000.out).2.2 | (with_reducible refine Kd.C_alloc ?_ _) | (with_reducible refine Kd.C_drewN ?_ _) | (with_reducible refine Kd.C_drew ?_)))
      (case side4 => exact (Kd.R_reads' HO_1132000.out).2.1)
      rintro e w57 ⟨rfl, hb⟩
      refine ⟨_, rfl, ?_⟩
      replace HO_3 := Aside0.mk (Kd.R_below (zo HO_3) hb)
      replace HO_1132000 := Aside0.mk (Kd.R_below (zo HO_1132000) hb)
      replace HO_1136000 := Aside0.mk (Kd.R_below (zo HO_1136000) hb)
      replace HO1148 := Aside0.mk (Kd.R_below (zo HO1148) hb)
      replace HO1151 := Aside0.mk (Kd.R_below (zo HO1151) hb)
      replace BK1131 := Aside0.mk (blk_below (g := gb1131) (o := .cells #[.slice Ao8 t1128.length co8] 71 (0, 0)) (zb BK1131) hb)
      replace BK1135 := Aside0.mk (blk_below (g := gb1135) (o := .cells #[.slice Ao13 t1132.length co13] 71 (0, 0)) (zb BK1135) hb)
      replace HB := Aside0.mk (below_step (zB HB) hb)
      (try clear hb)
      (try clear hb2)
      (try clear hk)
      (try clear hi)
      refine hK.out _ _ ⟨(blk_cell BK1135.out 0).trans rfl, (blk_cell BK1131.out 0).trans rfl⟩ (fun hHeld => ?_)
      clear hK K
      refine norm_ (a' := ?_) ?_ ?_
      rotate_left
      ·show Act.put _ (some 43) _ = _
       simp only [Act.put, List.setIfInBounds_toArray, List.set_cons_zero, List.set_cons_succ, i64_w, i32_w]
       rfl
      refine pure_ (i := 6) (N := some 44) (v := ?_) (a' := ?_) #[true, true, true, true, true, true, true, false, false, false, false] rfl rfl (any_of HT_.out (by kernel_rfl)) (fun _ _ _ h => h) (Or.inl ⟨by rfl, ?_⟩) ?_ ?_
      rotate_left
      ·intro w'
       go_simp
       with_reducible rfl
      rotate_left
      ·simp only [Act.put, List.setIfInBounds_toArray, List.set_cons_zero, List.set_cons_succ, i64_w, i32_w]
       rfl
      refine take_ (i := 7) (N := some 45) (v := ?_) (a' := ?_) #[true, true, true, true, true, true, true, true, false, false, false] rfl rfl (take_ofW HT_.out HW_.out (by kernel_rfl)) (fun _ _ _ h => h) (Or.inl ⟨by rfl, ?_⟩) hHeld ?_ ?_
      rotate_left
      ·rintro w' ⟨s0, s1⟩
       go_simp
       with_reducible rfl
      rotate_left
      ·simp only [Act.put, List.setIfInBounds_toArray, List.set_cons_zero, List.set_cons_succ, i64_w, i32_w]
       rfl
      refine one_ (i := 8) (N := some 46) #[true, true, true, true, true, true, true, true, true, false, false] rfl rfl (one_of HT_.out (by kernel_rfl)) (by decide) (fun K hK => ?_)
      refine goes_ Try.func51 (by kernel_rfl) rfl #[.agg #[.slice Ao13 t1132.length co13]] (by rfl) rfl rfl zl ?_
      with_reducible refine (impl_ValidSignature.calls kj4 _ _ t1132 t1153 _ ?side1 ?side2 A51.out).mono ?_
      (case side1 => repeat (first | exact (Kd.R_reads' HO_1136000.out).2.2 | (with_reducible refine Kd.C_alloc ?_ _) | (with_reducible refine Kd.C_drewN ?_ _) | (with_reducible refine Kd.C_drew ?_)))
      (case side2 => exact (Kd.R_reads' HO_1136000.out).2.1)
      rintro e w58 ⟨rfl, hb⟩
      refine ⟨_, rfl, ?_⟩
      replace HO_3 := Aside0.mk (Kd.R_below (zo HO_3) hb)
      replace HO_1132000 := Aside0.mk (Kd.R_below (zo HO_1132000) hb)
      replace HO_1136000 := Aside0.mk (Kd.R_below (zo HO_1136000) hb)
      replace HO1148 := Aside0.mk (Kd.R_below (zo HO1148) hb)
      replace HO1151 := Aside0.mk (Kd.R_below (zo HO1151) hb)
      replace BK1131 := Aside0.mk (blk_below (g := gb1131) (o := .cells #[.slice Ao8 t1128.length co8] 71 (0, 0)) (zb BK1131) hb)
      replace BK1135 := Aside0.mk (blk_below (g := gb1135) (o := .cells #[.slice Ao13 t1132.length co13] 71 (0, 0)) (zb BK1135) hb)
      replace HB := Aside0.mk (below_step (zB HB) hb)
      (try clear hb)
      (try clear hb2)
      (try clear hk)
      (try clear hi)
      refine hK.out _ _ ⟨(blk_cell BK1135.out 0).trans rfl, (blk_cell BK1131.out 0).trans rfl⟩ (fun hHeld => ?_)
      clear hK K
      refine norm_ (a' := ?_) ?_ ?_
      rotate_left
      ·show Act.put _ (some 46) _ = _
       simp only [Act.put, List.setIfInBounds_toArray, List.set_cons_zero, List.set_cons_succ, i64_w, i32_w]
       rfl
      refine pure_ (i := 9) (N := some 47) (v := ?_) (a' := ?_) #[true, true, true, true, true, true, true, true, true, true, false] rfl rfl (any_of HT_.out (by kernel_rfl)) (fun _ _ _ h => h) (Or.inl ⟨by rfl, ?_⟩) ?_ ?_
      rotate_left
      ·intro w'
       go_simp
       with_reducible rfl
      rotate_left
      ·simp only [Act.put, List.setIfInBounds_toArray, List.set_cons_zero, List.set_cons_succ, i64_w, i32_w]
       rfl
      refine pure_ (i := 10) (N := some 2) (v := ?_) (a' := ?_) #[true, true, true, true, true, true, true, true, true, true, true] rfl rfl (any_of HT_.out (by kernel_rfl)) (fun _ _ _ h => h) (Or.inl ⟨by rfl, ?_⟩) ?_ ?_
      rotate_left
      ·intro w'
       go_simp
       with_reducible rfl
      rotate_left
      ·simp only [Act.put, List.setIfInBounds_toArray, List.set_cons_zero, List.set_cons_succ, i64_w, i32_w]
       rfl
      refine done_ (done_of HT_.out (by kernel_rfl)) ?_
      try go_wp2
      go_ret
      exact ⟨by first | rfl | (simp [errW_none, errW_some] <;> rfl) | (simp [*, errW_none, errW_some] <;> rfl), zB HB⟩
     ·replace c50 := Bool.eq_false_iff.mpr c50
      subst c50
      rw [if_neg (show ¬ (false = true) by decide)] at H
      obtain rfl := Option.some.inj H
      exact absurd HR_.out (by decide)

/-- THE ONE PURE STATEMENT of laws_FnTurnSignature: yours. -/
def laws_FnTurnSignature.Pure : Prop := ∀ (l0 : List Int), l0.length ≤ maxLen → l0.length * 1 ≤ 140737488351232 → (∀ x ∈ l0, (Lit.int .u8 x).wf = true) → ∃ k, laws_FnTurnSignature.f k l0 = some true
theorem laws_FnTurnSignature.walk (P : laws_FnTurnSignature.Pure) (a0 : Option Addr) (len0 cap0 : Nat) (z0 : List Int) (w : World) (w0 : (a0 = none ∧ len0 = 0 ∧ cap0 = 0 ∧ z0 = []) ∨ ∃ x, a0 = some x ∧ len0 ≤ cap0 ∧ cap0 ≤ maxLen ∧ z0.length = cap0 ∧ (∀ i, i < z0.length → w.cell? (x.add i) = some (.int .u8 (z0.getD i 0))) ∧ ∀ n ∈ z0, (Lit.int .u8 n).wf = true) (y0 : len0 * 1 ≤ 140737488351232) :
  Calls Try.prog 11 #[.slice a0 len0 cap0] w fun e w' => e = .returned (.bool true) ∧ Below w.heap.size w w' := by
 obtain ⟨l0, rfl, hr0, hm0, hw0, hc0⟩ := ReadsInt.ofRowC w0
 obtain ⟨k, h⟩ := P l0 hm0 y0 hw0
 refine (laws_FnTurnSignature.calls k _ _ l0 true w (Kd.C_of_reads (d := (0 : Int)) (h1 := fun _ => rfl) hr0) hc0 h rfl).mono ?_
 rintro e w' ⟨rfl, hd⟩
 exact ⟨rfl, hd⟩

end Go.Proofs.Ytfcpbgedgedalaa.Q
