-- written by px.py (a program of this claim's), over the kit's print. Not trusted: Lean checks it.
import Derived.Test.YtfcpbgedgedalaaQ0
import Derived.Test.YtfcpbgedgedalaaQ20
import Derived.Test.YtfcpbgedgedalaaQ37
import Derived.Test.YtfcpbgedgedalaaQ49
import Derived.Test.YtfcpbgedgedalaaQ70
import Derived.Test.YtfcpbgedgedalaaQ84
import Derived.Test.YtfcpbgedgedalaaQ85
import Derived.Test.YtfcpbgedgedalaaQ87
import Derived.Test.YtfcpbgedgedalaaQ88
namespace Go.Proofs.Ytfcpbgedgedalaa.Q
open Go.RowKit Go.Proofs.YtfcpbgedgedalaaL.PrintWords Go.Proofs.YtfcpbgedgedalaaL.PrintLast Go.Proofs.YtfcpbgedgedalaaL.PrintMore
attribute [local go_sem] max2_int min2_int max_two min_two max_three min_three max_four min_four   -- for this text's walks alone
set_option linter.unusedVariables false
set_option linter.unusedSimpArgs false

/-! ### laws_FnTurnFlat: function 10 -/
def laws_FnTurnFlat.j0 : Nat → List (S107) → Bool → List Int → List (S33) → List Int → List (S33) → Option (Bool)
 | 0, _, _, _, _, _, _ => none
 | k + 1, x3, x32, x926000, x926001, x933000, x933001 => if x32 = true then ((spec_TurnFlat.f k x3 x926000 x926001).bind fun bt942 => ((laws_equalFlat.f k x933000 x933001 bt942.1 bt942.2).bind fun t948 => (some t948))) else ((impl_TurnBack.f k x3).bind fun t949 => ((impl_TurnFlat.f k t949 x933000 x933001).bind fun bt952 => ((laws_equalFlat.f k bt952.1 bt952.2 x926000 x926001).bind fun t958 => (if t958 = true then ((impl_ValidFlat.f k x933000 x933001).bind fun t959 => (if t959 = true then ((laws_size.f x933000 x933001).bind fun t960 => ((laws_size.f x926000 x926001).bind fun t961 => (some (t960 == t961)))) else (some false))) else (some false)))))
def laws_FnTurnFlat.f (k : Nat) (l0 : List Int) : Option (Bool) := if (l0.length : Int) > 1048576 then (some true) else ((spec_DrawTurnFlat.f k l0).bind fun bt916 => ((impl_TurnFlat.f k bt916.1 bt916.2.1 bt916.2.2).bind fun bt926 => ((spec_TurnFlat.f k bt916.1 bt916.2.1 bt916.2.2).bind fun bt933 => ((laws_equalFlat.f k bt926.1 bt926.2 bt933.1 bt933.2).bind fun t939 => (if t939 = true then ((impl_ValidTurns.f bt916.1).bind fun t940 => (if t940 = true then ((impl_ValidFlat.f k bt916.2.1 bt916.2.2).bind fun t941 => (laws_FnTurnFlat.j0 k bt916.1 (!t941) bt916.2.1 bt916.2.2 bt926.1 bt926.2)) else (laws_FnTurnFlat.j0 k bt916.1 true bt916.2.1 bt916.2.2 bt926.1 bt926.2))) else (laws_FnTurnFlat.j0 k bt916.1 true bt916.2.1 bt916.2.2 bt926.1 bt926.2))))))
theorem laws_FnTurnFlat.mono_l : ∀ k, (∀ y0 y1 y2 y3 y4 y5, LeO (laws_FnTurnFlat.j0 k y0 y1 y2 y3 y4 y5) (laws_FnTurnFlat.j0 (k + 1) y0 y1 y2 y3 y4 y5))
 | 0 => fun _ _ _ _ _ _ r h => by simp [laws_FnTurnFlat.j0] at h
 | k + 1 => by
  have ih0 := laws_FnTurnFlat.mono_l k
  ·intro y0 y1 y2 y3 y4 y5
   unfold laws_FnTurnFlat.j0
   repeat' first
   | (with_reducible exact ih0 _ _ _ _ _ _)
   | (with_reducible exact impl_TurnBack.mono _ _)
   | (with_reducible exact impl_TurnFlat.mono _ _ _ _)
   | (with_reducible exact impl_ValidFlat.mono _ _ _)
   | (with_reducible exact laws_equalFlat.mono _ _ _ _ _)
   | (with_reducible exact spec_DrawTurnFlat.mono _ _)
   | (with_reducible exact spec_TurnFlat.mono _ _ _ _)
   | (with_reducible exact LeO.refl _)
   | (with_reducible exact LeO.none _)
   | (with_reducible refine LeO.ite ?_ ?_)
   | (with_reducible refine LeO.bind ?_ (fun _ => ?_))
   | exact ih0 _ _ _ _ _ _
   | exact impl_TurnBack.mono _ _
   | exact impl_TurnFlat.mono _ _ _ _
   | exact impl_ValidFlat.mono _ _ _
   | exact laws_equalFlat.mono _ _ _ _ _
   | exact spec_DrawTurnFlat.mono _ _
   | exact spec_TurnFlat.mono _ _ _ _
   | exact LeO.none _
   | refine LeO.ite ?_ ?_
   | refine LeO.bind ?_ (fun _ => ?_)
theorem laws_FnTurnFlat.mono : ∀ a0 k, LeO (laws_FnTurnFlat.f k a0) (laws_FnTurnFlat.f (k + 1) a0) := by
 intro a0 k
 have ih0 := laws_FnTurnFlat.mono_l k
 unfold laws_FnTurnFlat.f
 repeat' first
   | (with_reducible exact ih0 _ _ _ _ _ _)
   | (with_reducible exact impl_TurnBack.mono _ _)
   | (with_reducible exact impl_TurnFlat.mono _ _ _ _)
   | (with_reducible exact impl_ValidFlat.mono _ _ _)
   | (with_reducible exact laws_equalFlat.mono _ _ _ _ _)
   | (with_reducible exact spec_DrawTurnFlat.mono _ _)
   | (with_reducible exact spec_TurnFlat.mono _ _ _ _)
   | (with_reducible exact LeO.refl _)
   | (with_reducible exact LeO.none _)
   | (with_reducible refine LeO.ite ?_ ?_)
   | (with_reducible refine LeO.bind ?_ (fun _ => ?_))
   | exact ih0 _ _ _ _ _ _
   | exact impl_TurnBack.mono _ _
   | exact impl_TurnFlat.mono _ _ _ _
   | exact impl_ValidFlat.mono _ _ _
   | exact laws_equalFlat.mono _ _ _ _ _
   | exact spec_DrawTurnFlat.mono _ _
   | exact spec_TurnFlat.mono _ _ _ _
   | exact LeO.none _
   | refine LeO.ite ?_ ?_
   | refine LeO.bind ?_ (fun _ => ?_)
def laws_FnTurnFlat.T5 : Bool × List (List Nat × List Nat) := (true, [([], []), ([], []), ([], []), ([1, 2], [1, 2]), ([0, 3, 3], [0, 3]), ([4], [4]), ([5, 4], [5]), ([6], [6]), ([7, 6, 6], [6, 7]), ([8, 6], [6, 8]), ([6, 9], [6, 9]), ([10, 8], [10]), ([11], [11]), ([12, 11, 11], [11, 12]), ([13, 11], [11, 13]), ([11, 14], [11, 14])])
def laws_FnTurnFlat.B5 : List Nat := [0, 0, 0, 6, 15, 31, 63, 127, 255, 511, 1023, 2047, 4095, 8191, 16383, 32767]
theorem laws_FnTurnFlat.tab5 : rtab .any (opsOf Try.f10 5) = laws_FnTurnFlat.T5 := by kernel_rfl
theorem laws_FnTurnFlat.bits5 : waitsOk laws_FnTurnFlat.T5.2 laws_FnTurnFlat.B5 = true := by kernel_rfl
def laws_FnTurnFlat.T7 : Bool × List (List Nat × List Nat) := (true, [([], []), ([0], [0]), ([], []), ([1, 2, 1], [1, 2]), ([], []), ([3, 4, 3], [3, 4]), ([5, 5], [5]), ([6], [6]), ([7, 6, 6], [6, 7]), ([6, 8], [6, 8]), ([9, 8], [9]), ([10], [10]), ([11, 10, 10], [10, 11]), ([10], [10]), ([13, 12, 10], [10, 13]), ([12, 14, 10], [10, 12, 14]), ([10, 15], [10, 15]), ([16, 14, 0, 1, 2, 3, 4, 5, 6, 7, 8, 9, 10, 11, 12, 13, 14, 15, 16], [16])])
def laws_FnTurnFlat.B7 : List Nat := [0, 1, 0, 7, 0, 31, 63, 127, 255, 511, 1023, 2047, 4095, 2047, 16383, 32767, 65535, 131071]
theorem laws_FnTurnFlat.tab7 : rtab .any (opsOf Try.f10 7) = laws_FnTurnFlat.T7 := by kernel_rfl
theorem laws_FnTurnFlat.bits7 : waitsOk laws_FnTurnFlat.T7.2 laws_FnTurnFlat.B7 = true := by kernel_rfl
set_option maxHeartbeats 8000000 in
set_option maxRecDepth 100000 in
theorem laws_FnTurnFlat.calls (k : Nat) (A0 : Option Addr) (c0 : Nat) (l0 : List Int) (r : Bool) (w : World) (hr0 : Kd.C (Kd.int .u8) w A0 l0.length l0) (hc0 : l0.length ≤ c0) (h : laws_FnTurnFlat.f k l0 = some r) (hr_ : r = true) :
  Calls Try.prog 10 #[.slice A0 l0.length c0] w fun e w' => e = .returned (.bool r) ∧ Below w.heap.size w w' := by
 have hu26 := Try.underlying26
 have HR_ := Aside0.mk hr_
 clear hr_
 have HR0 := Aside0.mk hr0
 have HC0 := Aside0.mk hc0
 clear hr0 hc0
 have HB := Aside0.mk (Below.refl w.heap.size w)
 have H : (if (l0.length : Int) > 1048576 then (some true) else ((spec_DrawTurnFlat.f k l0).bind fun bt916 => ((impl_TurnFlat.f k bt916.1 bt916.2.1 bt916.2.2).bind fun bt926 => ((spec_TurnFlat.f k bt916.1 bt916.2.1 bt916.2.2).bind fun bt933 => ((laws_equalFlat.f k bt926.1 bt926.2 bt933.1 bt933.2).bind fun t939 => (if t939 = true then ((impl_ValidTurns.f bt916.1).bind fun t940 => (if t940 = true then ((impl_ValidFlat.f k bt916.2.1 bt916.2.2).bind fun t941 => (laws_FnTurnFlat.j0 k bt916.1 (!t941) bt916.2.1 bt916.2.2 bt926.1 bt926.2)) else (laws_FnTurnFlat.j0 k bt916.1 true bt916.2.1 bt916.2.2 bt926.1 bt926.2))) else (laws_FnTurnFlat.j0 k bt916.1 true bt916.2.1 bt916.2.2 bt926.1 bt926.2))))))) = some r := h
 clear h
 by_cases c2 : (l0.length : Int) > 1048576
 ·rw [if_pos c2] at H
  have c2b0 : decide (1048576 < (l0.length : Int)) = true := decide_eq_true c2
  have c2b1 : decide (1048576 < l0.length) = true := decide_eq_true (by omega)
  clear c2
  obtain rfl := Option.some.inj H
  go_enter Try.func10, Try.ntmps10
  go_wp2
  go_ret
  exact ⟨by first | rfl | (simp [errW_none, errW_some] <;> rfl) | (simp [*, errW_none, errW_some] <;> rfl), by repeat (first | (with_reducible first | exact HB.out | apply below_alloc | apply pw_below_drewN | apply below_drew1) | exact HB.out)⟩
 ·rw [if_neg c2] at H
  have c2b0 : decide (1048576 < (l0.length : Int)) = false := decide_eq_false c2
  have c2b1 : decide (1048576 < l0.length) = false := decide_eq_false (by omega)
  clear c2
  replace H := Option.bind_eq_some_iff.mp H
  obtain ⟨⟨t916, t919, t922⟩, A30, H⟩ := H
  replace H : ((impl_TurnFlat.f k t916 t919 t922).bind fun bt926 => ((spec_TurnFlat.f k t916 t919 t922).bind fun bt933 => ((laws_equalFlat.f k bt926.1 bt926.2 bt933.1 bt933.2).bind fun t939 => (if t939 = true then ((impl_ValidTurns.f t916).bind fun t940 => (if t940 = true then ((impl_ValidFlat.f k t919 t922).bind fun t941 => (laws_FnTurnFlat.j0 k t916 (!t941) t919 t922 bt926.1 bt926.2)) else (laws_FnTurnFlat.j0 k t916 true t919 t922 bt926.1 bt926.2))) else (laws_FnTurnFlat.j0 k t916 true t919 t922 bt926.1 bt926.2))))) = some r := H
  have A3 := Aside0.mk A30
  clear A30
  replace H := Option.bind_eq_some_iff.mp H
  obtain ⟨⟨t926, t929⟩, A40, H⟩ := H
  replace H : ((spec_TurnFlat.f k t916 t919 t922).bind fun bt933 => ((laws_equalFlat.f k t926 t929 bt933.1 bt933.2).bind fun t939 => (if t939 = true then ((impl_ValidTurns.f t916).bind fun t940 => (if t940 = true then ((impl_ValidFlat.f k t919 t922).bind fun t941 => (laws_FnTurnFlat.j0 k t916 (!t941) t919 t922 t926 t929)) else (laws_FnTurnFlat.j0 k t916 true t919 t922 t926 t929))) else (laws_FnTurnFlat.j0 k t916 true t919 t922 t926 t929)))) = some r := H
  have A4 := Aside0.mk A40
  clear A40
  have HC5 := Aside0.mk H
  clear H
  go_enter Try.func10, Try.ntmps10
  go_upto_region 5 with (first | ((with_reducible refine gate_callee (f := 44) rfl ?_); refine goesL_ (some 11) rfl rfl Try.func44 (by kernel_rfl) rfl #[.slice A0 l0.length c0] rfl zl ?_; (with_reducible refine (spec_DrawTurnFlat.calls k _ _ l0 t916 t919 t922 _ ?side1 ?side2 A3.out).mono ?_); (case side1 => repeat (first | exact HR0.out | (with_reducible refine Kd.C_alloc ?_ _) | (with_reducible refine Kd.C_drewN ?_ _) | (with_reducible refine Kd.C_drew ?_))); (case side2 => exact HC0.out); rintro e w6 ⟨v917, v920, v923, rfl, ho0, ho1, ho2, hb⟩; refine ⟨_, rfl, ?_⟩; have n0_ := Aside0.mk (Kd.R_lower ho0 (below_size (zB HB))); have n1_ := Aside0.mk (Kd.R_lower ho1 (below_size (zB HB))); have n2_ := Aside0.mk (Kd.R_lower ho2 (below_size (zB HB))); have n3_ := Aside0.mk (below_step (zB HB) hb); clear HB; have HO918 := n0_; have HO921 := n1_; have HO924 := n2_; have HB := n3_; clear n0_ n1_ n2_ n3_; (try clear hb); (try clear hb2); (try clear hk); (try clear hi); (try clear ho0); (try clear ho1); (try clear ho2)) | ((with_reducible refine gate_dst (N := 4) rfl ?_); refine box_event ?hg (N := 4) ?hd (cs := #[.slice none 0 0, .slice none 0 0]) (t := 26) ?hr ?_; (case hd => rfl); (case hg => rfl); (case hr => first | (go_simp; done) | (go_simp; rfl)); intro gb925 hg w7 hbox hb; have n0_ := Aside0.mk (Kd.R_below (zo HO918) hb); have n1_ := Aside0.mk (Kd.R_below (zo HO921) hb); have n2_ := Aside0.mk (Kd.R_below (zo HO924) hb); have n3_ := Aside0.mk (below_step (zB HB) hb); have n4_ := Aside0.mk (hbox); have n5_ := Aside0.mk ((by rw [hg]; exact (below_size (zB HB)) : w.heap.size ≤ gb925)); have n6_ := Aside0.mk ((by rw [hg]; exact (below_size (zB HB)) : w.heap.size ≤ gb925)); clear HO918; clear HO921; clear HO924; clear HB; have HO918 := n0_; have HO921 := n1_; have HO924 := n2_; have HB := n3_; have BK925 := n4_; have GW925 := n5_; have GE925 := n6_; clear n0_ n1_ n2_ n3_ n4_ n5_ n6_; clear hb hbox hg; obtain ⟨Ao8, co8, eo8⟩ := Kd.R_slice HO921.out; subst eo8; have hcz9_0 : w7.cell? ⟨gb925, 0, none⟩ = some (.slice none 0 0) := (blk_cell BK925.out 0).trans rfl; have hcz9_1 : w7.cell? ⟨gb925, 1, none⟩ = some (.slice none 0 0) := (blk_cell BK925.out 1).trans rfl; have hfz9_0 := blk_frozen BK925.out 0; have hfz9_1 := blk_frozen BK925.out 1; obtain ⟨Ao10, co10, eo10⟩ := Kd.R_slice HO924.out; subst eo10; obtain ⟨Ao11, co11, eo11⟩ := Kd.R_slice HO918.out; subst eo11) | ((with_reducible refine gate_callee (f := 43) rfl ?_); refine goesL_ (some 16) rfl rfl Try.func43 (by kernel_rfl) rfl #[.slice Ao11 t916.length co11, .agg #[.slice Ao8 t919.length co8, .slice Ao10 t922.length co10]] rfl zl ?_; (with_reducible refine (impl_TurnFlat.calls k _ _ t916 _ _ t919 _ _ t922 t926 t929 _ ?side1 ?side2 ?side3 ?side4 ?side5 ?side6 A4.out).mono ?_); (case side1 => refine (Kd.R_reads' (e := 107) (base := w.heap.size) (ok := fun k_ => True) (n := t916.length) (c := co11) ?_).2.2; exact (by (with_reducible repeat (first | apply Kd.R_alloc | apply Kd.R_drewN | apply Kd.R_drew)); exact (Kd.R_mono (Kd.R_far (p := ⟨gb925, 1, none⟩) (Kd.R_far (p := ⟨gb925, 0, none⟩) (Kd.R_types HO918.out BK925.out (by decide)) (fun _ hk => hk.2) (.slice Ao8 t919.length co8)) (fun _ hk => hk.2) (.slice Ao10 t922.length co10)) (fun _ h_ => h_.1)))); (case side2 => exact (Kd.R_reads' HO918.out).2.1); (case side3 => refine (Kd.R_reads' (e := 3) (base := w.heap.size) (ok := fun k_ => True) (n := t919.length) (c := co8) ?_).2.2; exact (by (with_reducible repeat (first | apply Kd.R_alloc | apply Kd.R_drewN | apply Kd.R_drew)); exact (Kd.R_mono (Kd.R_far (p := ⟨gb925, 1, none⟩) (Kd.R_far (p := ⟨gb925, 0, none⟩) (Kd.R_types HO921.out BK925.out (by decide)) (fun _ hk => hk.2) (.slice Ao8 t919.length co8)) (fun _ hk => hk.2) (.slice Ao10 t922.length co10)) (fun _ h_ => h_.1)))); (case side4 => exact (Kd.R_reads' HO921.out).2.1); (case side5 => refine (Kd.R_reads' (e := 33) (base := w.heap.size) (ok := fun k_ => True) (n := t922.length) (c := co10) ?_).2.2; exact (by (with_reducible repeat (first | apply Kd.R_alloc | apply Kd.R_drewN | apply Kd.R_drew)); exact (Kd.R_mono (Kd.R_far (p := ⟨gb925, 1, none⟩) (Kd.R_far (p := ⟨gb925, 0, none⟩) (Kd.R_types HO924.out BK925.out (by decide)) (fun _ hk => hk.2) (.slice Ao8 t919.length co8)) (fun _ hk => hk.2) (.slice Ao10 t922.length co10)) (fun _ h_ => h_.1)))); (case side6 => exact (Kd.R_reads' HO924.out).2.1); rintro e w12 ⟨v927, v930, rfl, ho0, ho1, hb⟩; refine ⟨_, rfl, ?_⟩; have n0_ := Aside0.mk (Kd.R_below (by (with_reducible repeat (first | apply Kd.R_alloc | apply Kd.R_drewN | apply Kd.R_drew)); exact (Kd.R_mono (Kd.R_far (p := ⟨gb925, 1, none⟩) (Kd.R_far (p := ⟨gb925, 0, none⟩) (Kd.R_types HO918.out BK925.out (by decide)) (fun _ hk => hk.2) (.slice Ao8 t919.length co8)) (fun _ hk => hk.2) (.slice Ao10 t922.length co10)) (fun _ h_ => h_.1))) hb); have n1_ := Aside0.mk (Kd.R_elder' (by (with_reducible repeat (first | apply Kd.R_alloc | apply Kd.R_drewN | apply Kd.R_drew)); exact (Kd.R_mono (Kd.R_far (p := ⟨gb925, 1, none⟩) (Kd.R_far (p := ⟨gb925, 0, none⟩) (Kd.R_types HO921.out BK925.out (by decide)) (fun _ hk => hk.2) (.slice Ao8 t919.length co8)) (fun _ hk => hk.2) (.slice Ao10 t922.length co10)) (fun _ h_ => h_.1))) (Kd.R_base ho0) hb); have n2_ := Aside0.mk (Kd.R_elder' (by (with_reducible repeat (first | apply Kd.R_alloc | apply Kd.R_drewN | apply Kd.R_drew)); exact (Kd.R_mono (Kd.R_far (p := ⟨gb925, 1, none⟩) (Kd.R_far (p := ⟨gb925, 0, none⟩) (Kd.R_types HO924.out BK925.out (by decide)) (fun _ hk => hk.2) (.slice Ao8 t919.length co8)) (fun _ hk => hk.2) (.slice Ao10 t922.length co10)) (fun _ h_ => h_.1))) (Kd.R_base ho1) hb); have n3_ := Aside0.mk (Kd.R_lower (Kd.R_new' ho0 (Kd.R_lt (by (with_reducible repeat (first | apply Kd.R_alloc | apply Kd.R_drewN | apply Kd.R_drew)); exact (Kd.R_mono (Kd.R_far (p := ⟨gb925, 1, none⟩) (Kd.R_far (p := ⟨gb925, 0, none⟩) (Kd.R_types HO921.out BK925.out (by decide)) (fun _ hk => hk.2) (.slice Ao8 t919.length co8)) (fun _ hk => hk.2) (.slice Ao10 t922.length co10)) (fun _ h_ => h_.1))))) (below_size (zB HB))); have n4_ := Aside0.mk (Kd.R_lower (Kd.R_new' ho1 (Kd.R_lt (by (with_reducible repeat (first | apply Kd.R_alloc | apply Kd.R_drewN | apply Kd.R_drew)); exact (Kd.R_mono (Kd.R_far (p := ⟨gb925, 1, none⟩) (Kd.R_far (p := ⟨gb925, 0, none⟩) (Kd.R_types HO924.out BK925.out (by decide)) (fun _ hk => hk.2) (.slice Ao8 t919.length co8)) (fun _ hk => hk.2) (.slice Ao10 t922.length co10)) (fun _ h_ => h_.1))))) (below_size (zB HB))); have n5_ := Aside0.mk (blk_below (g := gb925) (o := .cells #[.slice Ao8 t919.length co8, .slice Ao10 t922.length co10] 26 (0, 0)) (by (with_reducible repeat (first | refine blk_drewN ?_ _ | refine blk_drew ?_ | refine blk_alloc ?_ _)); refine blk_put (cs := #[.slice Ao8 t919.length co8, .slice none 0 0]) ?_ 1 _ rfl; (with_reducible repeat (first | refine blk_drewN ?_ _ | refine blk_drew ?_ | refine blk_alloc ?_ _)); refine blk_put (cs := #[.slice none 0 0, .slice none 0 0]) ?_ 0 _ rfl; (with_reducible repeat (first | refine blk_drewN ?_ _ | refine blk_drew ?_ | refine blk_alloc ?_ _)); exact BK925.out) hb); have n6_ := Aside0.mk (below_step (zB HB) hb); clear HO918; clear HO921; clear HO924; clear BK925; clear HB; have HO918 := n0_; have HO921 := n1_; have HO924 := n2_; have HO928 := n3_; have HO931 := n4_; have BK925 := n5_; have HB := n6_; clear n0_ n1_ n2_ n3_ n4_ n5_ n6_; (try clear hb); (try clear hb2); (try clear hk); (try clear hi); (try clear ho0); (try clear ho1)) | ((with_reducible refine gate_dst (N := 5) rfl ?_); refine box_event ?hg (N := 5) ?hd (cs := #[.slice none 0 0, .slice none 0 0]) (t := 26) ?hr ?_; (case hd => rfl); (case hg => rfl); (case hr => first | (go_simp; done) | (go_simp; rfl)); intro gb932 hg w13 hbox hb; have n0_ := Aside0.mk (Kd.R_below (zo HO918) hb); have n1_ := Aside0.mk (Kd.R_below (zo HO921) hb); have n2_ := Aside0.mk (Kd.R_below (zo HO924) hb); have n3_ := Aside0.mk (Kd.R_below (zo HO928) hb); have n4_ := Aside0.mk (Kd.R_below (zo HO931) hb); have n5_ := Aside0.mk (blk_below (g := gb925) (o := .cells #[.slice Ao8 t919.length co8, .slice Ao10 t922.length co10] 26 (0, 0)) (zb BK925) hb); have n6_ := Aside0.mk (below_step (zB HB) hb); have n7_ := Aside0.mk (hbox); have n8_ := Aside0.mk ((by rw [hg]; exact (below_size (zB HB)) : w.heap.size ≤ gb932)); have n9_ := Aside0.mk ((by rw [hg]; exact (below_size (zB HB)) : w.heap.size ≤ gb932)); have n10_ := Aside0.mk ((by rw [hg]; exact Nat.ne_of_lt (blk_lt (g := gb925) (o := .cells #[.slice Ao8 t919.length co8, .slice Ao10 t922.length co10] 26 (0, 0)) (zb BK925)) : gb925 ≠ gb932)); have n11_ := Aside0.mk ((by rw [hg]; exact Nat.ne_of_gt (blk_lt (g := gb925) (o := .cells #[.slice Ao8 t919.length co8, .slice Ao10 t922.length co10] 26 (0, 0)) (zb BK925)) : gb932 ≠ gb925)); clear HO918; clear HO921; clear HO924; clear HO928; clear HO931; clear BK925; clear HB; have HO918 := n0_; have HO921 := n1_; have HO924 := n2_; have HO928 := n3_; have HO931 := n4_; have BK925 := n5_; have HB := n6_; have BK932 := n7_; have GW932 := n8_; have GE932 := n9_; have NB925_932 := n10_; have NB932_925 := n11_; clear n0_ n1_ n2_ n3_ n4_ n5_ n6_ n7_ n8_ n9_ n10_ n11_; clear hb hbox hg; obtain ⟨Ao14, co14, eo14⟩ := Kd.R_slice HO928.out; subst eo14; have hnb15 := NB932_925.out; have hnc15 := NB925_932.out; have hcz16_0 : w13.cell? ⟨gb932, 0, none⟩ = some (.slice none 0 0) := (blk_cell BK932.out 0).trans rfl; have hcz16_1 : w13.cell? ⟨gb932, 1, none⟩ = some (.slice none 0 0) := (blk_cell BK932.out 1).trans rfl; have hfz16_0 := blk_frozen BK932.out 0; have hfz16_1 := blk_frozen BK932.out 1; obtain ⟨Ao17, co17, eo17⟩ := Kd.R_slice HO931.out; subst eo17))
  (try simp only [Act.put, List.setIfInBounds_toArray, List.set_cons_zero, List.set_cons_succ])
  go_cut [32] (fun v32 wc => ∃ (kq : Nat) (x32_4 : Bool), v32 = .bool x32_4 ∧ Aside0 (laws_FnTurnFlat.j0 kq t916 x32_4 t919 t922 t926 t929 = some r) ∧ Aside0 (kq ≤ k) ∧ Aside0 (Kd.R k107 107 wc w.heap.size (fun _ => True) (.slice Ao11 t916.length co11) t916) ∧ Aside0 (Kd.R (Kd.int .i64) 3 wc w.heap.size (fun k_ => some k_ ≠ ((.slice Ao14 t926.length co14) : Value).ownBlock) (.slice Ao8 t919.length co8) t919) ∧ Aside0 (Kd.R k33 33 wc w.heap.size (fun k_ => some k_ ≠ ((.slice Ao17 t929.length co17) : Value).ownBlock) (.slice Ao10 t922.length co10) t922) ∧ Aside0 (Kd.R (Kd.int .i64) 3 wc w.heap.size (fun k_ => some k_ ≠ ((.slice Ao8 t919.length co8) : Value).ownBlock) (.slice Ao14 t926.length co14) t926) ∧ Aside0 (Kd.R k33 33 wc w.heap.size (fun k_ => some k_ ≠ ((.slice Ao10 t922.length co10) : Value).ownBlock) (.slice Ao17 t929.length co17) t929) ∧ Aside0 (wc.heap[gb925]? = some (.cells #[(.slice Ao8 t919.length co8), (.slice Ao10 t922.length co10)] 26 (0, 0))) ∧ Aside0 (wc.heap[gb932]? = some (.cells #[(.slice Ao14 t926.length co14), (.slice Ao17 t929.length co17)] 26 (0, 0))) ∧ Aside0 (Below w.heap.size w wc))
  case first =>
   have H := HC5.out
   clear HC5
   replace H := Option.bind_eq_some_iff.mp H
   obtain ⟨⟨t933, t936⟩, A180, H⟩ := H
   replace H : ((laws_equalFlat.f k t926 t929 t933 t936).bind fun t939 => (if t939 = true then ((impl_ValidTurns.f t916).bind fun t940 => (if t940 = true then ((impl_ValidFlat.f k t919 t922).bind fun t941 => (laws_FnTurnFlat.j0 k t916 (!t941) t919 t922 t926 t929)) else (laws_FnTurnFlat.j0 k t916 true t919 t922 t926 t929))) else (laws_FnTurnFlat.j0 k t916 true t919 t922 t926 t929))) = some r := H
   have A18 := Aside0.mk A180
   clear A180
   replace H := Option.bind_eq_some_iff.mp H
   obtain ⟨t939, A190, H⟩ := H
   replace H : (if t939 = true then ((impl_ValidTurns.f t916).bind fun t940 => (if t940 = true then ((impl_ValidFlat.f k t919 t922).bind fun t941 => (laws_FnTurnFlat.j0 k t916 (!t941) t919 t922 t926 t929)) else (laws_FnTurnFlat.j0 k t916 true t919 t922 t926 t929))) else (laws_FnTurnFlat.j0 k t916 true t919 t922 t926 t929)) = some r := H
   have A19 := Aside0.mk A190
   clear A190
   by_cases c20 : t939 = true
   ·subst c20
    have H1 : ((impl_ValidTurns.f t916).bind fun t940 => (if t940 = true then ((impl_ValidFlat.f k t919 t922).bind fun t941 => (laws_FnTurnFlat.j0 k t916 (!t941) t919 t922 t926 t929)) else (laws_FnTurnFlat.j0 k t916 true t919 t922 t926 t929))) = some r := by rw [if_pos rfl] at H; exact H
    clear H
    have H := H1
    clear H1
    replace H := Option.bind_eq_some_iff.mp H
    obtain ⟨t940, A210, H⟩ := H
    replace H : (if t940 = true then ((impl_ValidFlat.f k t919 t922).bind fun t941 => (laws_FnTurnFlat.j0 k t916 (!t941) t919 t922 t926 t929)) else (laws_FnTurnFlat.j0 k t916 true t919 t922 t926 t929)) = some r := H
    have A21 := Aside0.mk A210
    clear A210
    by_cases c22 : t940 = true
    ·subst c22
     have H1 : ((impl_ValidFlat.f k t919 t922).bind fun t941 => (laws_FnTurnFlat.j0 k t916 (!t941) t919 t922 t926 t929)) = some r := by rw [if_pos rfl] at H; exact H
     clear H
     have H := H1
     clear H1
     replace H := Option.bind_eq_some_iff.mp H
     obtain ⟨t941, A230, H⟩ := H
     replace H : (laws_FnTurnFlat.j0 k t916 (!t941) t919 t922 t926 t929) = some r := H
     have A23 := Aside0.mk A230
     clear A230
     have H' := Aside0.mk H
     clear H
     try go_wp2
     have n0_ : Aside0 (Kd.R k107 107 ((w13.setCell ⟨gb932, 0, none⟩ (.slice Ao14 t926.length co14)).setCell ⟨gb932, 1, none⟩ (.slice Ao17 t929.length co17)) w.heap.size (fun _ => True) (.slice Ao11 t916.length co11) t916) := ⟨by (with_reducible repeat (first | apply Kd.R_alloc | apply Kd.R_drewN | apply Kd.R_drew)); exact Kd.R_mono (Kd.R_far (p := ⟨gb932, 1, none⟩) (Kd.R_far (p := ⟨gb932, 0, none⟩) (Kd.R_types HO918.out BK932.out (by decide)) (fun _ hk => hk.2) (.slice Ao14 t926.length co14)) (fun _ hk => hk.2) (.slice Ao17 t929.length co17)) (fun _ hk => trivial)⟩
     have n1_ : Aside0 (Kd.R (Kd.int .i64) 3 ((w13.setCell ⟨gb932, 0, none⟩ (.slice Ao14 t926.length co14)).setCell ⟨gb932, 1, none⟩ (.slice Ao17 t929.length co17)) w.heap.size (fun k_ => some k_ ≠ (.slice Ao14 t926.length co14 : Value).ownBlock) (.slice Ao8 t919.length co8) t919) := ⟨by (with_reducible repeat (first | apply Kd.R_alloc | apply Kd.R_drewN | apply Kd.R_drew)); exact Kd.R_mono (Kd.R_far (p := ⟨gb932, 1, none⟩) (Kd.R_far (p := ⟨gb932, 0, none⟩) (Kd.R_types HO921.out BK932.out (by decide)) (fun _ hk => hk.2) (.slice Ao14 t926.length co14)) (fun _ hk => hk.2) (.slice Ao17 t929.length co17)) (fun _ hk => hk.1.2)⟩
     have n2_ : Aside0 (Kd.R k33 33 ((w13.setCell ⟨gb932, 0, none⟩ (.slice Ao14 t926.length co14)).setCell ⟨gb932, 1, none⟩ (.slice Ao17 t929.length co17)) w.heap.size (fun k_ => some k_ ≠ (.slice Ao17 t929.length co17 : Value).ownBlock) (.slice Ao10 t922.length co10) t922) := ⟨by (with_reducible repeat (first | apply Kd.R_alloc | apply Kd.R_drewN | apply Kd.R_drew)); exact Kd.R_mono (Kd.R_far (p := ⟨gb932, 1, none⟩) (Kd.R_far (p := ⟨gb932, 0, none⟩) (Kd.R_types HO924.out BK932.out (by decide)) (fun _ hk => hk.2) (.slice Ao14 t926.length co14)) (fun _ hk => hk.2) (.slice Ao17 t929.length co17)) (fun _ hk => hk.1.2)⟩
     have n3_ : Aside0 (Kd.R (Kd.int .i64) 3 ((w13.setCell ⟨gb932, 0, none⟩ (.slice Ao14 t926.length co14)).setCell ⟨gb932, 1, none⟩ (.slice Ao17 t929.length co17)) w.heap.size (fun k_ => some k_ ≠ (.slice Ao8 t919.length co8 : Value).ownBlock) (.slice Ao14 t926.length co14) t926) := ⟨by (with_reducible repeat (first | apply Kd.R_alloc | apply Kd.R_drewN | apply Kd.R_drew)); exact Kd.R_mono (Kd.R_far (p := ⟨gb932, 1, none⟩) (Kd.R_far (p := ⟨gb932, 0, none⟩) (Kd.R_types HO928.out BK932.out (by decide)) (fun _ hk => hk.2) (.slice Ao14 t926.length co14)) (fun _ hk => hk.2) (.slice Ao17 t929.length co17)) (fun _ hk => hk.1.2)⟩
     have n4_ : Aside0 (Kd.R k33 33 ((w13.setCell ⟨gb932, 0, none⟩ (.slice Ao14 t926.length co14)).setCell ⟨gb932, 1, none⟩ (.slice Ao17 t929.length co17)) w.heap.size (fun k_ => some k_ ≠ (.slice Ao10 t922.length co10 : Value).ownBlock) (.slice Ao17 t929.length co17) t929) := ⟨by (with_reducible repeat (first | apply Kd.R_alloc | apply Kd.R_drewN | apply Kd.R_drew)); exact Kd.R_mono (Kd.R_far (p := ⟨gb932, 1, none⟩) (Kd.R_far (p := ⟨gb932, 0, none⟩) (Kd.R_types HO931.out BK932.out (by decide)) (fun _ hk => hk.2) (.slice Ao14 t926.length co14)) (fun _ hk => hk.2) (.slice Ao17 t929.length co17)) (fun _ hk => hk.1.2)⟩
     have n5_ : Aside0 (((w13.setCell ⟨gb932, 0, none⟩ (.slice Ao14 t926.length co14)).setCell ⟨gb932, 1, none⟩ (.slice Ao17 t929.length co17)).heap[gb925]? = some (.cells #[.slice Ao8 t919.length co8, .slice Ao10 t922.length co10] 26 (0, 0))) := ⟨by (with_reducible repeat (first | refine blk_drewN ?_ _ | refine blk_drew ?_ | refine blk_alloc ?_ _)); refine blk_far ?_ NB925_932.out _; (with_reducible repeat (first | refine blk_drewN ?_ _ | refine blk_drew ?_ | refine blk_alloc ?_ _)); refine blk_far ?_ NB925_932.out _; (with_reducible repeat (first | refine blk_drewN ?_ _ | refine blk_drew ?_ | refine blk_alloc ?_ _)); exact BK925.out⟩
     have n6_ : Aside0 (((w13.setCell ⟨gb932, 0, none⟩ (.slice Ao14 t926.length co14)).setCell ⟨gb932, 1, none⟩ (.slice Ao17 t929.length co17)).heap[gb932]? = some (.cells #[.slice Ao14 t926.length co14, .slice Ao17 t929.length co17] 26 (0, 0))) := ⟨by (with_reducible repeat (first | refine blk_drewN ?_ _ | refine blk_drew ?_ | refine blk_alloc ?_ _)); refine blk_put (cs := #[.slice Ao14 t926.length co14, .slice none 0 0]) ?_ 1 _ rfl; (with_reducible repeat (first | refine blk_drewN ?_ _ | refine blk_drew ?_ | refine blk_alloc ?_ _)); refine blk_put (cs := #[.slice none 0 0, .slice none 0 0]) ?_ 0 _ rfl; (with_reducible repeat (first | refine blk_drewN ?_ _ | refine blk_drew ?_ | refine blk_alloc ?_ _)); exact BK932.out⟩
     have n7_ : Aside0 (Below w.heap.size w ((w13.setCell ⟨gb932, 0, none⟩ (.slice Ao14 t926.length co14)).setCell ⟨gb932, 1, none⟩ (.slice Ao17 t929.length co17))) := ⟨by repeat (first | (with_reducible first | exact HB.out | apply below_alloc | apply pw_below_drewN | apply below_drew1 | refine below_set ?_ GE925.out | refine below_set ?_ GE932.out) | exact HB.out)⟩
     (try clear HO918)
     (try clear HO921)
     (try clear HO924)
     (try clear HO928)
     (try clear HO931)
     (try clear BK925)
     (try clear BK932)
     (try clear HB)
     generalize ((w13.setCell ⟨gb932, 0, none⟩ (.slice Ao14 t926.length co14)).setCell ⟨gb932, 1, none⟩ (.slice Ao17 t929.length co17)) = w24 at n0_ n1_ n2_ n3_ n4_ n5_ n6_ n7_ ⊢
     have HO918 := n0_
     have HO921 := n1_
     have HO924 := n2_
     have HO928 := n3_
     have HO931 := n4_
     have BK925 := n5_
     have BK932 := n6_
     have HB := n7_
     clear n0_ n1_ n2_ n3_ n4_ n5_ n6_ n7_
     have n0_ := Aside0.mk (Kd.R_drew HO918.out)
     have n1_ := Aside0.mk (Kd.R_drew HO921.out)
     have n2_ := Aside0.mk (Kd.R_drew HO924.out)
     have n3_ := Aside0.mk (Kd.R_drew HO928.out)
     have n4_ := Aside0.mk (Kd.R_drew HO931.out)
     have n5_ := Aside0.mk (blk_drew BK925.out)
     have n6_ := Aside0.mk (blk_drew BK932.out)
     have n7_ := Aside0.mk (below_drew1 HB.out)
     clear HO918
     clear HO921
     clear HO924
     clear HO928
     clear HO931
     clear BK925
     clear BK932
     clear HB
     have HO918 := n0_
     have HO921 := n1_
     have HO924 := n2_
     have HO928 := n3_
     have HO931 := n4_
     have BK925 := n5_
     have BK932 := n6_
     have HB := n7_
     clear n0_ n1_ n2_ n3_ n4_ n5_ n6_ n7_
     refine start_ (n := 16) (S := fun w' => w'.cell? ⟨gb932, 0, none⟩ = some (.slice Ao14 t926.length co14) ∧ w'.cell? ⟨gb932, 1, none⟩ = some (.slice Ao17 t929.length co17) ∧ w'.cell? ⟨gb925, 0, none⟩ = some (.slice Ao8 t919.length co8) ∧ w'.cell? ⟨gb925, 1, none⟩ = some (.slice Ao10 t922.length co10)) (ds := []) #[false, false, false, false, false, false, false, false, false, false, false, false, false, false, false, false] (by kernel_rfl) rfl rfl ⟨(blk_cell BK932.out 0).trans rfl, (blk_cell BK932.out 1).trans rfl, (blk_cell BK925.out 0).trans rfl, (blk_cell BK925.out 1).trans rfl⟩ (fun hHeld => ?_); refine with_tabW laws_FnTurnFlat.tab5 laws_FnTurnFlat.bits5 (fun HT_ HW_ => ?_)
     generalize w24.drew = w25 at HO918 HO921 HO924 HO928 HO931 BK925 BK932 HB hHeld ⊢
     refine pure_ (i := 1) (N := some 18) (v := ?_) (a' := ?_) #[false, true, false, false, false, false, false, false, false, false, false, false, false, false, false, false] rfl rfl (any_of HT_.out (by kernel_rfl)) (fun _ _ _ h => h) (Or.inl ⟨by rfl, ?_⟩) ?_ ?_
     rotate_left
     ·intro w'
      go_simp
      with_reducible rfl
     rotate_left
     ·simp only [Act.put, List.setIfInBounds_toArray, List.set_cons_zero, List.set_cons_succ, i64_w, i32_w]
      rfl
     refine take_ (i := 0) (N := some 17) (v := ?_) (a' := ?_) #[true, true, false, false, false, false, false, false, false, false, false, false, false, false, false, false] rfl rfl (take_ofW HT_.out HW_.out (by kernel_rfl)) (fun _ _ _ h => h) (Or.inl ⟨by rfl, ?_⟩) hHeld ?_ ?_
     rotate_left
     ·rintro w' ⟨s0, s1, s2, s3⟩
      go_simp
      with_reducible rfl
     rotate_left
     ·simp only [Act.put, List.setIfInBounds_toArray, List.set_cons_zero, List.set_cons_succ, i64_w, i32_w]
      rfl
     refine take_ (i := 2) (N := some 19) (v := ?_) (a' := ?_) #[true, true, true, false, false, false, false, false, false, false, false, false, false, false, false, false] rfl rfl (take_ofW HT_.out HW_.out (by kernel_rfl)) (fun _ _ _ h => h) (Or.inl ⟨by rfl, ?_⟩) hHeld ?_ ?_
     rotate_left
     ·rintro w' ⟨s0, s1, s2, s3⟩
      go_simp
      with_reducible rfl
     rotate_left
     ·simp only [Act.put, List.setIfInBounds_toArray, List.set_cons_zero, List.set_cons_succ, i64_w, i32_w]
      rfl
     refine one_ (i := 3) (N := some 20) #[true, true, true, true, false, false, false, false, false, false, false, false, false, false, false, false] rfl rfl (one_of HT_.out (by kernel_rfl)) (by decide) (fun K hK => ?_)
     refine goes_ Try.func45 (by kernel_rfl) rfl #[.slice Ao11 t916.length co11, .agg #[.slice Ao8 t919.length co8, .slice Ao10 t922.length co10]] (by rfl) rfl rfl zl ?_
     with_reducible refine (spec_TurnFlat.calls k _ _ t916 _ _ t919 _ _ t922 t933 t936 _ ?side1 ?side2 ?side3 ?side4 ?side5 ?side6 A18.out).mono ?_
     (case side1 => repeat (first | exact (Kd.R_reads' HO918.out).2.2 | (with_reducible refine Kd.C_alloc ?_ _) | (with_reducible refine Kd.C_drewN ?_ _) | (with_reducible refine Kd.C_drew ?_)))
     (case side2 => exact (Kd.R_reads' HO918.out).2.1)
     (case side3 => repeat (first | exact (Kd.R_reads' HO921.out).2.2 | (with_reducible refine Kd.C_alloc ?_ _) | (with_reducible refine Kd.C_drewN ?_ _) | (with_reducible refine Kd.C_drew ?_)))
     (case side4 => exact (Kd.R_reads' HO921.out).2.1)
     (case side5 => repeat (first | exact (Kd.R_reads' HO924.out).2.2 | (with_reducible refine Kd.C_alloc ?_ _) | (with_reducible refine Kd.C_drewN ?_ _) | (with_reducible refine Kd.C_drew ?_)))
     (case side6 => exact (Kd.R_reads' HO924.out).2.1)
     rintro e w26 ⟨v934, v937, rfl, ho0, ho1, hb⟩
     refine ⟨_, rfl, ?_⟩
     have n0_ := Aside0.mk (Kd.R_below (zo HO918) hb)
     have n1_ := Aside0.mk (Kd.R_elder' (zo HO921) (Kd.R_base ho0) hb)
     have n2_ := Aside0.mk (Kd.R_elder' (zo HO924) (Kd.R_base ho1) hb)
     have n3_ := Aside0.mk (Kd.R_elder' (zo HO928) (Kd.R_base ho0) hb)
     have n4_ := Aside0.mk (Kd.R_elder' (zo HO931) (Kd.R_base ho1) hb)
     have n5_ := Aside0.mk (Kd.R_lower (Kd.R_new' (Kd.R_new' ho0 (Kd.R_lt (zo HO921))) (Kd.R_lt (zo HO928))) (below_size (zB HB)))
     have n6_ := Aside0.mk (Kd.R_lower (Kd.R_new' (Kd.R_new' ho1 (Kd.R_lt (zo HO924))) (Kd.R_lt (zo HO931))) (below_size (zB HB)))
     have n7_ := Aside0.mk (blk_below (g := gb925) (o := .cells #[.slice Ao8 t919.length co8, .slice Ao10 t922.length co10] 26 (0, 0)) (zb BK925) hb)
     have n8_ := Aside0.mk (blk_below (g := gb932) (o := .cells #[.slice Ao14 t926.length co14, .slice Ao17 t929.length co17] 26 (0, 0)) (zb BK932) hb)
     have n9_ := Aside0.mk (below_step (zB HB) hb)
     clear HO918
     clear HO921
     clear HO924
     clear HO928
     clear HO931
     clear BK925
     clear BK932
     clear HB
     have HO918 := n0_
     have HO921 := n1_
     have HO924 := n2_
     have HO928 := n3_
     have HO931 := n4_
     have HO935 := n5_
     have HO938 := n6_
     have BK925 := n7_
     have BK932 := n8_
     have HB := n9_
     clear n0_ n1_ n2_ n3_ n4_ n5_ n6_ n7_ n8_ n9_
     (try clear hb)
     (try clear hb2)
     (try clear hk)
     (try clear hi)
     (try clear ho0)
     (try clear ho1)
     obtain ⟨Ao27, co27, eo27⟩ := Kd.R_slice HO935.out
     (first | subst eo27 | (injection eo27 with f1_ f2_ f3_; have f4_ := f1_.symm; have f5_ := f3_.symm; clear f1_ f2_ f3_; subst f4_; subst f5_))
     obtain ⟨Ao28, co28, eo28⟩ := Kd.R_slice HO938.out
     (first | subst eo28 | (injection eo28 with f1_ f2_ f3_; have f4_ := f1_.symm; have f5_ := f3_.symm; clear f1_ f2_ f3_; subst f4_; subst f5_))
     refine hK.out _ _ ⟨(blk_cell BK932.out 0).trans rfl, (blk_cell BK932.out 1).trans rfl, (blk_cell BK925.out 0).trans rfl, (blk_cell BK925.out 1).trans rfl⟩ (fun hHeld => ?_)
     clear hK K
     refine norm_ (a' := ?_) ?_ ?_
     rotate_left
     ·show Act.put _ (some 20) _ = _
      simp only [Act.put, List.setIfInBounds_toArray, List.set_cons_zero, List.set_cons_succ, i64_w, i32_w]
      rfl
     refine one_ (i := 4) (N := some 21) #[true, true, true, true, true, false, false, false, false, false, false, false, false, false, false, false] rfl rfl (one_of HT_.out (by kernel_rfl)) (by decide) (fun K hK => ?_)
     refine goes_ Try.func15 (by kernel_rfl) rfl #[.agg #[.slice Ao14 t926.length co14, .slice Ao17 t929.length co17], .agg #[.slice Ao27 t933.length co27, .slice Ao28 t936.length co28]] (by rfl) rfl rfl zl ?_
     with_reducible refine (laws_equalFlat.calls k _ _ t926 _ _ t929 _ _ t933 _ _ t936 true _ ?side1 ?side2 ?side3 ?side4 ?side5 ?side6 ?side7 ?side8 A19.out).mono ?_
     (case side1 => repeat (first | exact (Kd.R_reads' HO928.out).2.2 | (with_reducible refine Kd.C_alloc ?_ _) | (with_reducible refine Kd.C_drewN ?_ _) | (with_reducible refine Kd.C_drew ?_)))
     (case side2 => exact (Kd.R_reads' HO928.out).2.1)
     (case side3 => repeat (first | exact (Kd.R_reads' HO931.out).2.2 | (with_reducible refine Kd.C_alloc ?_ _) | (with_reducible refine Kd.C_drewN ?_ _) | (with_reducible refine Kd.C_drew ?_)))
     (case side4 => exact (Kd.R_reads' HO931.out).2.1)
     (case side5 => repeat (first | exact (Kd.R_reads' HO935.out).2.2 | (with_reducible refine Kd.C_alloc ?_ _) | (with_reducible refine Kd.C_drewN ?_ _) | (with_reducible refine Kd.C_drew ?_)))
     (case side6 => exact (Kd.R_reads' HO935.out).2.1)
     (case side7 => repeat (first | exact (Kd.R_reads' HO938.out).2.2 | (with_reducible refine Kd.C_alloc ?_ _) | (with_reducible refine Kd.C_drewN ?_ _) | (with_reducible refine Kd.C_drew ?_)))
     (case side8 => exact (Kd.R_reads' HO938.out).2.1)
     rintro e w29 ⟨rfl, hb⟩
     refine ⟨_, rfl, ?_⟩
     have n0_ := Aside0.mk (Kd.R_below (zo HO918) hb)
     have n1_ := Aside0.mk (Kd.R_below (zo HO921) hb)
     have n2_ := Aside0.mk (Kd.R_below (zo HO924) hb)
     have n3_ := Aside0.mk (Kd.R_below (zo HO928) hb)
     have n4_ := Aside0.mk (Kd.R_below (zo HO931) hb)
     have n5_ := Aside0.mk (Kd.R_below (zo HO935) hb)
     have n6_ := Aside0.mk (Kd.R_below (zo HO938) hb)
     have n7_ := Aside0.mk (blk_below (g := gb925) (o := .cells #[.slice Ao8 t919.length co8, .slice Ao10 t922.length co10] 26 (0, 0)) (zb BK925) hb)
     have n8_ := Aside0.mk (blk_below (g := gb932) (o := .cells #[.slice Ao14 t926.length co14, .slice Ao17 t929.length co17] 26 (0, 0)) (zb BK932) hb)
     have n9_ := Aside0.mk (below_step (zB HB) hb)
     clear HO918
     clear HO921
     clear HO924
     clear HO928
     clear HO931
     clear HO935
     clear HO938
     clear BK925
     clear BK932
     clear HB
     have HO918 := n0_
     have HO921 := n1_
     have HO924 := n2_
     have HO928 := n3_
     have HO931 := n4_
     have HO935 := n5_
     have HO938 := n6_
     have BK925 := n7_
     have BK932 := n8_
     have HB := n9_
     clear n0_ n1_ n2_ n3_ n4_ n5_ n6_ n7_ n8_ n9_
     (try clear hb)
     (try clear hb2)
     (try clear hk)
     (try clear hi)
     refine hK.out _ _ ⟨(blk_cell BK932.out 0).trans rfl, (blk_cell BK932.out 1).trans rfl, (blk_cell BK925.out 0).trans rfl, (blk_cell BK925.out 1).trans rfl⟩ (fun hHeld => ?_)
     clear hK K
     refine norm_ (a' := ?_) ?_ ?_
     rotate_left
     ·show Act.put _ (some 21) _ = _
      simp only [Act.put, List.setIfInBounds_toArray, List.set_cons_zero, List.set_cons_succ, i64_w, i32_w]
      rfl
     refine pure_ (i := 5) (N := some 22) (v := ?_) (a' := ?_) #[true, true, true, true, true, true, false, false, false, false, false, false, false, false, false, false] rfl rfl (any_of HT_.out (by kernel_rfl)) (fun _ _ _ h => h) (Or.inl ⟨by rfl, ?_⟩) ?_ ?_
     rotate_left
     ·intro w'
      go_simp
      with_reducible rfl
     rotate_left
     ·simp only [Act.put, List.setIfInBounds_toArray, List.set_cons_zero, List.set_cons_succ, i64_w, i32_w]
      rfl
     refine pure_ (i := 6) (N := some 23) (v := ?_) (a' := ?_) #[true, true, true, true, true, true, true, false, false, false, false, false, false, false, false, false] rfl rfl (any_of HT_.out (by kernel_rfl)) (fun _ _ _ h => h) (Or.inl ⟨by rfl, ?_⟩) ?_ ?_
     rotate_left
     ·intro w'
      go_simp
      with_reducible rfl
     rotate_left
     ·simp only [Act.put, List.setIfInBounds_toArray, List.set_cons_zero, List.set_cons_succ, i64_w, i32_w]
      rfl
     refine pure_ (i := 7) (N := some 24) (v := ?_) (a' := ?_) #[true, true, true, true, true, true, true, true, false, false, false, false, false, false, false, false] rfl rfl (any_of HT_.out (by kernel_rfl)) (fun _ _ _ h => h) (Or.inl ⟨by rfl, ?_⟩) ?_ ?_
     rotate_left
     ·intro w'
      go_simp
      with_reducible rfl
     rotate_left
     ·simp only [Act.put, List.setIfInBounds_toArray, List.set_cons_zero, List.set_cons_succ, i64_w, i32_w]
      rfl
     refine one_ (i := 8) (N := some 25) #[true, true, true, true, true, true, true, true, true, false, false, false, false, false, false, false] rfl rfl (one_of HT_.out (by kernel_rfl)) (by decide) (fun K hK => ?_)
     refine goes_ Try.func46 (by kernel_rfl) rfl #[.slice Ao11 t916.length co11] (by rfl) rfl rfl zl ?_
     with_reducible refine (impl_ValidTurns.calls _ _ t916 true _ ?side1 ?side2 A21.out).mono ?_
     (case side1 => repeat (first | exact (Kd.R_reads' HO918.out).2.2 | (with_reducible refine Kd.C_alloc ?_ _) | (with_reducible refine Kd.C_drewN ?_ _) | (with_reducible refine Kd.C_drew ?_)))
     (case side2 => exact (Kd.R_reads' HO918.out).2.1)
     rintro e w30 ⟨rfl, hb⟩
     refine ⟨_, rfl, ?_⟩
     have n0_ := Aside0.mk (Kd.R_below (zo HO918) hb)
     have n1_ := Aside0.mk (Kd.R_below (zo HO921) hb)
     have n2_ := Aside0.mk (Kd.R_below (zo HO924) hb)
     have n3_ := Aside0.mk (Kd.R_below (zo HO928) hb)
     have n4_ := Aside0.mk (Kd.R_below (zo HO931) hb)
     have n5_ := Aside0.mk (Kd.R_below (zo HO935) hb)
     have n6_ := Aside0.mk (Kd.R_below (zo HO938) hb)
     have n7_ := Aside0.mk (blk_below (g := gb925) (o := .cells #[.slice Ao8 t919.length co8, .slice Ao10 t922.length co10] 26 (0, 0)) (zb BK925) hb)
     have n8_ := Aside0.mk (blk_below (g := gb932) (o := .cells #[.slice Ao14 t926.length co14, .slice Ao17 t929.length co17] 26 (0, 0)) (zb BK932) hb)
     have n9_ := Aside0.mk (below_step (zB HB) hb)
     clear HO918
     clear HO921
     clear HO924
     clear HO928
     clear HO931
     clear HO935
     clear HO938
     clear BK925
     clear BK932
     clear HB
     have HO918 := n0_
     have HO921 := n1_
     have HO924 := n2_
     have HO928 := n3_
     have HO931 := n4_
     have HO935 := n5_
     have HO938 := n6_
     have BK925 := n7_
     have BK932 := n8_
     have HB := n9_
     clear n0_ n1_ n2_ n3_ n4_ n5_ n6_ n7_ n8_ n9_
     (try clear hb)
     (try clear hb2)
     (try clear hk)
     (try clear hi)
     refine hK.out _ _ ⟨(blk_cell BK932.out 0).trans rfl, (blk_cell BK932.out 1).trans rfl, (blk_cell BK925.out 0).trans rfl, (blk_cell BK925.out 1).trans rfl⟩ (fun hHeld => ?_)
     clear hK K
     refine norm_ (a' := ?_) ?_ ?_
     rotate_left
     ·show Act.put _ (some 25) _ = _
      simp only [Act.put, List.setIfInBounds_toArray, List.set_cons_zero, List.set_cons_succ, i64_w, i32_w]
      rfl
     refine pure_ (i := 9) (N := some 26) (v := ?_) (a' := ?_) #[true, true, true, true, true, true, true, true, true, true, false, false, false, false, false, false] rfl rfl (any_of HT_.out (by kernel_rfl)) (fun _ _ _ h => h) (Or.inl ⟨by rfl, ?_⟩) ?_ ?_
     rotate_left
     ·intro w'
      go_simp
      with_reducible rfl
     rotate_left
     ·simp only [Act.put, List.setIfInBounds_toArray, List.set_cons_zero, List.set_cons_succ, i64_w, i32_w]
      rfl
     refine pure_ (i := 10) (N := some 27) (v := ?_) (a' := ?_) #[true, true, true, true, true, true, true, true, true, true, true, false, false, false, false, false] rfl rfl (any_of HT_.out (by kernel_rfl)) (fun _ _ _ h => h) (Or.inl ⟨by rfl, ?_⟩) ?_ ?_
     rotate_left
     ·intro w'
      go_simp
      with_reducible rfl
     rotate_left
     ·simp only [Act.put, List.setIfInBounds_toArray, List.set_cons_zero, List.set_cons_succ, i64_w, i32_w]
      rfl
     refine pure_ (i := 11) (N := some 28) (v := ?_) (a' := ?_) #[true, true, true, true, true, true, true, true, true, true, true, true, false, false, false, false] rfl rfl (any_of HT_.out (by kernel_rfl)) (fun _ _ _ h => h) (Or.inl ⟨by rfl, ?_⟩) ?_ ?_
     rotate_left
     ·intro w'
      go_simp
      with_reducible rfl
     rotate_left
     ·simp only [Act.put, List.setIfInBounds_toArray, List.set_cons_zero, List.set_cons_succ, i64_w, i32_w]
      rfl
     refine take_ (i := 12) (N := some 29) (v := ?_) (a' := ?_) #[true, true, true, true, true, true, true, true, true, true, true, true, true, false, false, false] rfl rfl (take_ofW HT_.out HW_.out (by kernel_rfl)) (fun _ _ _ h => h) (Or.inl ⟨by rfl, ?_⟩) hHeld ?_ ?_
     rotate_left
     ·rintro w' ⟨s0, s1, s2, s3⟩
      go_simp
      with_reducible rfl
     rotate_left
     ·simp only [Act.put, List.setIfInBounds_toArray, List.set_cons_zero, List.set_cons_succ, i64_w, i32_w]
      rfl
     refine one_ (i := 13) (N := some 30) #[true, true, true, true, true, true, true, true, true, true, true, true, true, true, false, false] rfl rfl (one_of HT_.out (by kernel_rfl)) (by decide) (fun K hK => ?_)
     refine goes_ Try.func22 (by kernel_rfl) rfl #[.agg #[.slice Ao8 t919.length co8, .slice Ao10 t922.length co10]] (by rfl) rfl rfl zl ?_
     with_reducible refine (impl_ValidFlat.calls k _ _ t919 _ _ t922 t941 _ ?side1 ?side2 ?side3 ?side4 A23.out).mono ?_
     (case side1 => repeat (first | exact (Kd.R_reads' HO921.out).2.2 | (with_reducible refine Kd.C_alloc ?_ _) | (with_reducible refine Kd.C_drewN ?_ _) | (with_reducible refine Kd.C_drew ?_)))
     (case side2 => exact (Kd.R_reads' HO921.out).2.1)
     (case side3 => repeat (first | exact (Kd.R_reads' HO924.out).2.2 | (with_reducible refine Kd.C_alloc ?_ _) | (with_reducible refine Kd.C_drewN ?_ _) | (with_reducible refine Kd.C_drew ?_)))
     (case side4 => exact (Kd.R_reads' HO924.out).2.1)
     rintro e w31 ⟨rfl, hb⟩
     refine ⟨_, rfl, ?_⟩
     have n0_ := Aside0.mk (Kd.R_below (zo HO918) hb)
     have n1_ := Aside0.mk (Kd.R_below (zo HO921) hb)
     have n2_ := Aside0.mk (Kd.R_below (zo HO924) hb)
     have n3_ := Aside0.mk (Kd.R_below (zo HO928) hb)
     have n4_ := Aside0.mk (Kd.R_below (zo HO931) hb)
     have n5_ := Aside0.mk (Kd.R_below (zo HO935) hb)
     have n6_ := Aside0.mk (Kd.R_below (zo HO938) hb)
     have n7_ := Aside0.mk (blk_below (g := gb925) (o := .cells #[.slice Ao8 t919.length co8, .slice Ao10 t922.length co10] 26 (0, 0)) (zb BK925) hb)
     have n8_ := Aside0.mk (blk_below (g := gb932) (o := .cells #[.slice Ao14 t926.length co14, .slice Ao17 t929.length co17] 26 (0, 0)) (zb BK932) hb)
     have n9_ := Aside0.mk (below_step (zB HB) hb)
     clear HO918
     clear HO921
     clear HO924
     clear HO928
     clear HO931
     clear HO935
     clear HO938
     clear BK925
     clear BK932
     clear HB
     have HO918 := n0_
     have HO921 := n1_
     have HO924 := n2_
     have HO928 := n3_
     have HO931 := n4_
     have HO935 := n5_
     have HO938 := n6_
     have BK925 := n7_
     have BK932 := n8_
     have HB := n9_
     clear n0_ n1_ n2_ n3_ n4_ n5_ n6_ n7_ n8_ n9_
     (try clear hb)
     (try clear hb2)
     (try clear hk)
     (try clear hi)
     refine hK.out _ _ ⟨(blk_cell BK932.out 0).trans rfl, (blk_cell BK932.out 1).trans rfl, (blk_cell BK925.out 0).trans rfl, (blk_cell BK925.out 1).trans rfl⟩ (fun hHeld => ?_)
     clear hK K
     refine norm_ (a' := ?_) ?_ ?_
     rotate_left
     ·show Act.put _ (some 30) _ = _
      simp only [Act.put, List.setIfInBounds_toArray, List.set_cons_zero, List.set_cons_succ, i64_w, i32_w]
      rfl
     refine pure_ (i := 14) (N := some 31) (v := ?_) (a' := ?_) #[true, true, true, true, true, true, true, true, true, true, true, true, true, true, true, false] rfl rfl (any_of HT_.out (by kernel_rfl)) (fun _ _ _ h => h) (Or.inl ⟨by rfl, ?_⟩) ?_ ?_
     rotate_left
     ·intro w'
      go_simp
      with_reducible rfl
     rotate_left
     ·simp only [Act.put, List.setIfInBounds_toArray, List.set_cons_zero, List.set_cons_succ, i64_w, i32_w]
      rfl
     refine pure_ (i := 15) (N := some 32) (v := ?_) (a' := ?_) #[true, true, true, true, true, true, true, true, true, true, true, true, true, true, true, true] rfl rfl (any_of HT_.out (by kernel_rfl)) (fun _ _ _ h => h) (Or.inl ⟨by rfl, ?_⟩) ?_ ?_
     rotate_left
     ·intro w'
      go_simp
      with_reducible rfl
     rotate_left
     ·simp only [Act.put, List.setIfInBounds_toArray, List.set_cons_zero, List.set_cons_succ, i64_w, i32_w]
      rfl
     refine done_ (done_of HT_.out (by kernel_rfl)) ?_
     try go_wp2
     go_meet
     case rel => exact ⟨_, (!t941), zr, H', ⟨by first | omega | exact Nat.le_refl _⟩, ⟨by (with_reducible repeat (first | apply Kd.R_alloc | apply Kd.R_drewN | apply Kd.R_drew)); exact HO918.out⟩, ⟨by (with_reducible repeat (first | apply Kd.R_alloc | apply Kd.R_drewN | apply Kd.R_drew)); exact Kd.R_mono HO921.out (fun _ hk => hk.1)⟩, ⟨by (with_reducible repeat (first | apply Kd.R_alloc | apply Kd.R_drewN | apply Kd.R_drew)); exact Kd.R_mono HO924.out (fun _ hk => hk.1)⟩, ⟨by (with_reducible repeat (first | apply Kd.R_alloc | apply Kd.R_drewN | apply Kd.R_drew)); exact Kd.R_mono HO928.out (fun _ hk => hk.1)⟩, ⟨by (with_reducible repeat (first | apply Kd.R_alloc | apply Kd.R_drewN | apply Kd.R_drew)); exact Kd.R_mono HO931.out (fun _ hk => hk.1)⟩, ⟨by (with_reducible repeat (first | refine blk_drewN ?_ _ | refine blk_drew ?_ | refine blk_alloc ?_ _)); exact BK925.out⟩, ⟨by (with_reducible repeat (first | refine blk_drewN ?_ _ | refine blk_drew ?_ | refine blk_alloc ?_ _)); exact BK932.out⟩, ⟨by repeat (first | (with_reducible first | exact HB.out | apply below_alloc | apply pw_below_drewN | apply below_drew1 | refine below_set ?_ GE925.out | refine below_set ?_ GE932.out) | exact HB.out)⟩⟩
    ·replace c22 := Bool.eq_false_iff.mpr c22
     subst c22
     have H1 : (laws_FnTurnFlat.j0 k t916 true t919 t922 t926 t929) = some r := by rw [if_neg (show ¬ (false = true) by decide)] at H; exact H
     clear H
     have H := H1
     clear H1
     have H' := Aside0.mk H
     clear H
     try go_wp2
     have n0_ : Aside0 (Kd.R k107 107 ((w13.setCell ⟨gb932, 0, none⟩ (.slice Ao14 t926.length co14)).setCell ⟨gb932, 1, none⟩ (.slice Ao17 t929.length co17)) w.heap.size (fun _ => True) (.slice Ao11 t916.length co11) t916) := ⟨by (with_reducible repeat (first | apply Kd.R_alloc | apply Kd.R_drewN | apply Kd.R_drew)); exact Kd.R_mono (Kd.R_far (p := ⟨gb932, 1, none⟩) (Kd.R_far (p := ⟨gb932, 0, none⟩) (Kd.R_types HO918.out BK932.out (by decide)) (fun _ hk => hk.2) (.slice Ao14 t926.length co14)) (fun _ hk => hk.2) (.slice Ao17 t929.length co17)) (fun _ hk => trivial)⟩
     have n1_ : Aside0 (Kd.R (Kd.int .i64) 3 ((w13.setCell ⟨gb932, 0, none⟩ (.slice Ao14 t926.length co14)).setCell ⟨gb932, 1, none⟩ (.slice Ao17 t929.length co17)) w.heap.size (fun k_ => some k_ ≠ (.slice Ao14 t926.length co14 : Value).ownBlock) (.slice Ao8 t919.length co8) t919) := ⟨by (with_reducible repeat (first | apply Kd.R_alloc | apply Kd.R_drewN | apply Kd.R_drew)); exact Kd.R_mono (Kd.R_far (p := ⟨gb932, 1, none⟩) (Kd.R_far (p := ⟨gb932, 0, none⟩) (Kd.R_types HO921.out BK932.out (by decide)) (fun _ hk => hk.2) (.slice Ao14 t926.length co14)) (fun _ hk => hk.2) (.slice Ao17 t929.length co17)) (fun _ hk => hk.1.2)⟩
     have n2_ : Aside0 (Kd.R k33 33 ((w13.setCell ⟨gb932, 0, none⟩ (.slice Ao14 t926.length co14)).setCell ⟨gb932, 1, none⟩ (.slice Ao17 t929.length co17)) w.heap.size (fun k_ => some k_ ≠ (.slice Ao17 t929.length co17 : Value).ownBlock) (.slice Ao10 t922.length co10) t922) := ⟨by (with_reducible repeat (first | apply Kd.R_alloc | apply Kd.R_drewN | apply Kd.R_drew)); exact Kd.R_mono (Kd.R_far (p := ⟨gb932, 1, none⟩) (Kd.R_far (p := ⟨gb932, 0, none⟩) (Kd.R_types HO924.out BK932.out (by decide)) (fun _ hk => hk.2) (.slice Ao14 t926.length co14)) (fun _ hk => hk.2) (.slice Ao17 t929.length co17)) (fun _ hk => hk.1.2)⟩
     have n3_ : Aside0 (Kd.R (Kd.int .i64) 3 ((w13.setCell ⟨gb932, 0, none⟩ (.slice Ao14 t926.length co14)).setCell ⟨gb932, 1, none⟩ (.slice Ao17 t929.length co17)) w.heap.size (fun k_ => some k_ ≠ (.slice Ao8 t919.length co8 : Value).ownBlock) (.slice Ao14 t926.length co14) t926) := ⟨by (with_reducible repeat (first | apply Kd.R_alloc | apply Kd.R_drewN | apply Kd.R_drew)); exact Kd.R_mono (Kd.R_far (p := ⟨gb932, 1, none⟩) (Kd.R_far (p := ⟨gb932, 0, none⟩) (Kd.R_types HO928.out BK932.out (by decide)) (fun _ hk => hk.2) (.slice Ao14 t926.length co14)) (fun _ hk => hk.2) (.slice Ao17 t929.length co17)) (fun _ hk => hk.1.2)⟩
     have n4_ : Aside0 (Kd.R k33 33 ((w13.setCell ⟨gb932, 0, none⟩ (.slice Ao14 t926.length co14)).setCell ⟨gb932, 1, none⟩ (.slice Ao17 t929.length co17)) w.heap.size (fun k_ => some k_ ≠ (.slice Ao10 t922.length co10 : Value).ownBlock) (.slice Ao17 t929.length co17) t929) := ⟨by (with_reducible repeat (first | apply Kd.R_alloc | apply Kd.R_drewN | apply Kd.R_drew)); exact Kd.R_mono (Kd.R_far (p := ⟨gb932, 1, none⟩) (Kd.R_far (p := ⟨gb932, 0, none⟩) (Kd.R_types HO931.out BK932.out (by decide)) (fun _ hk => hk.2) (.slice Ao14 t926.length co14)) (fun _ hk => hk.2) (.slice Ao17 t929.length co17)) (fun _ hk => hk.1.2)⟩
     have n5_ : Aside0 (((w13.setCell ⟨gb932, 0, none⟩ (.slice Ao14 t926.length co14)).setCell ⟨gb932, 1, none⟩ (.slice Ao17 t929.length co17)).heap[gb925]? = some (.cells #[.slice Ao8 t919.length co8, .slice Ao10 t922.length co10] 26 (0, 0))) := ⟨by (with_reducible repeat (first | refine blk_drewN ?_ _ | refine blk_drew ?_ | refine blk_alloc ?_ _)); refine blk_far ?_ NB925_932.out _; (with_reducible repeat (first | refine blk_drewN ?_ _ | refine blk_drew ?_ | refine blk_alloc ?_ _)); refine blk_far ?_ NB925_932.out _; (with_reducible repeat (first | refine blk_drewN ?_ _ | refine blk_drew ?_ | refine blk_alloc ?_ _)); exact BK925.out⟩
     have n6_ : Aside0 (((w13.setCell ⟨gb932, 0, none⟩ (.slice Ao14 t926.length co14)).setCell ⟨gb932, 1, none⟩ (.slice Ao17 t929.length co17)).heap[gb932]? = some (.cells #[.slice Ao14 t926.length co14, .slice Ao17 t929.length co17] 26 (0, 0))) := ⟨by (with_reducible repeat (first | refine blk_drewN ?_ _ | refine blk_drew ?_ | refine blk_alloc ?_ _)); refine blk_put (cs := #[.slice Ao14 t926.length co14, .slice none 0 0]) ?_ 1 _ rfl; (with_reducible repeat (first | refine blk_drewN ?_ _ | refine blk_drew ?_ | refine blk_alloc ?_ _)); refine blk_put (cs := #[.slice none 0 0, .slice none 0 0]) ?_ 0 _ rfl; (with_reducible repeat (first | refine blk_drewN ?_ _ | refine blk_drew ?_ | refine blk_alloc ?_ _)); exact BK932.out⟩
     have n7_ : Aside0 (Below w.heap.size w ((w13.setCell ⟨gb932, 0, none⟩ (.slice Ao14 t926.length co14)).setCell ⟨gb932, 1, none⟩ (.slice Ao17 t929.length co17))) := ⟨by repeat (first | (with_reducible first | exact HB.out | apply below_alloc | apply pw_below_drewN | apply below_drew1 | refine below_set ?_ GE925.out | refine below_set ?_ GE932.out) | exact HB.out)⟩
     (try clear HO918)
     (try clear HO921)
     (try clear HO924)
     (try clear HO928)
     (try clear HO931)
     (try clear BK925)
     (try clear BK932)
     (try clear HB)
     generalize ((w13.setCell ⟨gb932, 0, none⟩ (.slice Ao14 t926.length co14)).setCell ⟨gb932, 1, none⟩ (.slice Ao17 t929.length co17)) = w32 at n0_ n1_ n2_ n3_ n4_ n5_ n6_ n7_ ⊢
     have HO918 := n0_
     have HO921 := n1_
     have HO924 := n2_
     have HO928 := n3_
     have HO931 := n4_
     have BK925 := n5_
     have BK932 := n6_
     have HB := n7_
     clear n0_ n1_ n2_ n3_ n4_ n5_ n6_ n7_
     have n0_ := Aside0.mk (Kd.R_drew HO918.out)
     have n1_ := Aside0.mk (Kd.R_drew HO921.out)
     have n2_ := Aside0.mk (Kd.R_drew HO924.out)
     have n3_ := Aside0.mk (Kd.R_drew HO928.out)
     have n4_ := Aside0.mk (Kd.R_drew HO931.out)
     have n5_ := Aside0.mk (blk_drew BK925.out)
     have n6_ := Aside0.mk (blk_drew BK932.out)
     have n7_ := Aside0.mk (below_drew1 HB.out)
     clear HO918
     clear HO921
     clear HO924
     clear HO928
     clear HO931
     clear BK925
     clear BK932
     clear HB
     have HO918 := n0_
     have HO921 := n1_
     have HO924 := n2_
     have HO928 := n3_
     have HO931 := n4_
     have BK925 := n5_
     have BK932 := n6_
     have HB := n7_
     clear n0_ n1_ n2_ n3_ n4_ n5_ n6_ n7_
     refine start_ (n := 16) (S := fun w' => w'.cell? ⟨gb932, 0, none⟩ = some (.slice Ao14 t926.length co14) ∧ w'.cell? ⟨gb932, 1, none⟩ = some (.slice Ao17 t929.length co17) ∧ w'.cell? ⟨gb925, 0, none⟩ = some (.slice Ao8 t919.length co8) ∧ w'.cell? ⟨gb925, 1, none⟩ = some (.slice Ao10 t922.length co10)) (ds := []) #[false, false, false, false, false, false, false, false, false, false, false, false, false, false, false, false] (by kernel_rfl) rfl rfl ⟨(blk_cell BK932.out 0).trans rfl, (blk_cell BK932.out 1).trans rfl, (blk_cell BK925.out 0).trans rfl, (blk_cell BK925.out 1).trans rfl⟩ (fun hHeld => ?_); refine with_tabW laws_FnTurnFlat.tab5 laws_FnTurnFlat.bits5 (fun HT_ HW_ => ?_)
     generalize w32.drew = w33 at HO918 HO921 HO924 HO928 HO931 BK925 BK932 HB hHeld ⊢
     refine pure_ (i := 1) (N := some 18) (v := ?_) (a' := ?_) #[false, true, false, false, false, false, false, false, false, false, false, false, false, false, false, false] rfl rfl (any_of HT_.out (by kernel_rfl)) (fun _ _ _ h => h) (Or.inl ⟨by rfl, ?_⟩) ?_ ?_
     rotate_left
     ·intro w'
      go_simp
      with_reducible rfl
     rotate_left
     ·simp only [Act.put, List.setIfInBounds_toArray, List.set_cons_zero, List.set_cons_succ, i64_w, i32_w]
      rfl
     refine take_ (i := 0) (N := some 17) (v := ?_) (a' := ?_) #[true, true, false, false, false, false, false, false, false, false, false, false, false, false, false, false] rfl rfl (take_ofW HT_.out HW_.out (by kernel_rfl)) (fun _ _ _ h => h) (Or.inl ⟨by rfl, ?_⟩) hHeld ?_ ?_
     rotate_left
     ·rintro w' ⟨s0, s1, s2, s3⟩
      go_simp
      with_reducible rfl
     rotate_left
     ·simp only [Act.put, List.setIfInBounds_toArray, List.set_cons_zero, List.set_cons_succ, i64_w, i32_w]
      rfl
     refine take_ (i := 2) (N := some 19) (v := ?_) (a' := ?_) #[true, true, true, false, false, false, false, false, false, false, false, false, false, false, false, false] rfl rfl (take_ofW HT_.out HW_.out (by kernel_rfl)) (fun _ _ _ h => h) (Or.inl ⟨by rfl, ?_⟩) hHeld ?_ ?_
     rotate_left
     ·rintro w' ⟨s0, s1, s2, s3⟩
      go_simp
      with_reducible rfl
     rotate_left
     ·simp only [Act.put, List.setIfInBounds_toArray, List.set_cons_zero, List.set_cons_succ, i64_w, i32_w]
      rfl
     refine one_ (i := 3) (N := some 20) #[true, true, true, true, false, false, false, false, false, false, false, false, false, false, false, false] rfl rfl (one_of HT_.out (by kernel_rfl)) (by decide) (fun K hK => ?_)
     refine goes_ Try.func45 (by kernel_rfl) rfl #[.slice Ao11 t916.length co11, .agg #[.slice Ao8 t919.length co8, .slice Ao10 t922.length co10]] (by rfl) rfl rfl zl ?_
     with_reducible refine (spec_TurnFlat.calls k _ _ t916 _ _ t919 _ _ t922 t933 t936 _ ?side1 ?side2 ?side3 ?side4 ?side5 ?side6 A18.out).mono ?_
     (case side1 => repeat (first | exact (Kd.R_reads' HO918.out).2.2 | (with_reducible refine Kd.C_alloc ?_ _) | (with_reducible refine Kd.C_drewN ?_ _) | (with_reducible refine Kd.C_drew ?_)))
     (case side2 => exact (Kd.R_reads' HO918.out).2.1)
     (case side3 => repeat (first | exact (Kd.R_reads' HO921.out).2.2 | (with_reducible refine Kd.C_alloc ?_ _) | (with_reducible refine Kd.C_drewN ?_ _) | (with_reducible refine Kd.C_drew ?_)))
     (case side4 => exact (Kd.R_reads' HO921.out).2.1)
     (case side5 => repeat (first | exact (Kd.R_reads' HO924.out).2.2 | (with_reducible refine Kd.C_alloc ?_ _) | (with_reducible refine Kd.C_drewN ?_ _) | (with_reducible refine Kd.C_drew ?_)))
     (case side6 => exact (Kd.R_reads' HO924.out).2.1)
     rintro e w34 ⟨v934, v937, rfl, ho0, ho1, hb⟩
     refine ⟨_, rfl, ?_⟩
     have n0_ := Aside0.mk (Kd.R_below (zo HO918) hb)
     have n1_ := Aside0.mk (Kd.R_elder' (zo HO921) (Kd.R_base ho0) hb)
     have n2_ := Aside0.mk (Kd.R_elder' (zo HO924) (Kd.R_base ho1) hb)
     have n3_ := Aside0.mk (Kd.R_elder' (zo HO928) (Kd.R_base ho0) hb)
     have n4_ := Aside0.mk (Kd.R_elder' (zo HO931) (Kd.R_base ho1) hb)
     have n5_ := Aside0.mk (Kd.R_lower (Kd.R_new' (Kd.R_new' ho0 (Kd.R_lt (zo HO921))) (Kd.R_lt (zo HO928))) (below_size (zB HB)))
     have n6_ := Aside0.mk (Kd.R_lower (Kd.R_new' (Kd.R_new' ho1 (Kd.R_lt (zo HO924))) (Kd.R_lt (zo HO931))) (below_size (zB HB)))
     have n7_ := Aside0.mk (blk_below (g := gb925) (o := .cells #[.slice Ao8 t919.length co8, .slice Ao10 t922.length co10] 26 (0, 0)) (zb BK925) hb)
     have n8_ := Aside0.mk (blk_below (g := gb932) (o := .cells #[.slice Ao14 t926.length co14, .slice Ao17 t929.length co17] 26 (0, 0)) (zb BK932) hb)
     have n9_ := Aside0.mk (below_step (zB HB) hb)
     clear HO918
     clear HO921
     clear HO924
     clear HO928
     clear HO931
     clear BK925
     clear BK932
     clear HB
     have HO918 := n0_
     have HO921 := n1_
     have HO924 := n2_
     have HO928 := n3_
     have HO931 := n4_
     have HO935 := n5_
     have HO938 := n6_
     have BK925 := n7_
     have BK932 := n8_
     have HB := n9_
     clear n0_ n1_ n2_ n3_ n4_ n5_ n6_ n7_ n8_ n9_
     (try clear hb)
     (try clear hb2)
     (try clear hk)
     (try clear hi)
     (try clear ho0)
     (try clear ho1)
     obtain ⟨Ao35, co35, eo35⟩ := Kd.R_slice HO935.out
     (first | subst eo35 | (injection eo35 with f1_ f2_ f3_; have f4_ := f1_.symm; have f5_ := f3_.symm; clear f1_ f2_ f3_; subst f4_; subst f5_))
     obtain ⟨Ao36, co36, eo36⟩ := Kd.R_slice HO938.out
     (first | subst eo36 | (injection eo36 with f1_ f2_ f3_; have f4_ := f1_.symm; have f5_ := f3_.symm; clear f1_ f2_ f3_; subst f4_; subst f5_))
     refine hK.out _ _ ⟨(blk_cell BK932.out 0).trans rfl, (blk_cell BK932.out 1).trans rfl, (blk_cell BK925.out 0).trans rfl, (blk_cell BK925.out 1).trans rfl⟩ (fun hHeld => ?_)
     clear hK K
     refine norm_ (a' := ?_) ?_ ?_
     rotate_left
     ·show Act.put _ (some 20) _ = _
      simp only [Act.put, List.setIfInBounds_toArray, List.set_cons_zero, List.set_cons_succ, i64_w, i32_w]
      rfl
     refine one_ (i := 4) (N := some 21) #[true, true, true, true, true, false, false, false, false, false, false, false, false, false, false, false] rfl rfl (one_of HT_.out (by kernel_rfl)) (by decide) (fun K hK => ?_)
     refine goes_ Try.func15 (by kernel_rfl) rfl #[.agg #[.slice Ao14 t926.length co14, .slice Ao17 t929.length co17], .agg #[.slice Ao35 t933.length co35, .slice Ao36 t936.length co36]] (by rfl) rfl rfl zl ?_
     with_reducible refine (laws_equalFlat.calls k _ _ t926 _ _ t929 _ _ t933 _ _ t936 true _ ?side1 ?side2 ?side3 ?side4 ?side5 ?side6 ?side7 ?side8 A19.out).mono ?_
     (case side1 => repeat (first | exact (Kd.R_reads' HO928.out).2.2 | (with_reducible refine Kd.C_alloc ?_ _) | (with_reducible refine Kd.C_drewN ?_ _) | (with_reducible refine Kd.C_drew ?_)))
     (case side2 => exact (Kd.R_reads' HO928.out).2.1)
     (case side3 => repeat (first | exact (Kd.R_reads' HO931.out).2.2 | (with_reducible refine Kd.C_alloc ?_ _) | (with_reducible refine Kd.C_drewN ?_ _) | (with_reducible refine Kd.C_drew ?_)))
     (case side4 => exact (Kd.R_reads' HO931.out).2.1)
     (case side5 => repeat (first | exact (Kd.R_reads' HO935.out).2.2 | (with_reducible refine Kd.C_alloc ?_ _) | (with_reducible refine Kd.C_drewN ?_ _) | (with_reducible refine Kd.C_drew ?_)))
     (case side6 => exact (Kd.R_reads' HO935.out).2.1)
     (case side7 => repeat (first | exact (Kd.R_reads' HO938.out).2.2 | (with_reducible refine Kd.C_alloc ?_ _) | (with_reducible refine Kd.C_drewN ?_ _) | (with_reducible refine Kd.C_drew ?_)))
     (case side8 => exact (Kd.R_reads' HO938.out).2.1)
     rintro e w37 ⟨rfl, hb⟩
     refine ⟨_, rfl, ?_⟩
     have n0_ := Aside0.mk (Kd.R_below (zo HO918) hb)
     have n1_ := Aside0.mk (Kd.R_below (zo HO921) hb)
     have n2_ := Aside0.mk (Kd.R_below (zo HO924) hb)
     have n3_ := Aside0.mk (Kd.R_below (zo HO928) hb)
     have n4_ := Aside0.mk (Kd.R_below (zo HO931) hb)
     have n5_ := Aside0.mk (Kd.R_below (zo HO935) hb)
     have n6_ := Aside0.mk (Kd.R_below (zo HO938) hb)
     have n7_ := Aside0.mk (blk_below (g := gb925) (o := .cells #[.slice Ao8 t919.length co8, .slice Ao10 t922.length co10] 26 (0, 0)) (zb BK925) hb)
     have n8_ := Aside0.mk (blk_below (g := gb932) (o := .cells #[.slice Ao14 t926.length co14, .slice Ao17 t929.length co17] 26 (0, 0)) (zb BK932) hb)
     have n9_ := Aside0.mk (below_step (zB HB) hb)
     clear HO918
     clear HO921
     clear HO924
     clear HO928
     clear HO931
     clear HO935
     clear HO938
     clear BK925
     clear BK932
     clear HB
     have HO918 := n0_
     have HO921 := n1_
     have HO924 := n2_
     have HO928 := n3_
     have HO931 := n4_
     have HO935 := n5_
     have HO938 := n6_
     have BK925 := n7_
     have BK932 := n8_
     have HB := n9_
     clear n0_ n1_ n2_ n3_ n4_ n5_ n6_ n7_ n8_ n9_
     (try clear hb)
     (try clear hb2)
     (try clear hk)
     (try clear hi)
     refine hK.out _ _ ⟨(blk_cell BK932.out 0).trans rfl, (blk_cell BK932.out 1).trans rfl, (blk_cell BK925.out 0).trans rfl, (blk_cell BK925.out 1).trans rfl⟩ (fun hHeld => ?_)
     clear hK K
     refine norm_ (a' := ?_) ?_ ?_
     rotate_left
     ·show Act.put _ (some 21) _ = _
      simp only [Act.put, List.setIfInBounds_toArray, List.set_cons_zero, List.set_cons_succ, i64_w, i32_w]
      rfl
     refine pure_ (i := 5) (N := some 22) (v := ?_) (a' := ?_) #[true, true, true, true, true, true, false, false, false, false, false, false, false, false, false, false] rfl rfl (any_of HT_.out (by kernel_rfl)) (fun _ _ _ h => h) (Or.inl ⟨by rfl, ?_⟩) ?_ ?_
     rotate_left
     ·intro w'
      go_simp
      with_reducible rfl
     rotate_left
     ·simp only [Act.put, List.setIfInBounds_toArray, List.set_cons_zero, List.set_cons_succ, i64_w, i32_w]
      rfl
     refine pure_ (i := 6) (N := some 23) (v := ?_) (a' := ?_) #[true, true, true, true, true, true, true, false, false, false, false, false, false, false, false, false] rfl rfl (any_of HT_.out (by kernel_rfl)) (fun _ _ _ h => h) (Or.inl ⟨by rfl, ?_⟩) ?_ ?_
     rotate_left
     ·intro w'
      go_simp
      with_reducible rfl
     rotate_left
     ·simp only [Act.put, List.setIfInBounds_toArray, List.set_cons_zero, List.set_cons_succ, i64_w, i32_w]
      rfl
     refine pure_ (i := 7) (N := some 24) (v := ?_) (a' := ?_) #[true, true, true, true, true, true, true, true, false, false, false, false, false, false, false, false] rfl rfl (any_of HT_.out (by kernel_rfl)) (fun _ _ _ h => h) (Or.inl ⟨by rfl, ?_⟩) ?_ ?_
     rotate_left
     ·intro w'
      go_simp
      with_reducible rfl
     rotate_left
     ·simp only [Act.put, List.setIfInBounds_toArray, List.set_cons_zero, List.set_cons_succ, i64_w, i32_w]
      rfl
     refine one_ (i := 8) (N := some 25) #[true, true, true, true, true, true, true, true, true, false, false, false, false, false, false, false] rfl rfl (one_of HT_.out (by kernel_rfl)) (by decide) (fun K hK => ?_)
     refine goes_ Try.func46 (by kernel_rfl) rfl #[.slice Ao11 t916.length co11] (by rfl) rfl rfl zl ?_
     with_reducible refine (impl_ValidTurns.calls _ _ t916 false _ ?side1 ?side2 A21.out).mono ?_
     (case side1 => repeat (first | exact (Kd.R_reads' HO918.out).2.2 | (with_reducible refine Kd.C_alloc ?_ _) | (with_reducible refine Kd.C_drewN ?_ _) | (with_reducible refine Kd.C_drew ?_)))
     (case side2 => exact (Kd.R_reads' HO918.out).2.1)
     rintro e w38 ⟨rfl, hb⟩
     refine ⟨_, rfl, ?_⟩
     have n0_ := Aside0.mk (Kd.R_below (zo HO918) hb)
     have n1_ := Aside0.mk (Kd.R_below (zo HO921) hb)
     have n2_ := Aside0.mk (Kd.R_below (zo HO924) hb)
     have n3_ := Aside0.mk (Kd.R_below (zo HO928) hb)
     have n4_ := Aside0.mk (Kd.R_below (zo HO931) hb)
     have n5_ := Aside0.mk (Kd.R_below (zo HO935) hb)
     have n6_ := Aside0.mk (Kd.R_below (zo HO938) hb)
     have n7_ := Aside0.mk (blk_below (g := gb925) (o := .cells #[.slice Ao8 t919.length co8, .slice Ao10 t922.length co10] 26 (0, 0)) (zb BK925) hb)
     have n8_ := Aside0.mk (blk_below (g := gb932) (o := .cells #[.slice Ao14 t926.length co14, .slice Ao17 t929.length co17] 26 (0, 0)) (zb BK932) hb)
     have n9_ := Aside0.mk (below_step (zB HB) hb)
     clear HO918
     clear HO921
     clear HO924
     clear HO928
     clear HO931
     clear HO935
     clear HO938
     clear BK925
     clear BK932
     clear HB
     have HO918 := n0_
     have HO921 := n1_
     have HO924 := n2_
     have HO928 := n3_
     have HO931 := n4_
     have HO935 := n5_
     have HO938 := n6_
     have BK925 := n7_
     have BK932 := n8_
     have HB := n9_
     clear n0_ n1_ n2_ n3_ n4_ n5_ n6_ n7_ n8_ n9_
     (try clear hb)
     (try clear hb2)
     (try clear hk)
     (try clear hi)
     refine hK.out _ _ ⟨(blk_cell BK932.out 0).trans rfl, (blk_cell BK932.out 1).trans rfl, (blk_cell BK925.out 0).trans rfl, (blk_cell BK925.out 1).trans rfl⟩ (fun hHeld => ?_)
     clear hK K
     refine norm_ (a' := ?_) ?_ ?_
     rotate_left
     ·show Act.put _ (some 25) _ = _
      simp only [Act.put, List.setIfInBounds_toArray, List.set_cons_zero, List.set_cons_succ, i64_w, i32_w]
      rfl
     refine pure_ (i := 9) (N := some 26) (v := ?_) (a' := ?_) #[true, true, true, true, true, true, true, true, true, true, false, false, false, false, false, false] rfl rfl (any_of HT_.out (by kernel_rfl)) (fun _ _ _ h => h) (Or.inl ⟨by rfl, ?_⟩) ?_ ?_
     rotate_left
     ·intro w'
      go_simp
      with_reducible rfl
     rotate_left
     ·simp only [Act.put, List.setIfInBounds_toArray, List.set_cons_zero, List.set_cons_succ, i64_w, i32_w]
      rfl
     refine pure_ (i := 10) (N := some 27) (v := ?_) (a' := ?_) #[true, true, true, true, true, true, true, true, true, true, true, false, false, false, false, false] rfl rfl (any_of HT_.out (by kernel_rfl)) (fun _ _ _ h => h) (Or.inl ⟨by rfl, ?_⟩) ?_ ?_
     rotate_left
     ·intro w'
      go_simp
      with_reducible rfl
     rotate_left
     ·simp only [Act.put, List.setIfInBounds_toArray, List.set_cons_zero, List.set_cons_succ, i64_w, i32_w]
      rfl
     refine pure_ (i := 11) (N := some 28) (v := ?_) (a' := ?_) #[true, true, true, true, true, true, true, true, true, true, true, true, false, false, false, false] rfl rfl (any_of HT_.out (by kernel_rfl)) (fun _ _ _ h => h) (Or.inl ⟨by rfl, ?_⟩) ?_ ?_
     rotate_left
     ·intro w'
      go_simp
      with_reducible rfl
     rotate_left
     ·simp only [Act.put, List.setIfInBounds_toArray, List.set_cons_zero, List.set_cons_succ, i64_w, i32_w]
      rfl
     refine pure_ (i := 12) (N := some 29) (v := undef) (a' := ?_) #[true, true, true, true, true, true, true, true, true, true, true, true, true, false, false, false] rfl rfl (any_of HT_.out (by kernel_rfl)) (fun _ _ _ h => h) (Or.inr ⟨by rfl, rfl⟩) ?_ ?_
     rotate_left
     ·simp only [Act.put, List.setIfInBounds_toArray, List.set_cons_zero, List.set_cons_succ, i64_w, i32_w]
      rfl
     refine pure_ (i := 13) (N := some 30) (v := undef) (a' := ?_) #[true, true, true, true, true, true, true, true, true, true, true, true, true, true, false, false] rfl rfl (any_of HT_.out (by kernel_rfl)) (fun _ _ _ h => h) (Or.inr ⟨by rfl, rfl⟩) ?_ ?_
     rotate_left
     ·simp only [Act.put, List.setIfInBounds_toArray, List.set_cons_zero, List.set_cons_succ, i64_w, i32_w]
      rfl
     refine pure_ (i := 14) (N := some 31) (v := undef) (a' := ?_) #[true, true, true, true, true, true, true, true, true, true, true, true, true, true, true, false] rfl rfl (any_of HT_.out (by kernel_rfl)) (fun _ _ _ h => h) (Or.inr ⟨by rfl, rfl⟩) ?_ ?_
     rotate_left
     ·simp only [Act.put, List.setIfInBounds_toArray, List.set_cons_zero, List.set_cons_succ, i64_w, i32_w]
      rfl
     refine pure_ (i := 15) (N := some 32) (v := ?_) (a' := ?_) #[true, true, true, true, true, true, true, true, true, true, true, true, true, true, true, true] rfl rfl (any_of HT_.out (by kernel_rfl)) (fun _ _ _ h => h) (Or.inl ⟨by rfl, ?_⟩) ?_ ?_
     rotate_left
     ·intro w'
      go_simp
      with_reducible rfl
     rotate_left
     ·simp only [Act.put, List.setIfInBounds_toArray, List.set_cons_zero, List.set_cons_succ, i64_w, i32_w]
      rfl
     refine done_ (done_of HT_.out (by kernel_rfl)) ?_
     try go_wp2
     go_meet
     case rel => exact ⟨_, (true), zr, H', ⟨by first | omega | exact Nat.le_refl _⟩, ⟨by (with_reducible repeat (first | apply Kd.R_alloc | apply Kd.R_drewN | apply Kd.R_drew)); exact HO918.out⟩, ⟨by (with_reducible repeat (first | apply Kd.R_alloc | apply Kd.R_drewN | apply Kd.R_drew)); exact Kd.R_mono HO921.out (fun _ hk => hk.1)⟩, ⟨by (with_reducible repeat (first | apply Kd.R_alloc | apply Kd.R_drewN | apply Kd.R_drew)); exact Kd.R_mono HO924.out (fun _ hk => hk.1)⟩, ⟨by (with_reducible repeat (first | apply Kd.R_alloc | apply Kd.R_drewN | apply Kd.R_drew)); exact Kd.R_mono HO928.out (fun _ hk => hk.1)⟩, ⟨by (with_reducible repeat (first | apply Kd.R_alloc | apply Kd.R_drewN | apply Kd.R_drew)); exact Kd.R_mono HO931.out (fun _ hk => hk.1)⟩, ⟨by (with_reducible repeat (first | refine blk_drewN ?_ _ | refine blk_drew ?_ | refine blk_alloc ?_ _)); exact BK925.out⟩, ⟨by (with_reducible repeat (first | refine blk_drewN ?_ _ | refine blk_drew ?_ | refine blk_alloc ?_ _)); exact BK932.out⟩, ⟨by repeat (first | (with_reducible first | exact HB.out | apply below_alloc | apply pw_below_drewN | apply below_drew1 | refine below_set ?_ GE925.out | refine below_set ?_ GE932.out) | exact HB.out)⟩⟩
   ·replace c20 := Bool.eq_false_iff.mpr c20
    subst c20
    have H1 : (laws_FnTurnFlat.j0 k t916 true t919 t922 t926 t929) = some r := by rw [if_neg (show ¬ (false = true) by decide)] at H; exact H
    clear H
    have H := H1
    clear H1
    have H' := Aside0.mk H
    clear H
    try go_wp2
    have n0_ : Aside0 (Kd.R k107 107 ((w13.setCell ⟨gb932, 0, none⟩ (.slice Ao14 t926.length co14)).setCell ⟨gb932, 1, none⟩ (.slice Ao17 t929.length co17)) w.heap.size (fun _ => True) (.slice Ao11 t916.length co11) t916) := ⟨by (with_reducible repeat (first | apply Kd.R_alloc | apply Kd.R_drewN | apply Kd.R_drew)); exact Kd.R_mono (Kd.R_far (p := ⟨gb932, 1, none⟩) (Kd.R_far (p := ⟨gb932, 0, none⟩) (Kd.R_types HO918.out BK932.out (by decide)) (fun _ hk => hk.2) (.slice Ao14 t926.length co14)) (fun _ hk => hk.2) (.slice Ao17 t929.length co17)) (fun _ hk => trivial)⟩
    have n1_ : Aside0 (Kd.R (Kd.int .i64) 3 ((w13.setCell ⟨gb932, 0, none⟩ (.slice Ao14 t926.length co14)).setCell ⟨gb932, 1, none⟩ (.slice Ao17 t929.length co17)) w.heap.size (fun k_ => some k_ ≠ (.slice Ao14 t926.length co14 : Value).ownBlock) (.slice Ao8 t919.length co8) t919) := ⟨by (with_reducible repeat (first | apply Kd.R_alloc | apply Kd.R_drewN | apply Kd.R_drew)); exact Kd.R_mono (Kd.R_far (p := ⟨gb932, 1, none⟩) (Kd.R_far (p := ⟨gb932, 0, none⟩) (Kd.R_types HO921.out BK932.out (by decide)) (fun _ hk => hk.2) (.slice Ao14 t926.length co14)) (fun _ hk => hk.2) (.slice Ao17 t929.length co17)) (fun _ hk => hk.1.2)⟩
    have n2_ : Aside0 (Kd.R k33 33 ((w13.setCell ⟨gb932, 0, none⟩ (.slice Ao14 t926.length co14)).setCell ⟨gb932, 1, none⟩ (.slice Ao17 t929.length co17)) w.heap.size (fun k_ => some k_ ≠ (.slice Ao17 t929.length co17 : Value).ownBlock) (.slice Ao10 t922.length co10) t922) := ⟨by (with_reducible repeat (first | apply Kd.R_alloc | apply Kd.R_drewN | apply Kd.R_drew)); exact Kd.R_mono (Kd.R_far (p := ⟨gb932, 1, none⟩) (Kd.R_far (p := ⟨gb932, 0, none⟩) (Kd.R_types HO924.out BK932.out (by decide)) (fun _ hk => hk.2) (.slice Ao14 t926.length co14)) (fun _ hk => hk.2) (.slice Ao17 t929.length co17)) (fun _ hk => hk.1.2)⟩
    have n3_ : Aside0 (Kd.R (Kd.int .i64) 3 ((w13.setCell ⟨gb932, 0, none⟩ (.slice Ao14 t926.length co14)).setCell ⟨gb932, 1, none⟩ (.slice Ao17 t929.length co17)) w.heap.size (fun k_ => some k_ ≠ (.slice Ao8 t919.length co8 : Value).ownBlock) (.slice Ao14 t926.length co14) t926) := ⟨by (with_reducible repeat (first | apply Kd.R_alloc | apply Kd.R_drewN | apply Kd.R_drew)); exact Kd.R_mono (Kd.R_far (p := ⟨gb932, 1, none⟩) (Kd.R_far (p := ⟨gb932, 0, none⟩) (Kd.R_types HO928.out BK932.out (by decide)) (fun _ hk => hk.2) (.slice Ao14 t926.length co14)) (fun _ hk => hk.2) (.slice Ao17 t929.length co17)) (fun _ hk => hk.1.2)⟩
    have n4_ : Aside0 (Kd.R k33 33 ((w13.setCell ⟨gb932, 0, none⟩ (.slice Ao14 t926.length co14)).setCell ⟨gb932, 1, none⟩ (.slice Ao17 t929.length co17)) w.heap.size (fun k_ => some k_ ≠ (.slice Ao10 t922.length co10 : Value).ownBlock) (.slice Ao17 t929.length co17) t929) := ⟨by (with_reducible repeat (first | apply Kd.R_alloc | apply Kd.R_drewN | apply Kd.R_drew)); exact Kd.R_mono (Kd.R_far (p := ⟨gb932, 1, none⟩) (Kd.R_far (p := ⟨gb932, 0, none⟩) (Kd.R_types HO931.out BK932.out (by decide)) (fun _ hk => hk.2) (.slice Ao14 t926.length co14)) (fun _ hk => hk.2) (.slice Ao17 t929.length co17)) (fun _ hk => hk.1.2)⟩
    have n5_ : Aside0 (((w13.setCell ⟨gb932, 0, none⟩ (.slice Ao14 t926.length co14)).setCell ⟨gb932, 1, none⟩ (.slice Ao17 t929.length co17)).heap[gb925]? = some (.cells #[.slice Ao8 t919.length co8, .slice Ao10 t922.length co10] 26 (0, 0))) := ⟨by (with_reducible repeat (first | refine blk_drewN ?_ _ | refine blk_drew ?_ | refine blk_alloc ?_ _)); refine blk_far ?_ NB925_932.out _; (with_reducible repeat (first | refine blk_drewN ?_ _ | refine blk_drew ?_ | refine blk_alloc ?_ _)); refine blk_far ?_ NB925_932.out _; (with_reducible repeat (first | refine blk_drewN ?_ _ | refine blk_drew ?_ | refine blk_alloc ?_ _)); exact BK925.out⟩
    have n6_ : Aside0 (((w13.setCell ⟨gb932, 0, none⟩ (.slice Ao14 t926.length co14)).setCell ⟨gb932, 1, none⟩ (.slice Ao17 t929.length co17)).heap[gb932]? = some (.cells #[.slice Ao14 t926.length co14, .slice Ao17 t929.length co17] 26 (0, 0))) := ⟨by (with_reducible repeat (first | refine blk_drewN ?_ _ | refine blk_drew ?_ | refine blk_alloc ?_ _)); refine blk_put (cs := #[.slice Ao14 t926.length co14, .slice none 0 0]) ?_ 1 _ rfl; (with_reducible repeat (first | refine blk_drewN ?_ _ | refine blk_drew ?_ | refine blk_alloc ?_ _)); refine blk_put (cs := #[.slice none 0 0, .slice none 0 0]) ?_ 0 _ rfl; (with_reducible repeat (first | refine blk_drewN ?_ _ | refine blk_drew ?_ | refine blk_alloc ?_ _)); exact BK932.out⟩
    have n7_ : Aside0 (Below w.heap.size w ((w13.setCell ⟨gb932, 0, none⟩ (.slice Ao14 t926.length co14)).setCell ⟨gb932, 1, none⟩ (.slice Ao17 t929.length co17))) := ⟨by repeat (first | (with_reducible first | exact HB.out | apply below_alloc | apply pw_below_drewN | apply below_drew1 | refine below_set ?_ GE925.out | refine below_set ?_ GE932.out) | exact HB.out)⟩
    (try clear HO918)
    (try clear HO921)
    (try clear HO924)
    (try clear HO928)
    (try clear HO931)
    (try clear BK925)
    (try clear BK932)
    (try clear HB)
    generalize ((w13.setCell ⟨gb932, 0, none⟩ (.slice Ao14 t926.length co14)).setCell ⟨gb932, 1, none⟩ (.slice Ao17 t929.length co17)) = w39 at n0_ n1_ n2_ n3_ n4_ n5_ n6_ n7_ ⊢
    have HO918 := n0_
    have HO921 := n1_
    have HO924 := n2_
    have HO928 := n3_
    have HO931 := n4_
    have BK925 := n5_
    have BK932 := n6_
    have HB := n7_
    clear n0_ n1_ n2_ n3_ n4_ n5_ n6_ n7_
    have n0_ := Aside0.mk (Kd.R_drew HO918.out)
    have n1_ := Aside0.mk (Kd.R_drew HO921.out)
    have n2_ := Aside0.mk (Kd.R_drew HO924.out)
    have n3_ := Aside0.mk (Kd.R_drew HO928.out)
    have n4_ := Aside0.mk (Kd.R_drew HO931.out)
    have n5_ := Aside0.mk (blk_drew BK925.out)
    have n6_ := Aside0.mk (blk_drew BK932.out)
    have n7_ := Aside0.mk (below_drew1 HB.out)
    clear HO918
    clear HO921
    clear HO924
    clear HO928
    clear HO931
    clear BK925
    clear BK932
    clear HB
    have HO918 := n0_
    have HO921 := n1_
    have HO924 := n2_
    have HO928 := n3_
    have HO931 := n4_
    have BK925 := n5_
    have BK932 := n6_
    have HB := n7_
    clear n0_ n1_ n2_ n3_ n4_ n5_ n6_ n7_
    refine start_ (n := 16) (S := fun w' => w'.cell? ⟨gb932, 0, none⟩ = some (.slice Ao14 t926.length co14) ∧ w'.cell? ⟨gb932, 1, none⟩ = some (.slice Ao17 t929.length co17) ∧ w'.cell? ⟨gb925, 0, none⟩ = some (.slice Ao8 t919.length co8) ∧ w'.cell? ⟨gb925, 1, none⟩ = some (.slice Ao10 t922.length co10)) (ds := []) #[false, false, false, false, false, false, false, false, false, false, false, false, false, false, false, false] (by kernel_rfl) rfl rfl ⟨(blk_cell BK932.out 0).trans rfl, (blk_cell BK932.out 1).trans rfl, (blk_cell BK925.out 0).trans rfl, (blk_cell BK925.out 1).trans rfl⟩ (fun hHeld => ?_); refine with_tabW laws_FnTurnFlat.tab5 laws_FnTurnFlat.bits5 (fun HT_ HW_ => ?_)
    generalize w39.drew = w40 at HO918 HO921 HO924 HO928 HO931 BK925 BK932 HB hHeld ⊢
    refine pure_ (i := 1) (N := some 18) (v := ?_) (a' := ?_) #[false, true, false, false, false, false, false, false, false, false, false, false, false, false, false, false] rfl rfl (any_of HT_.out (by kernel_rfl)) (fun _ _ _ h => h) (Or.inl ⟨by rfl, ?_⟩) ?_ ?_
    rotate_left
    ·intro w'
     go_simp
     with_reducible rfl
    rotate_left
    ·simp only [Act.put, List.setIfInBounds_toArray, List.set_cons_zero, List.set_cons_succ, i64_w, i32_w]
     rfl
    refine take_ (i := 0) (N := some 17) (v := ?_) (a' := ?_) #[true, true, false, false, false, false, false, false, false, false, false, false, false, false, false, false] rfl rfl (take_ofW HT_.out HW_.out (by kernel_rfl)) (fun _ _ _ h => h) (Or.inl ⟨by rfl, ?_⟩) hHeld ?_ ?_
    rotate_left
    ·rintro w' ⟨s0, s1, s2, s3⟩
     go_simp
     with_reducible rfl
    rotate_left
    ·simp only [Act.put, List.setIfInBounds_toArray, List.set_cons_zero, List.set_cons_succ, i64_w, i32_w]
     rfl
    refine take_ (i := 2) (N := some 19) (v := ?_) (a' := ?_) #[true, true, true, false, false, false, false, false, false, false, false, false, false, false, false, false] rfl rfl (take_ofW HT_.out HW_.out (by kernel_rfl)) (fun _ _ _ h => h) (Or.inl ⟨by rfl, ?_⟩) hHeld ?_ ?_
    rotate_left
    ·rintro w' ⟨s0, s1, s2, s3⟩
     go_simp
     with_reducible rfl
    rotate_left
    ·simp only [Act.put, List.setIfInBounds_toArray, List.set_cons_zero, List.set_cons_succ, i64_w, i32_w]
     rfl
    refine one_ (i := 3) (N := some 20) #[true, true, true, true, false, false, false, false, false, false, false, false, false, false, false, false] rfl rfl (one_of HT_.out (by kernel_rfl)) (by decide) (fun K hK => ?_)
    refine goes_ Try.func45 (by kernel_rfl) rfl #[.slice Ao11 t916.length co11, .agg #[.slice Ao8 t919.length co8, .slice Ao10 t922.length co10]] (by rfl) rfl rfl zl ?_
    with_reducible refine (spec_TurnFlat.calls k _ _ t916 _ _ t919 _ _ t922 t933 t936 _ ?side1 ?side2 ?side3 ?side4 ?side5 ?side6 A18.out).mono ?_
    (case side1 => repeat (first | exact (Kd.R_reads' HO918.out).2.2 | (with_reducible refine Kd.C_alloc ?_ _) | (with_reducible refine Kd.C_drewN ?_ _) | (with_reducible refine Kd.C_drew ?_)))
    (case side2 => exact (Kd.R_reads' HO918.out).2.1)
    (case side3 => repeat (first | exact (Kd.R_reads' HO921.out).2.2 | (with_reducible refine Kd.C_alloc ?_ _) | (with_reducible refine Kd.C_drewN ?_ _) | (with_reducible refine Kd.C_drew ?_)))
    (case side4 => exact (Kd.R_reads' HO921.out).2.1)
    (case side5 => repeat (first | exact (Kd.R_reads' HO924.out).2.2 | (with_reducible refine Kd.C_alloc ?_ _) | (with_reducible refine Kd.C_drewN ?_ _) | (with_reducible refine Kd.C_drew ?_)))
    (case side6 => exact (Kd.R_reads' HO924.out).2.1)
    rintro e w41 ⟨v934, v937, rfl, ho0, ho1, hb⟩
    refine ⟨_, rfl, ?_⟩
    have n0_ := Aside0.mk (Kd.R_below (zo HO918) hb)
    have n1_ := Aside0.mk (Kd.R_elder' (zo HO921) (Kd.R_base ho0) hb)
    have n2_ := Aside0.mk (Kd.R_elder' (zo HO924) (Kd.R_base ho1) hb)
    have n3_ := Aside0.mk (Kd.R_elder' (zo HO928) (Kd.R_base ho0) hb)
    have n4_ := Aside0.mk (Kd.R_elder' (zo HO931) (Kd.R_base ho1) hb)
    have n5_ := Aside0.mk (Kd.R_lower (Kd.R_new' (Kd.R_new' ho0 (Kd.R_lt (zo HO921))) (Kd.R_lt (zo HO928))) (below_size (zB HB)))
    have n6_ := Aside0.mk (Kd.R_lower (Kd.R_new' (Kd.R_new' ho1 (Kd.R_lt (zo HO924))) (Kd.R_lt (zo HO931))) (below_size (zB HB)))
    have n7_ := Aside0.mk (blk_below (g := gb925) (o := .cells #[.slice Ao8 t919.length co8, .slice Ao10 t922.length co10] 26 (0, 0)) (zb BK925) hb)
    have n8_ := Aside0.mk (blk_below (g := gb932) (o := .cells #[.slice Ao14 t926.length co14, .slice Ao17 t929.length co17] 26 (0, 0)) (zb BK932) hb)
    have n9_ := Aside0.mk (below_step (zB HB) hb)
    clear HO918
    clear HO921
    clear HO924
    clear HO928
    clear HO931
    clear BK925
    clear BK932
    clear HB
    have HO918 := n0_
    have HO921 := n1_
    have HO924 := n2_
    have HO928 := n3_
    have HO931 := n4_
    have HO935 := n5_
    have HO938 := n6_
    have BK925 := n7_
    have BK932 := n8_
    have HB := n9_
    clear n0_ n1_ n2_ n3_ n4_ n5_ n6_ n7_ n8_ n9_
    (try clear hb)
    (try clear hb2)
    (try clear hk)
    (try clear hi)
    (try clear ho0)
    (try clear ho1)
    obtain ⟨Ao42, co42, eo42⟩ := Kd.R_slice HO935.out
    (first | subst eo42 | (injection eo42 with f1_ f2_ f3_; have f4_ := f1_.symm; have f5_ := f3_.symm; clear f1_ f2_ f3_; subst f4_; subst f5_))
    obtain ⟨Ao43, co43, eo43⟩ := Kd.R_slice HO938.out
    (first | subst eo43 | (injection eo43 with f1_ f2_ f3_; have f4_ := f1_.symm; have f5_ := f3_.symm; clear f1_ f2_ f3_; subst f4_; subst f5_))
    refine hK.out _ _ ⟨(blk_cell BK932.out 0).trans rfl, (blk_cell BK932.out 1).trans rfl, (blk_cell BK925.out 0).trans rfl, (blk_cell BK925.out 1).trans rfl⟩ (fun hHeld => ?_)
    clear hK K
    refine norm_ (a' := ?_) ?_ ?_
    rotate_left
    ·show Act.put _ (some 20) _ = _
     simp only [Act.put, List.setIfInBounds_toArray, List.set_cons_zero, List.set_cons_succ, i64_w, i32_w]
     rfl
    refine one_ (i := 4) (N := some 21) #[true, true, true, true, true, false, false, false, false, false, false, false, false, false, false, false] rfl rfl (one_of HT_.out (by kernel_rfl)) (by decide) (fun K hK => ?_)
    refine goes_ Try.func15 (by kernel_rfl) rfl #[.agg #[.slice Ao14 t926.length co14, .slice Ao17 t929.length co17], .agg #[.slice Ao42 t933.length co42, .slice Ao43 t936.length co43]] (by rfl) rfl rfl zl ?_
    with_reducible refine (laws_equalFlat.calls k _ _ t926 _ _ t929 _ _ t933 _ _ t936 false _ ?side1 ?side2 ?side3 ?side4 ?side5 ?side6 ?side7 ?side8 A19.out).mono ?_
    (case side1 => repeat (first | exact (Kd.R_reads' HO928.out).2.2 | (with_reducible refine Kd.C_alloc ?_ _) | (with_reducible refine Kd.C_drewN ?_ _) | (with_reducible refine Kd.C_drew ?_)))
    (case side2 => exact (Kd.R_reads' HO928.out).2.1)
    (case side3 => repeat (first | exact (Kd.R_reads' HO931.out).2.2 | (with_reducible refine Kd.C_alloc ?_ _) | (with_reducible refine Kd.C_drewN ?_ _) | (with_reducible refine Kd.C_drew ?_)))
    (case side4 => exact (Kd.R_reads' HO931.out).2.1)
    (case side5 => repeat (first | exact (Kd.R_reads' HO935.out).2.2 | (with_reducible refine Kd.C_alloc ?_ _) | (with_reducible refine Kd.C_drewN ?_ _) | (with_reducible refine Kd.C_drew ?_)))
    (case side6 => exact (Kd.R_reads' HO935.out).2.1)
    (case side7 => repeat (first | exact (Kd.R_reads' HO938.out).2.2 | (with_reducible refine Kd.C_alloc ?_ _) | (with_reducible refine Kd.C_drewN ?_ _) | (with_reducible refine Kd.C_drew ?_)))
    (case side8 => exact (Kd.R_reads' HO938.out).2.1)
    rintro e w44 ⟨rfl, hb⟩
    refine ⟨_, rfl, ?_⟩
    have n0_ := Aside0.mk (Kd.R_below (zo HO918) hb)
    have n1_ := Aside0.mk (Kd.R_below (zo HO921) hb)
    have n2_ := Aside0.mk (Kd.R_below (zo HO924) hb)
    have n3_ := Aside0.mk (Kd.R_below (zo HO928) hb)
    have n4_ := Aside0.mk (Kd.R_below (zo HO931) hb)
    have n5_ := Aside0.mk (Kd.R_below (zo HO935) hb)
    have n6_ := Aside0.mk (Kd.R_below (zo HO938) hb)
    have n7_ := Aside0.mk (blk_below (g := gb925) (o := .cells #[.slice Ao8 t919.length co8, .slice Ao10 t922.length co10] 26 (0, 0)) (zb BK925) hb)
    have n8_ := Aside0.mk (blk_below (g := gb932) (o := .cells #[.slice Ao14 t926.length co14, .slice Ao17 t929.length co17] 26 (0, 0)) (zb BK932) hb)
    have n9_ := Aside0.mk (below_step (zB HB) hb)
    clear HO918
    clear HO921
    clear HO924
    clear HO928
    clear HO931
    clear HO935
    clear HO938
    clear BK925
    clear BK932
    clear HB
    have HO918 := n0_
    have HO921 := n1_
    have HO924 := n2_
    have HO928 := n3_
    have HO931 := n4_
    have HO935 := n5_
    have HO938 := n6_
    have BK925 := n7_
    have BK932 := n8_
    have HB := n9_
    clear n0_ n1_ n2_ n3_ n4_ n5_ n6_ n7_ n8_ n9_
    (try clear hb)
    (try clear hb2)
    (try clear hk)
    (try clear hi)
    refine hK.out _ _ ⟨(blk_cell BK932.out 0).trans rfl, (blk_cell BK932.out 1).trans rfl, (blk_cell BK925.out 0).trans rfl, (blk_cell BK925.out 1).trans rfl⟩ (fun hHeld => ?_)
    clear hK K
    refine norm_ (a' := ?_) ?_ ?_
    rotate_left
    ·show Act.put _ (some 21) _ = _
     simp only [Act.put, List.setIfInBounds_toArray, List.set_cons_zero, List.set_cons_succ, i64_w, i32_w]
     rfl
    refine pure_ (i := 5) (N := some 22) (v := ?_) (a' := ?_) #[true, true, true, true, true, true, false, false, false, false, false, false, false, false, false, false] rfl rfl (any_of HT_.out (by kernel_rfl)) (fun _ _ _ h => h) (Or.inl ⟨by rfl, ?_⟩) ?_ ?_
    rotate_left
    ·intro w'
     go_simp
     with_reducible rfl
    rotate_left
    ·simp only [Act.put, List.setIfInBounds_toArray, List.set_cons_zero, List.set_cons_succ, i64_w, i32_w]
     rfl
    refine pure_ (i := 6) (N := some 23) (v := ?_) (a' := ?_) #[true, true, true, true, true, true, true, false, false, false, false, false, false, false, false, false] rfl rfl (any_of HT_.out (by kernel_rfl)) (fun _ _ _ h => h) (Or.inl ⟨by rfl, ?_⟩) ?_ ?_
    rotate_left
    ·intro w'
     go_simp
     with_reducible rfl
    rotate_left
    ·simp only [Act.put, List.setIfInBounds_toArray, List.set_cons_zero, List.set_cons_succ, i64_w, i32_w]
     rfl
    refine pure_ (i := 7) (N := some 24) (v := undef) (a' := ?_) #[true, true, true, true, true, true, true, true, false, false, false, false, false, false, false, false] rfl rfl (any_of HT_.out (by kernel_rfl)) (fun _ _ _ h => h) (Or.inr ⟨by rfl, rfl⟩) ?_ ?_
    rotate_left
    ·simp only [Act.put, List.setIfInBounds_toArray, List.set_cons_zero, List.set_cons_succ, i64_w, i32_w]
     rfl
    refine pure_ (i := 8) (N := some 25) (v := undef) (a' := ?_) #[true, true, true, true, true, true, true, true, true, false, false, false, false, false, false, false] rfl rfl (any_of HT_.out (by kernel_rfl)) (fun _ _ _ h => h) (Or.inr ⟨by rfl, rfl⟩) ?_ ?_
    rotate_left
    ·simp only [Act.put, List.setIfInBounds_toArray, List.set_cons_zero, List.set_cons_succ, i64_w, i32_w]
     rfl
    refine pure_ (i := 9) (N := some 26) (v := undef) (a' := ?_) #[true, true, true, true, true, true, true, true, true, true, false, false, false, false, false, false] rfl rfl (any_of HT_.out (by kernel_rfl)) (fun _ _ _ h => h) (Or.inr ⟨by rfl, rfl⟩) ?_ ?_
    rotate_left
    ·simp only [Act.put, List.setIfInBounds_toArray, List.set_cons_zero, List.set_cons_succ, i64_w, i32_w]
     rfl
    refine pure_ (i := 10) (N := some 27) (v := ?_) (a' := ?_) #[true, true, true, true, true, true, true, true, true, true, true, false, false, false, false, false] rfl rfl (any_of HT_.out (by kernel_rfl)) (fun _ _ _ h => h) (Or.inl ⟨by rfl, ?_⟩) ?_ ?_
    rotate_left
    ·intro w'
     go_simp
     with_reducible rfl
    rotate_left
    ·simp only [Act.put, List.setIfInBounds_toArray, List.set_cons_zero, List.set_cons_succ, i64_w, i32_w]
     rfl
    refine pure_ (i := 11) (N := some 28) (v := ?_) (a' := ?_) #[true, true, true, true, true, true, true, true, true, true, true, true, false, false, false, false] rfl rfl (any_of HT_.out (by kernel_rfl)) (fun _ _ _ h => h) (Or.inl ⟨by rfl, ?_⟩) ?_ ?_
    rotate_left
    ·intro w'
     go_simp
     with_reducible rfl
    rotate_left
    ·simp only [Act.put, List.setIfInBounds_toArray, List.set_cons_zero, List.set_cons_succ, i64_w, i32_w]
     rfl
    refine pure_ (i := 12) (N := some 29) (v := undef) (a' := ?_) #[true, true, true, true, true, true, true, true, true, true, true, true, true, false, false, false] rfl rfl (any_of HT_.out (by kernel_rfl)) (fun _ _ _ h => h) (Or.inr ⟨by rfl, rfl⟩) ?_ ?_
    rotate_left
    ·simp only [Act.put, List.setIfInBounds_toArray, List.set_cons_zero, List.set_cons_succ, i64_w, i32_w]
     rfl
    refine pure_ (i := 13) (N := some 30) (v := undef) (a' := ?_) #[true, true, true, true, true, true, true, true, true, true, true, true, true, true, false, false] rfl rfl (any_of HT_.out (by kernel_rfl)) (fun _ _ _ h => h) (Or.inr ⟨by rfl, rfl⟩) ?_ ?_
    rotate_left
    ·simp only [Act.put, List.setIfInBounds_toArray, List.set_cons_zero, List.set_cons_succ, i64_w, i32_w]
     rfl
    refine pure_ (i := 14) (N := some 31) (v := undef) (a' := ?_) #[true, true, true, true, true, true, true, true, true, true, true, true, true, true, true, false] rfl rfl (any_of HT_.out (by kernel_rfl)) (fun _ _ _ h => h) (Or.inr ⟨by rfl, rfl⟩) ?_ ?_
    rotate_left
    ·simp only [Act.put, List.setIfInBounds_toArray, List.set_cons_zero, List.set_cons_succ, i64_w, i32_w]
     rfl
    refine pure_ (i := 15) (N := some 32) (v := ?_) (a' := ?_) #[true, true, true, true, true, true, true, true, true, true, true, true, true, true, true, true] rfl rfl (any_of HT_.out (by kernel_rfl)) (fun _ _ _ h => h) (Or.inl ⟨by rfl, ?_⟩) ?_ ?_
    rotate_left
    ·intro w'
     go_simp
     with_reducible rfl
    rotate_left
    ·simp only [Act.put, List.setIfInBounds_toArray, List.set_cons_zero, List.set_cons_succ, i64_w, i32_w]
     rfl
    refine done_ (done_of HT_.out (by kernel_rfl)) ?_
    try go_wp2
    go_meet
    case rel => exact ⟨_, (true), zr, H', ⟨by first | omega | exact Nat.le_refl _⟩, ⟨by (with_reducible repeat (first | apply Kd.R_alloc | apply Kd.R_drewN | apply Kd.R_drew)); exact HO918.out⟩, ⟨by (with_reducible repeat (first | apply Kd.R_alloc | apply Kd.R_drewN | apply Kd.R_drew)); exact Kd.R_mono HO921.out (fun _ hk => hk.1)⟩, ⟨by (with_reducible repeat (first | apply Kd.R_alloc | apply Kd.R_drewN | apply Kd.R_drew)); exact Kd.R_mono HO924.out (fun _ hk => hk.1)⟩, ⟨by (with_reducible repeat (first | apply Kd.R_alloc | apply Kd.R_drewN | apply Kd.R_drew)); exact Kd.R_mono HO928.out (fun _ hk => hk.1)⟩, ⟨by (with_reducible repeat (first | apply Kd.R_alloc | apply Kd.R_drewN | apply Kd.R_drew)); exact Kd.R_mono HO931.out (fun _ hk => hk.1)⟩, ⟨by (with_reducible repeat (first | refine blk_drewN ?_ _ | refine blk_drew ?_ | refine blk_alloc ?_ _)); exact BK925.out⟩, ⟨by (with_reducible repeat (first | refine blk_drewN ?_ _ | refine blk_drew ?_ | refine blk_alloc ?_ _)); exact BK932.out⟩, ⟨by repeat (first | (with_reducible first | exact HB.out | apply below_alloc | apply pw_below_drewN | apply below_drew1 | refine below_set ?_ GE925.out | refine below_set ?_ GE932.out) | exact HB.out)⟩⟩
  case rest =>
   clear HC5
   try clear c1
   try clear c2
   try clear p2
   try clear c4
   try clear c15
   try clear c20
   try clear c22
   obtain ⟨kq, x32_4, rfl, HA, HJ4, HO_3, HO_926000, HO_926001, HO_933000, HO_933001, BK925, BK932, HB⟩ := hcut
   cases kq with
   | zero => exact absurd HA.out (by simp [laws_FnTurnFlat.j0])
   | succ kj4 =>
    have H := HA.out
    clear HA
    simp only [laws_FnTurnFlat.j0] at H
    by_cases c45 : x32_4 = true
    ·subst c45
     have H1 : ((spec_TurnFlat.f kj4 t916 t919 t922).bind fun bt942 => ((laws_equalFlat.f kj4 t926 t929 bt942.1 bt942.2).bind fun t948 => (some t948))) = some r := by rw [if_pos rfl] at H; exact H
     clear H
     have H := H1
     clear H1
     replace H := Option.bind_eq_some_iff.mp H
     obtain ⟨⟨t942, t945⟩, A460, H⟩ := H
     replace H : ((laws_equalFlat.f kj4 t926 t929 t942 t945).bind fun t948 => (some t948)) = some r := H
     have A46 := Aside0.mk A460
     clear A460
     replace H := Option.bind_eq_some_iff.mp H
     obtain ⟨t948, A470, H⟩ := H
     replace H : (some t948) = some r := H
     have A47 := Aside0.mk A470
     clear A470
     obtain rfl := Option.some.inj H
     try go_wp2
     have n0_ := Aside0.mk (Kd.R_drew HO_3.out)
     have n1_ := Aside0.mk (Kd.R_drew HO_926000.out)
     have n2_ := Aside0.mk (Kd.R_drew HO_926001.out)
     have n3_ := Aside0.mk (Kd.R_drew HO_933000.out)
     have n4_ := Aside0.mk (Kd.R_drew HO_933001.out)
     have n5_ := Aside0.mk (blk_drew BK925.out)
     have n6_ := Aside0.mk (blk_drew BK932.out)
     have n7_ := Aside0.mk (below_drew1 HB.out)
     clear HO_3
     clear HO_926000
     clear HO_926001
     clear HO_933000
     clear HO_933001
     clear BK925
     clear BK932
     clear HB
     have HO_3 := n0_
     have HO_926000 := n1_
     have HO_926001 := n2_
     have HO_933000 := n3_
     have HO_933001 := n4_
     have BK925 := n5_
     have BK932 := n6_
     have HB := n7_
     clear n0_ n1_ n2_ n3_ n4_ n5_ n6_ n7_
     refine start_ (n := 6) (S := fun w' => w'.cell? ⟨gb932, 0, none⟩ = some (.slice Ao14 t926.length co14) ∧ w'.cell? ⟨gb932, 1, none⟩ = some (.slice Ao17 t929.length co17) ∧ w'.cell? ⟨gb925, 0, none⟩ = some (.slice Ao8 t919.length co8) ∧ w'.cell? ⟨gb925, 1, none⟩ = some (.slice Ao10 t922.length co10)) (ds := []) #[false, false, false, false, false, false] (by kernel_rfl) rfl rfl ⟨(blk_cell BK932.out 0).trans rfl, (blk_cell BK932.out 1).trans rfl, (blk_cell BK925.out 0).trans rfl, (blk_cell BK925.out 1).trans rfl⟩ (fun hHeld => ?_)
     generalize wc.drew = w48 at HO_3 HO_926000 HO_926001 HO_933000 HO_933001 BK925 BK932 HB hHeld ⊢
     refine pure_ (i := 1) (N := some 34) (v := ?_) (a' := ?_) #[false, true, false, false, false, false] rfl rfl (by kernel_rfl) (fun _ _ _ h => h) (Or.inl ⟨by rfl, ?_⟩) ?_ ?_
     rotate_left
     ·intro w'
      go_simp
      with_reducible rfl
     rotate_left
     ·simp only [Act.put, List.setIfInBounds_toArray, List.set_cons_zero, List.set_cons_succ, i64_w, i32_w]
      rfl
     refine take_ (i := 0) (N := some 33) (v := ?_) (a' := ?_) #[true, true, false, false, false, false] rfl rfl (by kernel_rfl) (fun _ _ _ h => h) (Or.inl ⟨by rfl, ?_⟩) hHeld ?_ ?_
     rotate_left
     ·rintro w' ⟨s0, s1, s2, s3⟩
      go_simp
      with_reducible rfl
     rotate_left
     ·simp only [Act.put, List.setIfInBounds_toArray, List.set_cons_zero, List.set_cons_succ, i64_w, i32_w]
      rfl
     refine take_ (i := 2) (N := some 35) (v := ?_) (a' := ?_) #[true, true, true, false, false, false] rfl rfl (by kernel_rfl) (fun _ _ _ h => h) (Or.inl ⟨by rfl, ?_⟩) hHeld ?_ ?_
     rotate_left
     ·rintro w' ⟨s0, s1, s2, s3⟩
      go_simp
      with_reducible rfl
     rotate_left
     ·simp only [Act.put, List.setIfInBounds_toArray, List.set_cons_zero, List.set_cons_succ, i64_w, i32_w]
      rfl
     refine one_ (i := 3) (N := some 36) #[true, true, true, true, false, false] rfl rfl (by kernel_rfl) (by decide) (fun K hK => ?_)
     refine goes_ Try.func45 (by kernel_rfl) rfl #[.slice Ao11 t916.length co11, .agg #[.slice Ao8 t919.length co8, .slice Ao10 t922.length co10]] (by rfl) rfl rfl zl ?_
     with_reducible refine (spec_TurnFlat.calls kj4 _ _ t916 _ _ t919 _ _ t922 t942 t945 _ ?side1 ?side2 ?side3 ?side4 ?side5 ?side6 A46.out).mono ?_
     (case side1 => repeat (first | exact (Kd.R_reads' HO_3.out).2.2 | (with_reducible refine Kd.C_alloc ?_ _) | (with_reducible refine Kd.C_drewN ?_ _) | (with_reducible refine Kd.C_drew ?_)))
     (case side2 => exact (Kd.R_reads' HO_3.out).2.1)
     (case side3 => repeat (first | exact (Kd.R_reads' HO_926000.out).2.2 | (with_reducible refine Kd.C_alloc ?_ _) | (with_reducible refine Kd.C_drewN ?_ _) | (with_reducible refine Kd.C_drew ?_)))
     (case side4 => exact (Kd.R_reads' HO_926000.out).2.1)
     (case side5 => repeat (first | exact (Kd.R_reads' HO_926001.out).2.2 | (with_reducible refine Kd.C_alloc ?_ _) | (with_reducible refine Kd.C_drewN ?_ _) | (with_reducible refine Kd.C_drew ?_)))
     (case side6 => exact (Kd.R_reads' HO_926001.out).2.1)
     rintro e w49 ⟨v943, v946, rfl, ho0, ho1, hb⟩
     refine ⟨_, rfl, ?_⟩
     have n0_ := Aside0.mk (Kd.R_below (zo HO_3) hb)
     have n1_ := Aside0.mk (Kd.R_elder' (zo HO_926000) (Kd.R_base ho0) hb)
     have n2_ := Aside0.mk (Kd.R_elder' (zo HO_926001) (Kd.R_base ho1) hb)
     have n3_ := Aside0.mk (Kd.R_elder' (zo HO_933000) (Kd.R_base ho0) hb)
     have n4_ := Aside0.mk (Kd.R_elder' (zo HO_933001) (Kd.R_base ho1) hb)
     have n5_ := Aside0.mk (Kd.R_lower (Kd.R_new' (Kd.R_new' ho0 (Kd.R_lt (zo HO_926000))) (Kd.R_lt (zo HO_933000))) (below_size (zB HB)))
     have n6_ := Aside0.mk (Kd.R_lower (Kd.R_new' (Kd.R_new' ho1 (Kd.R_lt (zo HO_926001))) (Kd.R_lt (zo HO_933001))) (below_size (zB HB)))
     have n7_ := Aside0.mk (blk_below (g := gb925) (o := .cells #[.slice Ao8 t919.length co8, .slice Ao10 t922.length co10] 26 (0, 0)) (zb BK925) hb)
     have n8_ := Aside0.mk (blk_below (g := gb932) (o := .cells #[.slice Ao14 t926.length co14, .slice Ao17 t929.length co17] 26 (0, 0)) (zb BK932) hb)
     have n9_ := Aside0.mk (below_step (zB HB) hb)
     clear HO_3
     clear HO_926000
     clear HO_926001
     clear HO_933000
     clear HO_933001
     clear BK925
     clear BK932
     clear HB
     have HO_3 := n0_
     have HO_926000 := n1_
     have HO_926001 := n2_
     have HO_933000 := n3_
     have HO_933001 := n4_
     have HO944 := n5_
     have HO947 := n6_
     have BK925 := n7_
     have BK932 := n8_
     have HB := n9_
     clear n0_ n1_ n2_ n3_ n4_ n5_ n6_ n7_ n8_ n9_
     (try clear hb)
     (try clear hb2)
     (try clear hk)
     (try clear hi)
     (try clear ho0)
     (try clear ho1)
     obtain ⟨Ao50, co50, eo50⟩ := Kd.R_slice HO944.out
     (first | subst eo50 | (injection eo50 with f1_ f2_ f3_; have f4_ := f1_.symm; have f5_ := f3_.symm; clear f1_ f2_ f3_; subst f4_; subst f5_))
     obtain ⟨Ao51, co51, eo51⟩ := Kd.R_slice HO947.out
     (first | subst eo51 | (injection eo51 with f1_ f2_ f3_; have f4_ := f1_.symm; have f5_ := f3_.symm; clear f1_ f2_ f3_; subst f4_; subst f5_))
     refine hK.out _ _ ⟨(blk_cell BK932.out 0).trans rfl, (blk_cell BK932.out 1).trans rfl, (blk_cell BK925.out 0).trans rfl, (blk_cell BK925.out 1).trans rfl⟩ (fun hHeld => ?_)
     clear hK K
     refine norm_ (a' := ?_) ?_ ?_
     rotate_left
     ·show Act.put _ (some 36) _ = _
      simp only [Act.put, List.setIfInBounds_toArray, List.set_cons_zero, List.set_cons_succ, i64_w, i32_w]
      rfl
     refine one_ (i := 4) (N := some 37) #[true, true, true, true, true, false] rfl rfl (by kernel_rfl) (by decide) (fun K hK => ?_)
     refine goes_ Try.func15 (by kernel_rfl) rfl #[.agg #[.slice Ao14 t926.length co14, .slice Ao17 t929.length co17], .agg #[.slice Ao50 t942.length co50, .slice Ao51 t945.length co51]] (by rfl) rfl rfl zl ?_
     with_reducible refine (laws_equalFlat.calls kj4 _ _ t926 _ _ t929 _ _ t942 _ _ t945 t948 _ ?side1 ?side2 ?side3 ?side4 ?side5 ?side6 ?side7 ?side8 A47.out).mono ?_
     (case side1 => repeat (first | exact (Kd.R_reads' HO_933000.out).2.2 | (with_reducible refine Kd.C_alloc ?_ _) | (with_reducible refine Kd.C_drewN ?_ _) | (with_reducible refine Kd.C_drew ?_)))
     (case side2 => exact (Kd.R_reads' HO_933000.out).2.1)
     (case side3 => repeat (first | exact (Kd.R_reads' HO_933001.out).2.2 | (with_reducible refine Kd.C_alloc ?_ _) | (with_reducible refine Kd.C_drewN ?_ _) | (with_reducible refine Kd.C_drew ?_)))
     (case side4 => exact (Kd.R_reads' HO_933001.out).2.1)
     (case side5 => repeat (first | exact (Kd.R_reads' HO944.out).2.2 | (with_reducible refine Kd.C_alloc ?_ _) | (with_reducible refine Kd.C_drewN ?_ _) | (with_reducible refine Kd.C_drew ?_)))
     (case side6 => exact (Kd.R_reads' HO944.out).2.1)
     (case side7 => repeat (first | exact (Kd.R_reads' HO947.out).2.2 | (with_reducible refine Kd.C_alloc ?_ _) | (with_reducible refine Kd.C_drewN ?_ _) | (with_reducible refine Kd.C_drew ?_)))
     (case side8 => exact (Kd.R_reads' HO947.out).2.1)
     rintro e w52 ⟨rfl, hb⟩
     refine ⟨_, rfl, ?_⟩
     have n0_ := Aside0.mk (Kd.R_below (zo HO_3) hb)
     have n1_ := Aside0.mk (Kd.R_below (zo HO_926000) hb)
     have n2_ := Aside0.mk (Kd.R_below (zo HO_926001) hb)
     have n3_ := Aside0.mk (Kd.R_below (zo HO_933000) hb)
     have n4_ := Aside0.mk (Kd.R_below (zo HO_933001) hb)
     have n5_ := Aside0.mk (Kd.R_below (zo HO944) hb)
     have n6_ := Aside0.mk (Kd.R_below (zo HO947) hb)
     have n7_ := Aside0.mk (blk_below (g := gb925) (o := .cells #[.slice Ao8 t919.length co8, .slice Ao10 t922.length co10] 26 (0, 0)) (zb BK925) hb)
     have n8_ := Aside0.mk (blk_below (g := gb932) (o := .cells #[.slice Ao14 t926.length co14, .slice Ao17 t929.length co17] 26 (0, 0)) (zb BK932) hb)
     have n9_ := Aside0.mk (below_step (zB HB) hb)
     clear HO_3
     clear HO_926000
     clear HO_926001
     clear HO_933000
     clear HO_933001
     clear HO944
     clear HO947
     clear BK925
     clear BK932
     clear HB
     have HO_3 := n0_
     have HO_926000 := n1_
     have HO_926001 := n2_
     have HO_933000 := n3_
     have HO_933001 := n4_
     have HO944 := n5_
     have HO947 := n6_
     have BK925 := n7_
     have BK932 := n8_
     have HB := n9_
     clear n0_ n1_ n2_ n3_ n4_ n5_ n6_ n7_ n8_ n9_
     (try clear hb)
     (try clear hb2)
     (try clear hk)
     (try clear hi)
     refine hK.out _ _ ⟨(blk_cell BK932.out 0).trans rfl, (blk_cell BK932.out 1).trans rfl, (blk_cell BK925.out 0).trans rfl, (blk_cell BK925.out 1).trans rfl⟩ (fun hHeld => ?_)
     clear hK K
     refine norm_ (a' := ?_) ?_ ?_
     rotate_left
     ·show Act.put _ (some 37) _ = _
      simp only [Act.put, List.setIfInBounds_toArray, List.set_cons_zero, List.set_cons_succ, i64_w, i32_w]
      rfl
     refine pure_ (i := 5) (N := some 2) (v := ?_) (a' := ?_) #[true, true, true, true, true, true] rfl rfl (by kernel_rfl) (fun _ _ _ h => h) (Or.inl ⟨by rfl, ?_⟩) ?_ ?_
     rotate_left
     ·intro w'
      go_simp
      with_reducible rfl
     rotate_left
     ·simp only [Act.put, List.setIfInBounds_toArray, List.set_cons_zero, List.set_cons_succ, i64_w, i32_w]
      rfl
     refine done_ (by kernel_rfl) ?_
     try go_wp2
     go_ret
     exact ⟨by first | rfl | (simp [errW_none, errW_some] <;> rfl) | (simp [*, errW_none, errW_some] <;> rfl), by repeat (first | (with_reducible first | exact HB.out | apply below_alloc | apply pw_below_drewN | apply below_drew1 | refine below_set ?_ GE925.out | refine below_set ?_ GE932.out) | exact HB.out)⟩
    ·replace c45 := Bool.eq_false_iff.mpr c45
     subst c45
     have H1 : ((impl_TurnBack.f kj4 t916).bind fun t949 => ((impl_TurnFlat.f kj4 t949 t926 t929).bind fun bt952 => ((laws_equalFlat.f kj4 bt952.1 bt952.2 t919 t922).bind fun t958 => (if t958 = true then ((impl_ValidFlat.f kj4 t926 t929).bind fun t959 => (if t959 = true then ((laws_size.f t926 t929).bind fun t960 => ((laws_size.f t919 t922).bind fun t961 => (some (t960 == t961)))) else (some false))) else (some false))))) = some r := by rw [if_neg (show ¬ (false = true) by decide)] at H; exact H
     clear H
     have H := H1
     clear H1
     replace H := Option.bind_eq_some_iff.mp H
     obtain ⟨t949, A530, H⟩ := H
     replace H : ((impl_TurnFlat.f kj4 t949 t926 t929).bind fun bt952 => ((laws_equalFlat.f kj4 bt952.1 bt952.2 t919 t922).bind fun t958 => (if t958 = true then ((impl_ValidFlat.f kj4 t926 t929).bind fun t959 => (if t959 = true then ((laws_size.f t926 t929).bind fun t960 => ((laws_size.f t919 t922).bind fun t961 => (some (t960 == t961)))) else (some false))) else (some false)))) = some r := H
     have A53 := Aside0.mk A530
     clear A530
     replace H := Option.bind_eq_some_iff.mp H
     obtain ⟨⟨t952, t955⟩, A540, H⟩ := H
     replace H : ((laws_equalFlat.f kj4 t952 t955 t919 t922).bind fun t958 => (if t958 = true then ((impl_ValidFlat.f kj4 t926 t929).bind fun t959 => (if t959 = true then ((laws_size.f t926 t929).bind fun t960 => ((laws_size.f t919 t922).bind fun t961 => (some (t960 == t961)))) else (some false))) else (some false))) = some r := H
     have A54 := Aside0.mk A540
     clear A540
     replace H := Option.bind_eq_some_iff.mp H
     obtain ⟨t958, A550, H⟩ := H
     replace H : (if t958 = true then ((impl_ValidFlat.f kj4 t926 t929).bind fun t959 => (if t959 = true then ((laws_size.f t926 t929).bind fun t960 => ((laws_size.f t919 t922).bind fun t961 => (some (t960 == t961)))) else (some false))) else (some false)) = some r := H
     have A55 := Aside0.mk A550
     clear A550
     by_cases c56 : t958 = true
     ·subst c56
      have H1 : ((impl_ValidFlat.f kj4 t926 t929).bind fun t959 => (if t959 = true then ((laws_size.f t926 t929).bind fun t960 => ((laws_size.f t919 t922).bind fun t961 => (some (t960 == t961)))) else (some false))) = some r := by rw [if_pos rfl] at H; exact H
      clear H
      have H := H1
      clear H1
      replace H := Option.bind_eq_some_iff.mp H
      obtain ⟨t959, A570, H⟩ := H
      replace H : (if t959 = true then ((laws_size.f t926 t929).bind fun t960 => ((laws_size.f t919 t922).bind fun t961 => (some (t960 == t961)))) else (some false)) = some r := H
      have A57 := Aside0.mk A570
      clear A570
      by_cases c58 : t959 = true
      ·subst c58
       have H1 : ((laws_size.f t926 t929).bind fun t960 => ((laws_size.f t919 t922).bind fun t961 => (some (t960 == t961)))) = some r := by rw [if_pos rfl] at H; exact H
       clear H
       have H := H1
       clear H1
       replace H := Option.bind_eq_some_iff.mp H
       obtain ⟨t960, A590, H⟩ := H
       replace H : ((laws_size.f t919 t922).bind fun t961 => (some (t960 == t961))) = some r := H
       have A59 := Aside0.mk A590
       clear A590
       replace H := Option.bind_eq_some_iff.mp H
       obtain ⟨t961, A600, H⟩ := H
       replace H : (some (t960 == t961)) = some r := H
       have A60 := Aside0.mk A600
       clear A600
       obtain rfl := Option.some.inj H
       try go_wp2
       have n0_ := Aside0.mk (Kd.R_drew HO_3.out)
       have n1_ := Aside0.mk (Kd.R_drew HO_926000.out)
       have n2_ := Aside0.mk (Kd.R_drew HO_926001.out)
       have n3_ := Aside0.mk (Kd.R_drew HO_933000.out)
       have n4_ := Aside0.mk (Kd.R_drew HO_933001.out)
       have n5_ := Aside0.mk (blk_drew BK925.out)
       have n6_ := Aside0.mk (blk_drew BK932.out)
       have n7_ := Aside0.mk (below_drew1 HB.out)
       clear HO_3
       clear HO_926000
       clear HO_926001
       clear HO_933000
       clear HO_933001
       clear BK925
       clear BK932
       clear HB
       have HO_3 := n0_
       have HO_926000 := n1_
       have HO_926001 := n2_
       have HO_933000 := n3_
       have HO_933001 := n4_
       have BK925 := n5_
       have BK932 := n6_
       have HB := n7_
       clear n0_ n1_ n2_ n3_ n4_ n5_ n6_ n7_
       refine start_ (n := 18) (S := fun w' => w'.cell? ⟨gb932, 0, none⟩ = some (.slice Ao14 t926.length co14) ∧ w'.cell? ⟨gb932, 1, none⟩ = some (.slice Ao17 t929.length co17) ∧ w'.cell? ⟨gb925, 0, none⟩ = some (.slice Ao8 t919.length co8) ∧ w'.cell? ⟨gb925, 1, none⟩ = some (.slice Ao10 t922.length co10)) (ds := []) #[false, false, false, false, false, false, false, false, false, false, false, false, false, false, false, false, false, false] (by kernel_rfl) rfl rfl ⟨(blk_cell BK932.out 0).trans rfl, (blk_cell BK932.out 1).trans rfl, (blk_cell BK925.out 0).trans rfl, (blk_cell BK925.out 1).trans rfl⟩ (fun hHeld => ?_); refine with_tabW laws_FnTurnFlat.tab7 laws_FnTurnFlat.bits7 (fun HT_ HW_ => ?_)
       generalize wc.drew = w61 at HO_3 HO_926000 HO_926001 HO_933000 HO_933001 BK925 BK932 HB hHeld ⊢
       refine pure_ (i := 0) (N := some 38) (v := ?_) (a' := ?_) #[true, false, false, false, false, false, false, false, false, false, false, false, false, false, false, false, false, false] rfl rfl (any_of HT_.out (by kernel_rfl)) (fun _ _ _ h => h) (Or.inl ⟨by rfl, ?_⟩) ?_ ?_
       rotate_left
       ·intro w'
        go_simp
        with_reducible rfl
       rotate_left
       ·simp only [Act.put, List.setIfInBounds_toArray, List.set_cons_zero, List.set_cons_succ, i64_w, i32_w]
        rfl
       refine take_ (i := 2) (N := some 40) (v := ?_) (a' := ?_) #[true, false, true, false, false, false, false, false, false, false, false, false, false, false, false, false, false, false] rfl rfl (take_ofW HT_.out HW_.out (by kernel_rfl)) (fun _ _ _ h => h) (Or.inl ⟨by rfl, ?_⟩) hHeld ?_ ?_
       rotate_left
       ·rintro w' ⟨s0, s1, s2, s3⟩
        go_simp
        with_reducible rfl
       rotate_left
       ·simp only [Act.put, List.setIfInBounds_toArray, List.set_cons_zero, List.set_cons_succ, i64_w, i32_w]
        rfl
       refine take_ (i := 4) (N := some 42) (v := ?_) (a' := ?_) #[true, false, true, false, true, false, false, false, false, false, false, false, false, false, false, false, false, false] rfl rfl (take_ofW HT_.out HW_.out (by kernel_rfl)) (fun _ _ _ h => h) (Or.inl ⟨by rfl, ?_⟩) hHeld ?_ ?_
       rotate_left
       ·rintro w' ⟨s0, s1, s2, s3⟩
        go_simp
        with_reducible rfl
       rotate_left
       ·simp only [Act.put, List.setIfInBounds_toArray, List.set_cons_zero, List.set_cons_succ, i64_w, i32_w]
        rfl
       refine one_ (i := 1) (N := some 39) #[true, true, true, false, true, false, false, false, false, false, false, false, false, false, false, false, false, false] rfl rfl (one_of HT_.out (by kernel_rfl)) (by decide) (fun K hK => ?_)
       refine goes_ Try.func42 (by kernel_rfl) rfl #[.slice Ao11 t916.length co11] (by rfl) rfl rfl zl ?_
       with_reducible refine (impl_TurnBack.calls kj4 _ _ t916 t949 _ ?side1 ?side2 A53.out).mono ?_
       (case side1 => repeat (first | exact (Kd.R_reads' HO_3.out).2.2 | (with_reducible refine Kd.C_alloc ?_ _) | (with_reducible refine Kd.C_drewN ?_ _) | (with_reducible refine Kd.C_drew ?_)))
       (case side2 => exact (Kd.R_reads' HO_3.out).2.1)
       rintro e w62 ⟨v950, rfl, ho0, hb⟩
       refine ⟨_, rfl, ?_⟩
       have n0_ := Aside0.mk (Kd.R_elder' (zo HO_3) (Kd.R_base ho0) hb)
       have n1_ := Aside0.mk (Kd.R_below (zo HO_926000) hb)
       have n2_ := Aside0.mk (Kd.R_below (zo HO_926001) hb)
       have n3_ := Aside0.mk (Kd.R_below (zo HO_933000) hb)
       have n4_ := Aside0.mk (Kd.R_below (zo HO_933001) hb)
       have n5_ := Aside0.mk (Kd.R_lower (Kd.R_new' ho0 (Kd.R_lt (zo HO_3))) (below_size (zB HB)))
       have n6_ := Aside0.mk (blk_below (g := gb925) (o := .cells #[.slice Ao8 t919.length co8, .slice Ao10 t922.length co10] 26 (0, 0)) (zb BK925) hb)
       have n7_ := Aside0.mk (blk_below (g := gb932) (o := .cells #[.slice Ao14 t926.length co14, .slice Ao17 t929.length co17] 26 (0, 0)) (zb BK932) hb)
       have n8_ := Aside0.mk (below_step (zB HB) hb)
       clear HO_3
       clear HO_926000
       clear HO_926001
       clear HO_933000
       clear HO_933001
       clear BK925
       clear BK932
       clear HB
       have HO_3 := n0_
       have HO_926000 := n1_
       have HO_926001 := n2_
       have HO_933000 := n3_
       have HO_933001 := n4_
       have HO951 := n5_
       have BK925 := n6_
       have BK932 := n7_
       have HB := n8_
       clear n0_ n1_ n2_ n3_ n4_ n5_ n6_ n7_ n8_
       (try clear hb)
       (try clear hb2)
       (try clear hk)
       (try clear hi)
       (try clear ho0)
       obtain ⟨Ao63, co63, eo63⟩ := Kd.R_slice HO951.out
       (first | subst eo63 | (injection eo63 with f1_ f2_ f3_; have f4_ := f1_.symm; have f5_ := f3_.symm; clear f1_ f2_ f3_; subst f4_; subst f5_))
       refine hK.out _ _ ⟨(blk_cell BK932.out 0).trans rfl, (blk_cell BK932.out 1).trans rfl, (blk_cell BK925.out 0).trans rfl, (blk_cell BK925.out 1).trans rfl⟩ (fun hHeld => ?_)
       clear hK K
       refine norm_ (a' := ?_) ?_ ?_
       rotate_left
       ·show Act.put _ (some 39) _ = _
        simp only [Act.put, List.setIfInBounds_toArray, List.set_cons_zero, List.set_cons_succ, i64_w, i32_w]
        rfl
       refine one_ (i := 3) (N := some 41) #[true, true, true, true, true, false, false, false, false, false, false, false, false, false, false, false, false, false] rfl rfl (one_of HT_.out (by kernel_rfl)) (by decide) (fun K hK => ?_)
       refine goes_ Try.func43 (by kernel_rfl) rfl #[.slice Ao63 t949.length co63, .agg #[.slice Ao14 t926.length co14, .slice Ao17 t929.length co17]] (by rfl) rfl rfl zl ?_
       with_reducible refine (impl_TurnFlat.calls kj4 _ _ t949 _ _ t926 _ _ t929 t952 t955 _ ?side1 ?side2 ?side3 ?side4 ?side5 ?side6 A54.out).mono ?_
       (case side1 => repeat (first | exact (Kd.R_reads' HO951.out).2.2 | (with_reducible refine Kd.C_alloc ?_ _) | (with_reducible refine Kd.C_drewN ?_ _) | (with_reducible refine Kd.C_drew ?_)))
       (case side2 => exact (Kd.R_reads' HO951.out).2.1)
       (case side3 => repeat (first | exact (Kd.R_reads' HO_933000.out).2.2 | (with_reducible refine Kd.C_alloc ?_ _) | (with_reducible refine Kd.C_drewN ?_ _) | (with_reducible refine Kd.C_drew ?_)))
       (case side4 => exact (Kd.R_reads' HO_933000.out).2.1)
       (case side5 => repeat (first | exact (Kd.R_reads' HO_933001.out).2.2 | (with_reducible refine Kd.C_alloc ?_ _) | (with_reducible refine Kd.C_drewN ?_ _) | (with_reducible refine Kd.C_drew ?_)))
       (case side6 => exact (Kd.R_reads' HO_933001.out).2.1)
       rintro e w64 ⟨v953, v956, rfl, ho0, ho1, hb⟩
       refine ⟨_, rfl, ?_⟩
       have n0_ := Aside0.mk (Kd.R_below (zo HO_3) hb)
       have n1_ := Aside0.mk (Kd.R_elder' (zo HO_926000) (Kd.R_base ho0) hb)
       have n2_ := Aside0.mk (Kd.R_elder' (zo HO_926001) (Kd.R_base ho1) hb)
       have n3_ := Aside0.mk (Kd.R_elder' (zo HO_933000) (Kd.R_base ho0) hb)
       have n4_ := Aside0.mk (Kd.R_elder' (zo HO_933001) (Kd.R_base ho1) hb)
       have n5_ := Aside0.mk (Kd.R_below (zo HO951) hb)
       have n6_ := Aside0.mk (Kd.R_lower (Kd.R_new' (Kd.R_new' ho0 (Kd.R_lt (zo HO_926000))) (Kd.R_lt (zo HO_933000))) (below_size (zB HB)))
       have n7_ := Aside0.mk (Kd.R_lower (Kd.R_new' (Kd.R_new' ho1 (Kd.R_lt (zo HO_926001))) (Kd.R_lt (zo HO_933001))) (below_size (zB HB)))
       have n8_ := Aside0.mk (blk_below (g := gb925) (o := .cells #[.slice Ao8 t919.length co8, .slice Ao10 t922.length co10] 26 (0, 0)) (zb BK925) hb)
       have n9_ := Aside0.mk (blk_below (g := gb932) (o := .cells #[.slice Ao14 t926.length co14, .slice Ao17 t929.length co17] 26 (0, 0)) (zb BK932) hb)
       have n10_ := Aside0.mk (below_step (zB HB) hb)
       clear HO_3
       clear HO_926000
       clear HO_926001
       clear HO_933000
       clear HO_933001
       clear HO951
       clear BK925
       clear BK932
       clear HB
       have HO_3 := n0_
       have HO_926000 := n1_
       have HO_926001 := n2_
       have HO_933000 := n3_
       have HO_933001 := n4_
       have HO951 := n5_
       have HO954 := n6_
       have HO957 := n7_
       have BK925 := n8_
       have BK932 := n9_
       have HB := n10_
       clear n0_ n1_ n2_ n3_ n4_ n5_ n6_ n7_ n8_ n9_ n10_
       (try clear hb)
       (try clear hb2)
       (try clear hk)
       (try clear hi)
       (try clear ho0)
       (try clear ho1)
       obtain ⟨Ao65, co65, eo65⟩ := Kd.R_slice HO954.out
       (first | subst eo65 | (injection eo65 with f1_ f2_ f3_; have f4_ := f1_.symm; have f5_ := f3_.symm; clear f1_ f2_ f3_; subst f4_; subst f5_))
       obtain ⟨Ao66, co66, eo66⟩ := Kd.R_slice HO957.out
       (first | subst eo66 | (injection eo66 with f1_ f2_ f3_; have f4_ := f1_.symm; have f5_ := f3_.symm; clear f1_ f2_ f3_; subst f4_; subst f5_))
       refine hK.out _ _ ⟨(blk_cell BK932.out 0).trans rfl, (blk_cell BK932.out 1).trans rfl, (blk_cell BK925.out 0).trans rfl, (blk_cell BK925.out 1).trans rfl⟩ (fun hHeld => ?_)
       clear hK K
       refine norm_ (a' := ?_) ?_ ?_
       rotate_left
       ·show Act.put _ (some 41) _ = _
        simp only [Act.put, List.setIfInBounds_toArray, List.set_cons_zero, List.set_cons_succ, i64_w, i32_w]
        rfl
       refine one_ (i := 5) (N := some 43) #[true, true, true, true, true, true, false, false, false, false, false, false, false, false, false, false, false, false] rfl rfl (one_of HT_.out (by kernel_rfl)) (by decide) (fun K hK => ?_)
       refine goes_ Try.func15 (by kernel_rfl) rfl #[.agg #[.slice Ao65 t952.length co65, .slice Ao66 t955.length co66], .agg #[.slice Ao8 t919.length co8, .slice Ao10 t922.length co10]] (by rfl) rfl rfl zl ?_
       with_reducible refine (laws_equalFlat.calls kj4 _ _ t952 _ _ t955 _ _ t919 _ _ t922 true _ ?side1 ?side2 ?side3 ?side4 ?side5 ?side6 ?side7 ?side8 A55.out).mono ?_
       (case side1 => repeat (first | exact (Kd.R_reads' HO954.out).2.2 | (with_reducible refine Kd.C_alloc ?_ _) | (with_reducible refine Kd.C_drewN ?_ _) | (with_reducible refine Kd.C_drew ?_)))
       (case side2 => exact (Kd.R_reads' HO954.out).2.1)
       (case side3 => repeat (first | exact (Kd.R_reads' HO957.out).2.2 | (with_reducible refine Kd.C_alloc ?_ _) | (with_reducible refine Kd.C_drewN ?_ _) | (with_reducible refine Kd.C_drew ?_)))
       (case side4 => exact (Kd.R_reads' HO957.out).2.1)
       (case side5 => repeat (first | exact (Kd.R_reads' HO_926000.out).2.2 | (with_reducible refine Kd.C_alloc ?_ _) | (with_reducible refine Kd.C_drewN ?_ _) | (with_reducible refine Kd.C_drew ?_)))
       (case side6 => exact (Kd.R_reads' HO_926000.out).2.1)
       (case side7 => repeat (first | exact (Kd.R_reads' HO_926001.out).2.2 | (with_reducible refine Kd.C_alloc ?_ _) | (with_reducible refine Kd.C_drewN ?_ _) | (with_reducible refine Kd.C_drew ?_)))
       (case side8 => exact (Kd.R_reads' HO_926001.out).2.1)
       rintro e w67 ⟨rfl, hb⟩
       refine ⟨_, rfl, ?_⟩
       have n0_ := Aside0.mk (Kd.R_below (zo HO_3) hb)
       have n1_ := Aside0.mk (Kd.R_below (zo HO_926000) hb)
       have n2_ := Aside0.mk (Kd.R_below (zo HO_926001) hb)
       have n3_ := Aside0.mk (Kd.R_below (zo HO_933000) hb)
       have n4_ := Aside0.mk (Kd.R_below (zo HO_933001) hb)
       have n5_ := Aside0.mk (Kd.R_below (zo HO951) hb)
       have n6_ := Aside0.mk (Kd.R_below (zo HO954) hb)
       have n7_ := Aside0.mk (Kd.R_below (zo HO957) hb)
       have n8_ := Aside0.mk (blk_below (g := gb925) (o := .cells #[.slice Ao8 t919.length co8, .slice Ao10 t922.length co10] 26 (0, 0)) (zb BK925) hb)
       have n9_ := Aside0.mk (blk_below (g := gb932) (o := .cells #[.slice Ao14 t926.length co14, .slice Ao17 t929.length co17] 26 (0, 0)) (zb BK932) hb)
       have n10_ := Aside0.mk (below_step (zB HB) hb)
       clear HO_3
       clear HO_926000
       clear HO_926001
       clear HO_933000
       clear HO_933001
       clear HO951
       clear HO954
       clear HO957
       clear BK925
       clear BK932
       clear HB
       have HO_3 := n0_
       have HO_926000 := n1_
       have HO_926001 := n2_
       have HO_933000 := n3_
       have HO_933001 := n4_
       have HO951 := n5_
       have HO954 := n6_
       have HO957 := n7_
       have BK925 := n8_
       have BK932 := n9_
       have HB := n10_
       clear n0_ n1_ n2_ n3_ n4_ n5_ n6_ n7_ n8_ n9_ n10_
       (try clear hb)
       (try clear hb2)
       (try clear hk)
       (try clear hi)
       refine hK.out _ _ ⟨(blk_cell BK932.out 0).trans rfl, (blk_cell BK932.out 1).trans rfl, (blk_cell BK925.out 0).trans rfl, (blk_cell BK925.out 1).trans rfl⟩ (fun hHeld => ?_)
       clear hK K
       refine norm_ (a' := ?_) ?_ ?_
       rotate_left
       ·show Act.put _ (some 43) _ = _
        simp only [Act.put, List.setIfInBounds_toArray, List.set_cons_zero, List.set_cons_succ, i64_w, i32_w]
        rfl
       refine pure_ (i := 6) (N := some 44) (v := ?_) (a' := ?_) #[true, true, true, true, true, true, true, false, false, false, false, false, false, false, false, false, false, false] rfl rfl (any_of HT_.out (by kernel_rfl)) (fun _ _ _ h => h) (Or.inl ⟨by rfl, ?_⟩) ?_ ?_
       rotate_left
       ·intro w'
        go_simp
        with_reducible rfl
       rotate_left
       ·simp only [Act.put, List.setIfInBounds_toArray, List.set_cons_zero, List.set_cons_succ, i64_w, i32_w]
        rfl
       refine take_ (i := 7) (N := some 45) (v := ?_) (a' := ?_) #[true, true, true, true, true, true, true, true, false, false, false, false, false, false, false, false, false, false] rfl rfl (take_ofW HT_.out HW_.out (by kernel_rfl)) (fun _ _ _ h => h) (Or.inl ⟨by rfl, ?_⟩) hHeld ?_ ?_
       rotate_left
       ·rintro w' ⟨s0, s1, s2, s3⟩
        go_simp
        with_reducible rfl
       rotate_left
       ·simp only [Act.put, List.setIfInBounds_toArray, List.set_cons_zero, List.set_cons_succ, i64_w, i32_w]
        rfl
       refine one_ (i := 8) (N := some 46) #[true, true, true, true, true, true, true, true, true, false, false, false, false, false, false, false, false, false] rfl rfl (one_of HT_.out (by kernel_rfl)) (by decide) (fun K hK => ?_)
       refine goes_ Try.func22 (by kernel_rfl) rfl #[.agg #[.slice Ao14 t926.length co14, .slice Ao17 t929.length co17]] (by rfl) rfl rfl zl ?_
       with_reducible refine (impl_ValidFlat.calls kj4 _ _ t926 _ _ t929 true _ ?side1 ?side2 ?side3 ?side4 A57.out).mono ?_
       (case side1 => repeat (first | exact (Kd.R_reads' HO_933000.out).2.2 | (with_reducible refine Kd.C_alloc ?_ _) | (with_reducible refine Kd.C_drewN ?_ _) | (with_reducible refine Kd.C_drew ?_)))
       (case side2 => exact (Kd.R_reads' HO_933000.out).2.1)
       (case side3 => repeat (first | exact (Kd.R_reads' HO_933001.out).2.2 | (with_reducible refine Kd.C_alloc ?_ _) | (with_reducible refine Kd.C_drewN ?_ _) | (with_reducible refine Kd.C_drew ?_)))
       (case side4 => exact (Kd.R_reads' HO_933001.out).2.1)
       rintro e w68 ⟨rfl, hb⟩
       refine ⟨_, rfl, ?_⟩
       have n0_ := Aside0.mk (Kd.R_below (zo HO_3) hb)
       have n1_ := Aside0.mk (Kd.R_below (zo HO_926000) hb)
       have n2_ := Aside0.mk (Kd.R_below (zo HO_926001) hb)
       have n3_ := Aside0.mk (Kd.R_below (zo HO_933000) hb)
       have n4_ := Aside0.mk (Kd.R_below (zo HO_933001) hb)
       have n5_ := Aside0.mk (Kd.R_below (zo HO951) hb)
       have n6_ := Aside0.mk (Kd.R_below (zo HO954) hb)
       have n7_ := Aside0.mk (Kd.R_below (zo HO957) hb)
       have n8_ := Aside0.mk (blk_below (g := gb925) (o := .cells #[.slice Ao8 t919.length co8, .slice Ao10 t922.length co10] 26 (0, 0)) (zb BK925) hb)
       have n9_ := Aside0.mk (blk_below (g := gb932) (o := .cells #[.slice Ao14 t926.length co14, .slice Ao17 t929.length co17] 26 (0, 0)) (zb BK932) hb)
       have n10_ := Aside0.mk (below_step (zB HB) hb)
       clear HO_3
       clear HO_926000
       clear HO_926001
       clear HO_933000
       clear HO_933001
       clear HO951
       clear HO954
       clear HO957
       clear BK925
       clear BK932
       clear HB
       have HO_3 := n0_
       have HO_926000 := n1_
       have HO_926001 := n2_
       have HO_933000 := n3_
       have HO_933001 := n4_
       have HO951 := n5_
       have HO954 := n6_
       have HO957 := n7_
       have BK925 := n8_
       have BK932 := n9_
       have HB := n10_
       clear n0_ n1_ n2_ n3_ n4_ n5_ n6_ n7_ n8_ n9_ n10_
       (try clear hb)
       (try clear hb2)
       (try clear hk)
       (try clear hi)
       refine hK.out _ _ ⟨(blk_cell BK932.out 0).trans rfl, (blk_cell BK932.out 1).trans rfl, (blk_cell BK925.out 0).trans rfl, (blk_cell BK925.out 1).trans rfl⟩ (fun hHeld => ?_)
       clear hK K
       refine norm_ (a' := ?_) ?_ ?_
       rotate_left
       ·show Act.put _ (some 46) _ = _
        simp only [Act.put, List.setIfInBounds_toArray, List.set_cons_zero, List.set_cons_succ, i64_w, i32_w]
        rfl
       refine pure_ (i := 9) (N := some 47) (v := ?_) (a' := ?_) #[true, true, true, true, true, true, true, true, true, true, false, false, false, false, false, false, false, false] rfl rfl (any_of HT_.out (by kernel_rfl)) (fun _ _ _ h => h) (Or.inl ⟨by rfl, ?_⟩) ?_ ?_
       rotate_left
       ·intro w'
        go_simp
        with_reducible rfl
       rotate_left
       ·simp only [Act.put, List.setIfInBounds_toArray, List.set_cons_zero, List.set_cons_succ, i64_w, i32_w]
        rfl
       refine pure_ (i := 10) (N := some 48) (v := ?_) (a' := ?_) #[true, true, true, true, true, true, true, true, true, true, true, false, false, false, false, false, false, false] rfl rfl (any_of HT_.out (by kernel_rfl)) (fun _ _ _ h => h) (Or.inl ⟨by rfl, ?_⟩) ?_ ?_
       rotate_left
       ·intro w'
        go_simp
        with_reducible rfl
       rotate_left
       ·simp only [Act.put, List.setIfInBounds_toArray, List.set_cons_zero, List.set_cons_succ, i64_w, i32_w]
        rfl
       refine take_ (i := 11) (N := some 49) (v := ?_) (a' := ?_) #[true, true, true, true, true, true, true, true, true, true, true, true, false, false, false, false, false, false] rfl rfl (take_ofW HT_.out HW_.out (by kernel_rfl)) (fun _ _ _ h => h) (Or.inl ⟨by rfl, ?_⟩) hHeld ?_ ?_
       rotate_left
       ·rintro w' ⟨s0, s1, s2, s3⟩
        go_simp
        with_reducible rfl
       rotate_left
       ·simp only [Act.put, List.setIfInBounds_toArray, List.set_cons_zero, List.set_cons_succ, i64_w, i32_w]
        rfl
       refine take_ (i := 13) (N := some 51) (v := ?_) (a' := ?_) #[true, true, true, true, true, true, true, true, true, true, true, true, false, true, false, false, false, false] rfl rfl (take_ofW HT_.out HW_.out (by kernel_rfl)) (fun _ _ _ h => h) (Or.inl ⟨by rfl, ?_⟩) hHeld ?_ ?_
       rotate_left
       ·rintro w' ⟨s0, s1, s2, s3⟩
        go_simp
        with_reducible rfl
       rotate_left
       ·simp only [Act.put, List.setIfInBounds_toArray, List.set_cons_zero, List.set_cons_succ, i64_w, i32_w]
        rfl
       refine one_ (i := 12) (N := some 50) #[true, true, true, true, true, true, true, true, true, true, true, true, true, true, false, false, false, false] rfl rfl (one_of HT_.out (by kernel_rfl)) (by decide) (fun K hK => ?_)
       refine goes_ Try.func28 (by kernel_rfl) rfl #[.agg #[.slice Ao14 t926.length co14, .slice Ao17 t929.length co17]] (by rfl) rfl rfl zl ?_
       with_reducible refine (laws_size.calls _ _ t926 _ _ t929 t960 _ ?side1 ?side2 ?side3 ?side4 A59.out).mono ?_
       (case side1 => repeat (first | exact (Kd.R_reads' HO_933000.out).2.2 | (with_reducible refine Kd.C_alloc ?_ _) | (with_reducible refine Kd.C_drewN ?_ _) | (with_reducible refine Kd.C_drew ?_)))
       (case side2 => exact (Kd.R_reads' HO_933000.out).2.1)
       (case side3 => repeat (first | exact (Kd.R_reads' HO_933001.out).2.2 | (with_reducible refine Kd.C_alloc ?_ _) | (with_reducible refine Kd.C_drewN ?_ _) | (with_reducible refine Kd.C_drew ?_)))
       (case side4 => exact (Kd.R_reads' HO_933001.out).2.1)
       rintro e w69 ⟨rfl, hb⟩
       refine ⟨_, rfl, ?_⟩
       have n0_ := Aside0.mk (Kd.R_below (zo HO_3) hb)
       have n1_ := Aside0.mk (Kd.R_below (zo HO_926000) hb)
       have n2_ := Aside0.mk (Kd.R_below (zo HO_926001) hb)
       have n3_ := Aside0.mk (Kd.R_below (zo HO_933000) hb)
       have n4_ := Aside0.mk (Kd.R_below (zo HO_933001) hb)
       have n5_ := Aside0.mk (Kd.R_below (zo HO951) hb)
       have n6_ := Aside0.mk (Kd.R_below (zo HO954) hb)
       have n7_ := Aside0.mk (Kd.R_below (zo HO957) hb)
       have n8_ := Aside0.mk (blk_below (g := gb925) (o := .cells #[.slice Ao8 t919.length co8, .slice Ao10 t922.length co10] 26 (0, 0)) (zb BK925) hb)
       have n9_ := Aside0.mk (blk_below (g := gb932) (o := .cells #[.slice Ao14 t926.length co14, .slice Ao17 t929.length co17] 26 (0, 0)) (zb BK932) hb)
       have n10_ := Aside0.mk (below_step (zB HB) hb)
       clear HO_3
       clear HO_926000
       clear HO_926001
       clear HO_933000
       clear HO_933001
       clear HO951
       clear HO954
       clear HO957
       clear BK925
       clear BK932
       clear HB
       have HO_3 := n0_
       have HO_926000 := n1_
       have HO_926001 := n2_
       have HO_933000 := n3_
       have HO_933001 := n4_
       have HO951 := n5_
       have HO954 := n6_
       have HO957 := n7_
       have BK925 := n8_
       have BK932 := n9_
       have HB := n10_
       clear n0_ n1_ n2_ n3_ n4_ n5_ n6_ n7_ n8_ n9_ n10_
       (try clear hb)
       (try clear hb2)
       (try clear hk)
       (try clear hi)
       refine hK.out _ _ ⟨(blk_cell BK932.out 0).trans rfl, (blk_cell BK932.out 1).trans rfl, (blk_cell BK925.out 0).trans rfl, (blk_cell BK925.out 1).trans rfl⟩ (fun hHeld => ?_)
       clear hK K
       refine norm_ (a' := ?_) ?_ ?_
       rotate_left
       ·show Act.put _ (some 50) _ = _
        simp only [Act.put, List.setIfInBounds_toArray, List.set_cons_zero, List.set_cons_succ, i64_w, i32_w]
        rfl
       refine one_ (i := 14) (N := some 52) #[true, true, true, true, true, true, true, true, true, true, true, true, true, true, true, false, false, false] rfl rfl (one_of HT_.out (by kernel_rfl)) (by decide) (fun K hK => ?_)
       refine goes_ Try.func28 (by kernel_rfl) rfl #[.agg #[.slice Ao8 t919.length co8, .slice Ao10 t922.length co10]] (by rfl) rfl rfl zl ?_
       with_reducible refine (laws_size.calls _ _ t919 _ _ t922 t961 _ ?side1 ?side2 ?side3 ?side4 A60.out).mono ?_
       (case side1 => repeat (first | exact (Kd.R_reads' HO_926000.out).2.2 | (with_reducible refine Kd.C_alloc ?_ _) | (with_reducible refine Kd.C_drewN ?_ _) | (with_reducible refine Kd.C_drew ?_)))
       (case side2 => exact (Kd.R_reads' HO_926000.out).2.1)
       (case side3 => repeat (first | exact (Kd.R_reads' HO_926001.out).2.2 | (with_reducible refine Kd.C_alloc ?_ _) | (with_reducible refine Kd.C_drewN ?_ _) | (with_reducible refine Kd.C_drew ?_)))
       (case side4 => exact (Kd.R_reads' HO_926001.out).2.1)
       rintro e w70 ⟨rfl, hb⟩
       refine ⟨_, rfl, ?_⟩
       have n0_ := Aside0.mk (Kd.R_below (zo HO_3) hb)
       have n1_ := Aside0.mk (Kd.R_below (zo HO_926000) hb)
       have n2_ := Aside0.mk (Kd.R_below (zo HO_926001) hb)
       have n3_ := Aside0.mk (Kd.R_below (zo HO_933000) hb)
       have n4_ := Aside0.mk (Kd.R_below (zo HO_933001) hb)
       have n5_ := Aside0.mk (Kd.R_below (zo HO951) hb)
       have n6_ := Aside0.mk (Kd.R_below (zo HO954) hb)
       have n7_ := Aside0.mk (Kd.R_below (zo HO957) hb)
       have n8_ := Aside0.mk (blk_below (g := gb925) (o := .cells #[.slice Ao8 t919.length co8, .slice Ao10 t922.length co10] 26 (0, 0)) (zb BK925) hb)
       have n9_ := Aside0.mk (blk_below (g := gb932) (o := .cells #[.slice Ao14 t926.length co14, .slice Ao17 t929.length co17] 26 (0, 0)) (zb BK932) hb)
       have n10_ := Aside0.mk (below_step (zB HB) hb)
       clear HO_3
       clear HO_926000
       clear HO_926001
       clear HO_933000
       clear HO_933001
       clear HO951
       clear HO954
       clear HO957
       clear BK925
       clear BK932
       clear HB
       have HO_3 := n0_
       have HO_926000 := n1_
       have HO_926001 := n2_
       have HO_933000 := n3_
       have HO_933001 := n4_
       have HO951 := n5_
       have HO954 := n6_
       have HO957 := n7_
       have BK925 := n8_
       have BK932 := n9_
       have HB := n10_
       clear n0_ n1_ n2_ n3_ n4_ n5_ n6_ n7_ n8_ n9_ n10_
       (try clear hb)
       (try clear hb2)
       (try clear hk)
       (try clear hi)
       refine hK.out _ _ ⟨(blk_cell BK932.out 0).trans rfl, (blk_cell BK932.out 1).trans rfl, (blk_cell BK925.out 0).trans rfl, (blk_cell BK925.out 1).trans rfl⟩ (fun hHeld => ?_)
       clear hK K
       refine norm_ (a' := ?_) ?_ ?_
       rotate_left
       ·show Act.put _ (some 52) _ = _
        simp only [Act.put, List.setIfInBounds_toArray, List.set_cons_zero, List.set_cons_succ, i64_w, i32_w]
        rfl
       refine pure_ (i := 15) (N := some 53) (v := ?_) (a' := ?_) #[true, true, true, true, true, true, true, true, true, true, true, true, true, true, true, true, false, false] rfl rfl (any_of HT_.out (by kernel_rfl)) (fun _ _ _ h => h) (Or.inl ⟨by rfl, ?_⟩) ?_ ?_
       rotate_left
       ·intro w'
        go_simp
        with_reducible rfl
       rotate_left
       ·simp only [Act.put, List.setIfInBounds_toArray, List.set_cons_zero, List.set_cons_succ, i64_w, i32_w]
        rfl
       refine pure_ (i := 16) (N := some 54) (v := ?_) (a' := ?_) #[true, true, true, true, true, true, true, true, true, true, true, true, true, true, true, true, true, false] rfl rfl (any_of HT_.out (by kernel_rfl)) (fun _ _ _ h => h) (Or.inl ⟨by rfl, ?_⟩) ?_ ?_
       rotate_left
       ·intro w'
        go_simp
        with_reducible rfl
       rotate_left
       ·simp only [Act.put, List.setIfInBounds_toArray, List.set_cons_zero, List.set_cons_succ, i64_w, i32_w]
        rfl
       refine pure_ (i := 17) (N := some 2) (v := ?_) (a' := ?_) #[true, true, true, true, true, true, true, true, true, true, true, true, true, true, true, true, true, true] rfl rfl (any_of HT_.out (by kernel_rfl)) (fun _ _ _ h => h) (Or.inl ⟨by rfl, ?_⟩) ?_ ?_
       rotate_left
       ·intro w'
        go_simp
        with_reducible rfl
       rotate_left
       ·simp only [Act.put, List.setIfInBounds_toArray, List.set_cons_zero, List.set_cons_succ, i64_w, i32_w]
        rfl
       refine done_ (done_of HT_.out (by kernel_rfl)) ?_
       try go_wp2
       go_ret
       exact ⟨by first | rfl | (simp [errW_none, errW_some] <;> rfl) | (simp [*, errW_none, errW_some] <;> rfl), by repeat (first | (with_reducible first | exact HB.out | apply below_alloc | apply pw_below_drewN | apply below_drew1 | refine below_set ?_ GE925.out | refine below_set ?_ GE932.out) | exact HB.out)⟩
      ·replace c58 := Bool.eq_false_iff.mpr c58
       subst c58
       have H1 : (some false) = some r := by rw [if_neg (show ¬ (false = true) by decide)] at H; exact H
       clear H
       have H := H1
       clear H1
       obtain rfl := Option.some.inj H
       exact absurd HR_.out (by decide)
     ·replace c56 := Bool.eq_false_iff.mpr c56
      subst c56
      have H1 : (some false) = some r := by rw [if_neg (show ¬ (false = true) by decide)] at H; exact H
      clear H
      have H := H1
      clear H1
      obtain rfl := Option.some.inj H
      exact absurd HR_.out (by decide)

/-- THE ONE PURE STATEMENT of laws_FnTurnFlat: yours. -/
def laws_FnTurnFlat.Pure : Prop := ∀ (l0 : List Int), l0.length ≤ maxLen → l0.length * 1 ≤ 140737488351232 → (∀ x ∈ l0, (Lit.int .u8 x).wf = true) → ∃ k, laws_FnTurnFlat.f k l0 = some true
theorem laws_FnTurnFlat.walk (P : laws_FnTurnFlat.Pure) (a0 : Option Addr) (len0 cap0 : Nat) (z0 : List Int) (w : World) (w0 : (a0 = none ∧ len0 = 0 ∧ cap0 = 0 ∧ z0 = []) ∨ ∃ x, a0 = some x ∧ len0 ≤ cap0 ∧ cap0 ≤ maxLen ∧ z0.length = cap0 ∧ (∀ i, i < z0.length → w.cell? (x.add i) = some (.int .u8 (z0.getD i 0))) ∧ ∀ n ∈ z0, (Lit.int .u8 n).wf = true) (y0 : len0 * 1 ≤ 140737488351232) :
  Calls Try.prog 10 #[.slice a0 len0 cap0] w fun e w' => e = .returned (.bool true) ∧ Below w.heap.size w w' := by
 obtain ⟨l0, rfl, hr0, hm0, hw0, hc0⟩ := ReadsInt.ofRowC w0
 obtain ⟨k, h⟩ := P l0 hm0 y0 hw0
 refine (laws_FnTurnFlat.calls k _ _ l0 true w (Kd.C_of_reads (d := (0 : Int)) (h1 := fun _ => rfl) hr0) hc0 h rfl).mono ?_
 rintro e w' ⟨rfl, hd⟩
 exact ⟨rfl, hd⟩

end Go.Proofs.Ytfcpbgedgedalaa.Q
