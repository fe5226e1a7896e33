-- written by px.py (a program of this claim's), over the kit's print. Not trusted: Lean checks it.
import Derived.Test.YtfcpbgedgedalaaQ0
import Derived.Test.YtfcpbgedgedalaaQ4
import Derived.Test.YtfcpbgedgedalaaQ10
import Derived.Test.YtfcpbgedgedalaaQ13
import Derived.Test.YtfcpbgedgedalaaQ80
namespace Go.Proofs.Ytfcpbgedgedalaa.Q
open Go.RowKit Go.Proofs.YtfcpbgedgedalaaL.PrintWords Go.Proofs.YtfcpbgedgedalaaL.PrintLast Go.Proofs.YtfcpbgedgedalaaL.PrintMore
attribute [local go_sem] max2_int min2_int max_two min_two max_three min_three max_four min_four   -- for this text's walks alone
set_option linter.unusedVariables false
set_option linter.unusedSimpArgs false

/-! ### spec_DrawTurnFlat: function 44 -/
def spec_DrawTurnFlat.f (k : Nat) (l0 : List Int) : Option ((List (S107)) × List Int × (List (S33))) := (spec_newReader.f l0).bind fun bt888 => ((spec_someTurns.f k bt888.1 bt888.2).bind fun bt891 => ((spec_someFlat.f k bt888.1 bt891.2).bind fun bt895 => (some (bt891.1, bt895.1, bt895.2.1))))
theorem spec_DrawTurnFlat.mono : ∀ a0 k, LeO (spec_DrawTurnFlat.f k a0) (spec_DrawTurnFlat.f (k + 1) a0) := by
 intro a0 k
 unfold spec_DrawTurnFlat.f
 repeat' first
   | (with_reducible exact spec_someFlat.mono _ _ _)
   | (with_reducible exact spec_someTurns.mono _ _ _)
   | (with_reducible exact LeO.refl _)
   | (with_reducible exact LeO.none _)
   | (with_reducible refine LeO.ite ?_ ?_)
   | (with_reducible refine LeO.bind ?_ (fun _ => ?_))
   | exact spec_someFlat.mono _ _ _
   | exact spec_someTurns.mono _ _ _
   | exact LeO.none _
   | refine LeO.ite ?_ ?_
   | refine LeO.bind ?_ (fun _ => ?_)
set_option maxHeartbeats 8000000 in
set_option maxRecDepth 100000 in
theorem spec_DrawTurnFlat.calls (k : Nat) (A0 : Option Addr) (c0 : Nat) (l0 : List Int) (r1 : List (S107)) (r2 : List Int) (r3 : List (S33)) (w : World) (hr0 : Kd.C (Kd.int .u8) w A0 l0.length l0) (hc0 : l0.length ≤ c0) (h : spec_DrawTurnFlat.f k l0 = some (r1, r2, r3)) :
  Calls Try.prog 44 #[.slice A0 l0.length c0] w fun e w' => ∃ v0_ v1_ v2_ : Value, e = .returned (.tuple #[v0_, .agg #[v1_, v2_]]) ∧ Kd.R k107 107 w' w.heap.size (fun _ => True) v0_ r1 ∧ Kd.R (Kd.int .i64) 3 w' w.heap.size (fun _ => True) v1_ r2 ∧ Kd.R k33 33 w' w.heap.size (fun _ => True) v2_ r3 ∧ Below w.heap.size w w' := by
 have hu26 := Try.underlying26
 have HR0 := Aside0.mk hr0
 have HC0 := Aside0.mk hc0
 clear hr0 hc0
 have HB := Aside0.mk (Below.refl w.heap.size w)
 have H : ((spec_newReader.f l0).bind fun bt888 => ((spec_someTurns.f k bt888.1 bt888.2).bind fun bt891 => ((spec_someFlat.f k bt888.1 bt891.2).bind fun bt895 => (some (bt891.1, bt895.1, bt895.2.1))))) = some (r1, r2, r3) := h
 clear h
 replace H := Option.bind_eq_some_iff.mp H
 obtain ⟨⟨t888, t889⟩, A20, H⟩ := H
 replace H : ((spec_someTurns.f k t888 t889).bind fun bt891 => ((spec_someFlat.f k t888 bt891.2).bind fun bt895 => (some (bt891.1, bt895.1, bt895.2.1)))) = some (r1, r2, r3) := H
 have A2 := Aside0.mk A20
 clear A20
 replace H := Option.bind_eq_some_iff.mp H
 obtain ⟨⟨t891, t894⟩, A30, H⟩ := H
 replace H : ((spec_someFlat.f k t888 t894).bind fun bt895 => (some (t891, bt895.1, bt895.2.1))) = some (r1, r2, r3) := H
 have A3 := Aside0.mk A30
 clear A30
 replace H := Option.bind_eq_some_iff.mp H
 obtain ⟨⟨t895, t898, t901⟩, A40, H⟩ := H
 replace H : (some (t891, t895, t898)) = some (r1, r2, r3) := H
 have A4 := Aside0.mk A40
 clear A40
 simp only [Option.some.injEq, Prod.mk.injEq] at H
 obtain ⟨rfl, rfl, rfl⟩ := H
 go_enter Try.func44, Try.ntmps44
 go_wp2_with (first | ((with_reducible refine gate_dst (N := 3) rfl ?_); refine box_event ?hg (N := 3) ?hd (cs := #[.slice none 0 0, .slice none 0 0]) (t := 26) ?hr ?_; (case hd => rfl); (case hg => rfl); (case hr => first | (go_simp; done) | (go_simp; rfl)); intro gb887 hg w5 hbox hb; have n0_ := Aside0.mk (below_step (zB HB) hb); have n1_ := Aside0.mk (hbox); have n2_ := Aside0.mk ((by rw [hg]; exact (below_size (zB HB)) : w.heap.size ≤ gb887)); have n3_ := Aside0.mk ((by rw [hg]; exact (below_size (zB HB)) : w.heap.size ≤ gb887)); clear HB; have HB := n0_; have BK887 := n1_; have GW887 := n2_; have GE887 := n3_; clear n0_ n1_ n2_ n3_; clear hb hbox hg) | ((with_reducible refine gate_callee (f := 53) rfl ?_); refine goesL_ (some 6) rfl rfl Try.func53 (by kernel_rfl) rfl #[.slice A0 l0.length c0] rfl zl ?_; (with_reducible refine (spec_newReader.calls _ _ l0 t888 t889 w _ ?side1 ?side2 ?side3 A2.out).mono ?_); (case side1 => repeat (first | (with_reducible first | exact HB.out | apply below_alloc | apply pw_below_drewN | apply below_drew1 | refine below_set ?_ GE887.out) | exact HB.out)); (case side2 => exact HR0.out); (case side3 => exact HC0.out); rintro e w6 ⟨g890, rfl, hi, hb, hb2⟩; refine ⟨_, rfl, ?_⟩; have n0_ := Aside0.mk (blk_below (g := gb887) (o := .cells #[.slice none 0 0, .slice none 0 0] 26 (0, 0)) (zb BK887) hb2); have n1_ := Aside0.mk (hb); have n2_ := Aside0.mk (hi); have n3_ := Aside0.mk (IsS129.ne_blk hi (blk_below (g := gb887) (o := .cells #[.slice none 0 0, .slice none 0 0] 26 (0, 0)) (zb BK887) hb2) (by decide)); have n4_ := Aside0.mk (Ne.symm (IsS129.ne_blk hi (blk_below (g := gb887) (o := .cells #[.slice none 0 0, .slice none 0 0] 26 (0, 0)) (zb BK887) hb2) (by decide))); clear BK887; clear HB; have BK887 := n0_; have HB := n1_; have HI890 := n2_; have NB890_887 := n3_; have NB887_890 := n4_; clear n0_ n1_ n2_ n3_ n4_; (try clear hb); (try clear hb2); (try clear hk); (try clear hi)) | ((with_reducible refine gate_callee (f := 89) rfl ?_); refine goesL_ (some 8) rfl rfl Try.func89 (by kernel_rfl) rfl #[.pointer (some ⟨g890, 0, none⟩)] rfl zl ?_; (with_reducible refine (spec_someTurns.calls k g890 t888 t889 t891 t894 w _ ?side1 ?side2 A3.out).mono ?_); (case side1 => repeat (first | (with_reducible first | exact HI890.out | apply IsS129.alloc | apply IsS129.drewN | apply IsS129.drew | apply IsS129.set_1 | refine IsS129.far ?_ NB890_887.out _) | exact HI890.out)); (case side2 => repeat (first | (with_reducible first | exact HB.out | apply below_alloc | apply pw_below_drewN | apply below_drew1 | refine below_set ?_ (IsS129.ge HI890.out) | refine below_set ?_ GE887.out) | exact HB.out)); rintro e w7 ⟨v892, rfl, ho0, hi, hb, hk⟩; refine ⟨_, rfl, ?_⟩; have n0_ := Aside0.mk (KeepBut.blk hk (g' := gb887) (o := .cells #[.slice none 0 0, .slice none 0 0] 26 (0, 0)) (zb BK887) NB887_890.out (by simp)); have n1_ := Aside0.mk (Kd.R_lower ho0 (below_size (by repeat (first | (with_reducible first | exact HB.out | apply below_alloc | apply pw_below_drewN | apply below_drew1 | refine below_set ?_ (IsS129.ge HI890.out) | refine below_set ?_ GE887.out) | exact HB.out)))); have n2_ := Aside0.mk (hb); have n3_ := Aside0.mk (hi); clear BK887; clear HB; clear HI890; have BK887 := n0_; have HO893 := n1_; have HB := n2_; have HI890 := n3_; clear n0_ n1_ n2_ n3_; (try clear hb); (try clear hb2); (try clear hk); (try clear hi); (try clear ho0)) | ((with_reducible refine gate_callee (f := 61) rfl ?_); refine goesL_ (some 10) rfl rfl Try.func61 (by kernel_rfl) rfl #[.pointer (some ⟨g890, 0, none⟩)] rfl zl ?_; (with_reducible refine (spec_someFlat.calls k g890 t888 t894 t895 t898 t901 w _ ?side1 ?side2 A4.out).mono ?_); (case side1 => repeat (first | (with_reducible first | exact HI890.out | apply IsS129.alloc | apply IsS129.drewN | apply IsS129.drew | apply IsS129.set_1 | refine IsS129.far ?_ NB890_887.out _) | exact HI890.out)); (case side2 => repeat (first | (with_reducible first | exact HB.out | apply below_alloc | apply pw_below_drewN | apply below_drew1 | refine below_set ?_ (IsS129.ge HI890.out) | refine below_set ?_ GE887.out) | exact HB.out)); rintro e w8 ⟨v896, v899, rfl, ho0, ho1, hi, hb, hk⟩; refine ⟨_, rfl, ?_⟩; have n0_ := Aside0.mk (KeepBut.blk hk (g' := gb887) (o := .cells #[.slice none 0 0, .slice none 0 0] 26 (0, 0)) (zb BK887) NB887_890.out (by simp)); have n1_ := Aside0.mk (Kd.R_mono (Kd.R_keep (IsS129.apart (show IsS129 w _ g890 t888 t894 from by repeat (first | (with_reducible first | exact HI890.out | apply IsS129.alloc | apply IsS129.drewN | apply IsS129.drew | apply IsS129.set_1 | refine IsS129.far ?_ NB890_887.out _) | exact HI890.out)) (zo HO893) (by decide)) hk (fun _ h => h.2)) (fun _ h => h.1)); have n2_ := Aside0.mk (Kd.R_lower ho0 (below_size (by repeat (first | (with_reducible first | exact HB.out | apply below_alloc | apply pw_below_drewN | apply below_drew1 | refine below_set ?_ (IsS129.ge HI890.out) | refine below_set ?_ GE887.out) | exact HB.out)))); have n3_ := Aside0.mk (Kd.R_lower ho1 (below_size (by repeat (first | (with_reducible first | exact HB.out | apply below_alloc | apply pw_below_drewN | apply below_drew1 | refine below_set ?_ (IsS129.ge HI890.out) | refine below_set ?_ GE887.out) | exact HB.out)))); have n4_ := Aside0.mk (hb); have n5_ := Aside0.mk (hi); clear BK887; clear HO893; clear HB; clear HI890; have BK887 := n0_; have HO893 := n1_; have HO897 := n2_; have HO900 := n3_; have HB := n4_; have HI890 := n5_; clear n0_ n1_ n2_ n3_ n4_ n5_; (try clear hb); (try clear hb2); (try clear hk); (try clear hi); (try clear ho0); (try clear ho1); obtain ⟨Ao9, co9, eo9⟩ := Kd.R_slice HO897.out; subst eo9; have hnb10 := NB887_890.out; have hnc10 := NB890_887.out; have hcz11_0 : w8.cell? ⟨gb887, 0, none⟩ = some (.slice none 0 0) := (blk_cell BK887.out 0).trans rfl; have hcz11_1 : w8.cell? ⟨gb887, 1, none⟩ = some (.slice none 0 0) := (blk_cell BK887.out 1).trans rfl; have hfz11_0 := blk_frozen BK887.out 0; have hfz11_1 := blk_frozen BK887.out 1; obtain ⟨Ao12, co12, eo12⟩ := Kd.R_slice HO900.out; subst eo12))
 refine bodyPost_ret (results_tc rfl _ _ gb887 26 #[.slice Ao9 t895.length co9, .slice Ao12 t898.length co12] (0, 0) _ rfl (by (with_reducible repeat (first | refine blk_drewN ?_ _ | refine blk_drew ?_ | refine blk_alloc ?_ _)); refine blk_put (cs := #[.slice Ao9 t895.length co9, .slice none 0 0]) ?_ 1 _ rfl; (with_reducible repeat (first | refine blk_drewN ?_ _ | refine blk_drew ?_ | refine blk_alloc ?_ _)); refine blk_put (cs := #[.slice none 0 0, .slice none 0 0]) ?_ 0 _ rfl; (with_reducible repeat (first | refine blk_drewN ?_ _ | refine blk_drew ?_ | refine blk_alloc ?_ _)); exact BK887.out) Try.underlying26 rfl (by kernel_rfl)) rfl ?_
 exact ⟨_, _, _, by first | rfl | (simp [errW_none, errW_some] <;> rfl) | (simp [*, errW_none, errW_some] <;> rfl), by (with_reducible repeat (first | apply Kd.R_alloc | apply Kd.R_drewN | apply Kd.R_drew)); exact Kd.R_mono (Kd.R_far (p := ⟨gb887, 1, none⟩) (Kd.R_far (p := ⟨gb887, 0, none⟩) (Kd.R_types HO893.out BK887.out (by decide)) (fun _ hk => hk.2) (.slice Ao9 t895.length co9)) (fun _ hk => hk.2) (.slice Ao12 t898.length co12)) (fun _ hk => trivial), by (with_reducible repeat (first | apply Kd.R_alloc | apply Kd.R_drewN | apply Kd.R_drew)); exact Kd.R_mono (Kd.R_far (p := ⟨gb887, 1, none⟩) (Kd.R_far (p := ⟨gb887, 0, none⟩) (Kd.R_types HO897.out BK887.out (by decide)) (fun _ hk => hk.2) (.slice Ao9 t895.length co9)) (fun _ hk => hk.2) (.slice Ao12 t898.length co12)) (fun _ hk => trivial), by (with_reducible repeat (first | apply Kd.R_alloc | apply Kd.R_drewN | apply Kd.R_drew)); exact Kd.R_mono (Kd.R_far (p := ⟨gb887, 1, none⟩) (Kd.R_far (p := ⟨gb887, 0, none⟩) (Kd.R_types HO900.out BK887.out (by decide)) (fun _ hk => hk.2) (.slice Ao9 t895.length co9)) (fun _ hk => hk.2) (.slice Ao12 t898.length co12)) (fun _ hk => trivial), by repeat (first | (with_reducible first | exact HB.out | apply below_alloc | apply pw_below_drewN | apply below_drew1 | refine below_set ?_ (IsS129.ge HI890.out) | refine below_set ?_ GE887.out) | exact HB.out)⟩

end Go.Proofs.Ytfcpbgedgedalaa.Q
