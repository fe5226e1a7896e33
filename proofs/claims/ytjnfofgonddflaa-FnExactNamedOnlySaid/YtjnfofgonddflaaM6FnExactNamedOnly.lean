-- written by px.py and merge.py (programs of this claim's), over the kit's print. Not trusted: Lean checks it.
import Derived.Test.YtjnfofgonddflaaQ0
import Derived.Test.YtjnfofgonddflaaM4FnExactNamedOnly
import Derived.Test.YtjnfofgonddflaaM5FnExactNamedOnly
namespace Go.Proofs.Ytjnfofgonddflaa.Q
open Go.RowKit Go.Proofs.YtjnfofgonddflaaL.PrintWords Go.Proofs.YtjnfofgonddflaaL.PrintLast Go.Proofs.YtjnfofgonddflaaL.PrintMore
attribute [local go_sem] max2_int min2_int max_two min_two max_three min_three max_four min_four   -- for this text's walks alone
set_option linter.unusedVariables false
set_option linter.unusedSimpArgs false

/-! ### slices.Clone at impl.Param: function 99 -/
set_option maxHeartbeats 8000000 in
set_option maxRecDepth 100000 in
theorem cl99.calls (A0 : Option Addr) (c0 : Nat) (l0 : List (S41)) (w : World) (hr0 : Kd.C k41 w A0 l0.length l0) (hl : l0.length * 40 ≤ 140737488355328) :
  Calls Try.prog 99 #[.slice A0 l0.length c0] w fun e w' => ∃ v0_ : Value, e = .returned v0_ ∧ Kd.R k41 41 w' w.heap.size (fun _ => True) v0_ l0 ∧ Below w.heap.size w w' := by
 cases A0 with
 | none =>
  have h0 : l0 = [] := by
   rcases Nat.eq_zero_or_pos l0.length with h | h
   ·exact List.eq_nil_of_length_eq_zero h
   ·obtain ⟨ad, e, _⟩ := hr0.2.2 h; cases e
  subst h0
  clear hr0
  have hE := fun (W : World) => Go.Lib.run_eql_slice_nil (P := Try.prog) W 23 41 none 0 c0 0 0 Try.underlying23
  go_enter Try.func99, Try.ntmps99
  go_wp2
  go_ret
  exact ⟨_, rfl, Kd.R_nil _ _ _ _ _, px_refl _⟩
 | some ad =>
  have HR := Aside0.mk hr0
  have HL := Aside0.mk hl
  clear hr0 hl
  have hE := fun (W : World) => Go.Lib.run_eql_slice_nil (P := Try.prog) W 23 41 (some ad) l0.length c0 0 0 Try.underlying23
  go_enter Try.func99, Try.ntmps99
  go_wp2_with (first | ((with_reducible refine gate_dst (N := 5) rfl ?_); refine Kd.R_lit k41 w.heap.size 41 ?hg (N := 5) ?hd (xs := ([] : List (S41))) (inner := []) (ok := fun _ => True) (okp := fun _ => True) ?hr ?hp (fun _ hk => hk) trivial (Below.refl _ _) (Nat.le_refl _) (by simp) ?_; (case hd => rfl); (case hg => rfl); (case hr => first | (go_simp; done) | (go_simp; rfl)); (case hp => exact (Reps.none _ _)); intro v5 w5 ho5 hb5 hg_ hnew_; clear hg_ hnew_; have HO := Aside0.mk ho5; have HB := Aside0.mk hb5; clear ho5 hb5) | ((with_reducible refine gate_dst (N := 7) rfl ?_); refine Kd.R_append_rows k41 (Rr := k41.K w) (w0 := w) w.heap.size (by rfl) (.tmp 5) (.tmp 6) 23 41 (.agg #[(.string ⟨#[]⟩), (.int .i64 0), (.bool false), (.int .i64 0)]) 40 rfl Try.underlying23 info41 rfl (by decide) (by omega) v5 ([] : List (S41)) l0 _ _ _ (fun _ => True) (fun _ => False) rfl rfl HO.out ?aR (fun x cs h => by rw [k41_open h]; exact k41_mkM _ _ _ _) (fun _ h => h.elim) (fun _ _ => trivial) HB.out (below_size HB.out) ?aL ?_; (case aR => exact ReadsRow.imp_ HR.out HB.out (fun _ _ h => h)); (case aL => simpa using HL.out); intro v7 w7 ho7 hb7 hg_ hnew_; clear hg_ hnew_; have HO7 := Aside0.mk ho7; have HB7 := Aside0.mk hb7; clear ho7 hb7))
  go_ret
  exact ⟨_, rfl, HO7.out, HB7.out⟩
/-! ### impl_Param_77: function 77 (a contract of our own) -/
def impl_Param_77.f (l0 : List (S41)) : Option ((List (S41))) := if l0.length * 40 ≤ 140737488355328 then some l0 else none
set_option maxHeartbeats 8000000 in
set_option maxRecDepth 100000 in
theorem impl_Param_77.calls (A0 : Option Addr) (c0 : Nat) (l0 : List (S41)) (r : List (S41)) (w : World) (hr0 : Kd.C k41 w A0 l0.length l0) (hc0 : l0.length ≤ c0) (h : impl_Param_77.f l0 = some r) :
  Calls Try.prog 77 #[.slice A0 l0.length c0] w fun e w' => ∃ v0_ : Value, e = .returned (v0_) ∧ Kd.R k41 41 w' w.heap.size (fun _ => True) v0_ r ∧ Below w.heap.size w w' := by
 have hl : l0.length * 40 ≤ 140737488355328 := by unfold impl_Param_77.f at h; split at h; assumption; cases h
 have hr : r = l0 := by unfold impl_Param_77.f at h; rw [if_pos hl] at h; exact (Option.some.inj h).symm
 subst hr
 clear h
 have HR := Aside0.mk hr0
 have HL := Aside0.mk hl
 clear hr0 hl hc0
 go_enter Try.func77, Try.ntmps77
 go_wp2_with fail
 refine (cl99.calls _ _ _ _ HR.out HL.out).mono ?_
 rintro e w1 ⟨v1, rfl, hv1, hb1⟩
 have HO1 := Aside0.mk hv1
 have HB1 := Aside0.mk hb1
 clear hv1 hb1
 go_wp2_with fail
 refine (impl_Param_98.calls (fun _ => True) _ _ r w _ HB1.out HO1.out rfl).mono ?_
 rintro e w2 ⟨v2, rfl, hv2, hb2, hk2⟩
 have HO2 := Aside0.mk hv2
 have HB2 := Aside0.mk hb2
 clear hv2 hb2 hk2
 go_wp2
 go_ret
 exact ⟨_, rfl, Kd.R_mono HO2.out (fun _ _ => trivial), HB2.out⟩

/-! ### impl_MethodSignature: function 41 -/
def impl_MethodSignature.f (k : Nat) (l0_0 : List (S41)) : Option ((List (S41)) × Bool) := (impl_ValidSignature.f k l0_0).bind fun t617 => (if t617 = true then (if (l0_0.length : Int) = 0 then (some (([] : List (S41)), false)) else (if 0 < (l0_0.length : Int) then ((impl_Param_placed.f ((rd_T41 l0_0 0).f0) ((rd_T41 l0_0 0).f1) ((rd_T41 l0_0 0).f2) ((rd_T41 l0_0 0).f3)).bind fun t619 => (if t619 = true then (if 1 ≤ (l0_0.length : Int) then ((impl_Param_77.f (l0_0.drop 1)).bind fun t624 => (some (t624, true))) else (none)) else (some (([] : List (S41)), false)))) else (none))) else (some (([] : List (S41)), false)))
theorem impl_MethodSignature.mono : ∀ a0 k, LeO (impl_MethodSignature.f k a0) (impl_MethodSignature.f (k + 1) a0) := by
 intro a0 k
 unfold impl_MethodSignature.f
 repeat' first
   | (with_reducible exact impl_ValidSignature.mono _ _)
   | (with_reducible exact LeO.refl _)
   | (with_reducible exact LeO.none _)
   | (with_reducible refine LeO.ite ?_ ?_)
   | (with_reducible refine LeO.bind ?_ (fun _ => ?_))
   | exact impl_ValidSignature.mono _ _
   | exact LeO.none _
   | refine LeO.ite ?_ ?_
   | refine LeO.bind ?_ (fun _ => ?_)
set_option maxHeartbeats 8000000 in
set_option maxRecDepth 100000 in
theorem impl_MethodSignature.calls (k : Nat) (A0_0 : Option Addr) (c0_0 : Nat) (l0_0 : List (S41)) (r1 : List (S41)) (r2 : Bool) (w : World) (hr0_0 : Kd.C k41 w A0_0 l0_0.length l0_0) (hc0_0 : l0_0.length ≤ c0_0) (h : impl_MethodSignature.f k l0_0 = some (r1, r2)) :
  Calls Try.prog 41 #[.agg #[.slice A0_0 l0_0.length c0_0]] w fun e w' => ∃ v0_ : Value, e = .returned (.tuple #[.agg #[v0_], .bool r2]) ∧ Kd.R k41 41 w' w.heap.size (fun _ => True) v0_ r1 ∧ Below w.heap.size w w' := by
 have hu25 := Try.underlying25
 have hu41 := Try.underlying41
 have HR0_0 := Aside0.mk hr0_0
 have HC0_0 := Aside0.mk hc0_0
 clear hr0_0 hc0_0
 have HB := Aside0.mk (Below.refl w.heap.size w)
 have H : ((impl_ValidSignature.f k l0_0).bind fun t617 => (if t617 = true then (if (l0_0.length : Int) = 0 then (some (([] : List (S41)), false)) else (if 0 < (l0_0.length : Int) then ((impl_Param_placed.f ((rd_T41 l0_0 0).f0) ((rd_T41 l0_0 0).f1) ((rd_T41 l0_0 0).f2) ((rd_T41 l0_0 0).f3)).bind fun t619 => (if t619 = true then (if 1 ≤ (l0_0.length : Int) then ((impl_Param_77.f (l0_0.drop 1)).bind fun t624 => (some (t624, true))) else (none)) else (some (([] : List (S41)), false)))) else (none))) else (some (([] : List (S41)), false)))) = some (r1, r2) := h
 clear h
 replace H := Option.bind_eq_some_iff.mp H
 obtain ⟨t617, A20, H⟩ := H
 (try dsimp only at H)
 have A2 := Aside0.mk A20
 clear A20
 by_cases c3 : t617 = true
 ·subst c3
  rw [if_pos rfl] at H
  by_cases c4 : (l0_0.length : Int) = 0
  ·rw [if_pos c4] at H
   have c4b0 : ((l0_0.length : Int) == 0) = true := beq_iff_eq.mpr c4
   have c4b1 : ((l0_0.length : Int) != 0) = false := bne_eq_false_iff_eq.mpr c4
   clear c4
   simp only [Option.some.injEq, Prod.mk.injEq] at H
   obtain ⟨rfl, rfl⟩ := H
   go_enter Try.func41, Try.ntmps41
   go_wp2_with (first | ((with_reducible refine gate_dst (N := 1) rfl ?_); refine box_event ?hg (N := 1) ?hd (cs := #[.slice A0_0 l0_0.length c0_0]) (t := 25) ?hr ?_; (case hd => rfl); (case hg => rfl); (case hr => first | (go_simp; done) | (go_simp; rfl)); intro gb615 hg w5 hbox hb; have BK615 := Aside0.mk (hbox); have GW615 := Aside0.mk ((by rw [hg]; exact (below_size (zB HB)) : w.heap.size ≤ gb615)); have GE615 := Aside0.mk ((by rw [hg]; exact (below_size (zB HB)) : w.heap.size ≤ gb615)); replace HB := Aside0.mk (below_step (zB HB) hb); clear hb hbox hg) | ((with_reducible refine gate_dst (N := 2) rfl ?_); refine box_event ?hg (N := 2) ?hd (cs := #[.slice none 0 0]) (t := 25) ?hr ?_; (case hd => rfl); (case hg => rfl); (case hr => first | (go_simp; done) | (go_simp; rfl)); intro gb616 hg w6 hbox hb; have BK616 := Aside0.mk (hbox); have GW616 := Aside0.mk ((by rw [hg]; exact (below_size (zB HB)) : w.heap.size ≤ gb616)); have GE616 := Aside0.mk ((by rw [hg]; exact (below_size (zB HB)) : w.heap.size ≤ gb616)); replace HB := Aside0.mk (below_step (zB HB) hb); have NB615_616 := Aside0.mk ((by rw [hg]; exact Nat.ne_of_lt (blk_lt (g := gb615) (o := .cells #[.slice A0_0 l0_0.length c0_0] 25 (0, 0)) (zb BK615)) : gb615 ≠ gb616)); have NB616_615 := Aside0.mk ((by rw [hg]; exact Nat.ne_of_gt (blk_lt (g := gb615) (o := .cells #[.slice A0_0 l0_0.length c0_0] 25 (0, 0)) (zb BK615)) : gb616 ≠ gb615)); replace BK615 := Aside0.mk (blk_below (g := gb615) (o := .cells #[.slice A0_0 l0_0.length c0_0] 25 (0, 0)) (zb BK615) hb); clear hb hbox hg; have hnb7 := NB615_616.out; have hnc7 := NB616_615.out; have hcz8_0 : w6.cell? ⟨gb615, 0, none⟩ = some (.slice A0_0 l0_0.length c0_0) := (blk_cell BK615.out 0).trans rfl; have hfz8_0 := blk_frozen BK615.out 0) | ((with_reducible refine gate_callee (f := 16) rfl ?_); refine goesL_ (some 5) rfl rfl Try.func16 (by kernel_rfl) rfl #[.agg #[.slice A0_0 l0_0.length c0_0]] rfl zl ?_; (with_reducible refine (impl_ValidSignature.calls k _ _ l0_0 true _ ?side1 ?side2 A2.out).mono ?_); (case side1 => repeat (first | exact (Kd.C_below HR0_0.out HB.out) | (with_reducible refine Kd.C_alloc ?_ _) | (with_reducible refine Kd.C_drewN ?_ _) | (with_reducible refine Kd.C_drew ?_))); (case side2 => exact HC0_0.out); rintro e w9 ⟨rfl, hb⟩; refine ⟨_, rfl, ?_⟩; replace BK615 := Aside0.mk (blk_below (g := gb615) (o := .cells #[.slice A0_0 l0_0.length c0_0] 25 (0, 0)) (zb BK615) hb); replace BK616 := Aside0.mk (blk_below (g := gb616) (o := .cells #[.slice none 0 0] 25 (0, 0)) (zb BK616) hb); replace HB := Aside0.mk (below_step (zB HB) hb); (try clear hb); (try clear hb2); (try clear hk); (try clear hi); have hcz10_0 : w9.cell? ⟨gb615, 0, none⟩ = some (.slice A0_0 l0_0.length c0_0) := (blk_cell BK615.out 0).trans rfl; have hfz10_0 := blk_frozen BK615.out 0; have hcz11_0 : w9.cell? ⟨gb616, 0, none⟩ = some (.slice none 0 0) := (blk_cell BK616.out 0).trans rfl; have hfz11_0 := blk_frozen BK616.out 0))
   refine bodyPost_ret (results_ct rfl _ _ gb616 25 #[.slice none 0 0] (0, 0) _ rfl (by (with_reducible repeat (first | refine blk_drewN ?_ _ | refine blk_drew ?_ | refine blk_alloc ?_ _)); refine blk_put (cs := #[.slice none 0 0]) ?_ 0 _ rfl; (with_reducible repeat (first | refine blk_drewN ?_ _ | refine blk_drew ?_ | refine blk_alloc ?_ _)); exact BK616.out) Try.underlying25 rfl (by kernel_rfl)) rfl ?_
   exact ⟨_, by first | rfl | (simp [errW_none, errW_some] <;> rfl) | (simp [*, errW_none, errW_some] <;> rfl), by first | exact Kd.R_nil _ _ _ _ _ | exact Kd.N_nil _ _ _ _ _ | exact Kd.V_nil _ _ _ _ _ | exact Kd.Q_nil _ _ _ _ _ | exact Kd.S_nil _ _ _ _ _, zB HB⟩
  ·rw [if_neg c4] at H
   have c4b0 : ((l0_0.length : Int) == 0) = false := beq_eq_false_iff_ne.mpr c4
   have c4b1 : ((l0_0.length : Int) != 0) = true := bne_iff_ne.mpr c4
   have c4b2 : ¬ (l0_0 = []) := fun h_ => c4 (by rw [h_]; rfl)
   by_cases c12 : 0 < (l0_0.length : Int)
   ·rw [if_pos c12] at H
    have c12b0 : decide (0 < (l0_0.length : Int)) = true := decide_eq_true c12
    have c12b1 : decide (0 < l0_0.length) = true := decide_eq_true (by omega)
    clear c12
    replace H := Option.bind_eq_some_iff.mp H
    obtain ⟨t619, A130, H⟩ := H
    (try dsimp only at H)
    have A13 := Aside0.mk A130
    clear A130
    by_cases c14 : t619 = true
    ·subst c14
     rw [if_pos rfl] at H
     by_cases c15 : 1 ≤ (l0_0.length : Int)
     ·rw [if_pos c15] at H
      have c15b0 := eq_true c15
      have c15b1 : decide (1 ≤ (l0_0.length : Int)) = true := decide_eq_true c15
      clear c15
      obtain ⟨y620, hy620⟩ : ∃ y_ : List (S41), y_ = (l0_0.drop 1) := ⟨_, rfl⟩
      replace H : ((impl_Param_77.f y620).bind fun t624 => (some (t624, true))) = some (r1, r2) := by first | (rw [hy620]; with_reducible exact H) | (have H2_ := (Option.bind_some _ _).symm.trans H; rw [hy620]; with_reducible exact H2_) | (have H2_ := (Option.bind_some _ _).symm.trans H; with_reducible exact H2_) | with_reducible exact H | (rw [hy620]; exact H) | exact H
      have Ny620 := Aside0.mk hy620
      clear hy620
      replace H := Option.bind_eq_some_iff.mp H
      obtain ⟨t624, A160, H⟩ := H
      (try dsimp only at H)
      have A16 := Aside0.mk A160
      clear A160
      simp only [Option.some.injEq, Prod.mk.injEq] at H
      obtain ⟨rfl, rfl⟩ := H
      go_enter Try.func41, Try.ntmps41
      go_wp2_with (first | ((with_reducible refine gate_dst (N := 1) rfl ?_); refine box_event ?hg (N := 1) ?hd (cs := #[.slice A0_0 l0_0.length c0_0]) (t := 25) ?hr ?_; (case hd => rfl); (case hg => rfl); (case hr => first | (go_simp; done) | (go_simp; rfl)); intro gb615 hg w17 hbox hb; have BK615 := Aside0.mk (hbox); have GW615 := Aside0.mk ((by rw [hg]; exact (below_size (zB HB)) : w.heap.size ≤ gb615)); have GE615 := Aside0.mk ((by rw [hg]; exact (below_size (zB HB)) : w.heap.size ≤ gb615)); replace HB := Aside0.mk (below_step (zB HB) hb); clear hb hbox hg) | ((with_reducible refine gate_dst (N := 2) rfl ?_); refine box_event ?hg (N := 2) ?hd (cs := #[.slice none 0 0]) (t := 25) ?hr ?_; (case hd => rfl); (case hg => rfl); (case hr => first | (go_simp; done) | (go_simp; rfl)); intro gb616 hg w18 hbox hb; have BK616 := Aside0.mk (hbox); have GW616 := Aside0.mk ((by rw [hg]; exact (below_size (zB HB)) : w.heap.size ≤ gb616)); have GE616 := Aside0.mk ((by rw [hg]; exact (below_size (zB HB)) : w.heap.size ≤ gb616)); replace HB := Aside0.mk (below_step (zB HB) hb); have NB615_616 := Aside0.mk ((by rw [hg]; exact Nat.ne_of_lt (blk_lt (g := gb615) (o := .cells #[.slice A0_0 l0_0.length c0_0] 25 (0, 0)) (zb BK615)) : gb615 ≠ gb616)); have NB616_615 := Aside0.mk ((by rw [hg]; exact Nat.ne_of_gt (blk_lt (g := gb615) (o := .cells #[.slice A0_0 l0_0.length c0_0] 25 (0, 0)) (zb BK615)) : gb616 ≠ gb615)); replace BK615 := Aside0.mk (blk_below (g := gb615) (o := .cells #[.slice A0_0 l0_0.length c0_0] 25 (0, 0)) (zb BK615) hb); clear hb hbox hg; have hnb19 := NB615_616.out; have hnc19 := NB616_615.out; have hcz20_0 : w18.cell? ⟨gb615, 0, none⟩ = some (.slice A0_0 l0_0.length c0_0) := (blk_cell BK615.out 0).trans rfl; have hfz20_0 := blk_frozen BK615.out 0) | ((with_reducible refine gate_callee (f := 16) rfl ?_); refine goesL_ (some 5) rfl rfl Try.func16 (by kernel_rfl) rfl #[.agg #[.slice A0_0 l0_0.length c0_0]] rfl zl ?_; (with_reducible refine (impl_ValidSignature.calls k _ _ l0_0 true _ ?side1 ?side2 A2.out).mono ?_); (case side1 => repeat (first | exact (Kd.C_below HR0_0.out HB.out) | (with_reducible refine Kd.C_alloc ?_ _) | (with_reducible refine Kd.C_drewN ?_ _) | (with_reducible refine Kd.C_drew ?_))); (case side2 => exact HC0_0.out); rintro e w21 ⟨rfl, hb⟩; refine ⟨_, rfl, ?_⟩; replace BK615 := Aside0.mk (blk_below (g := gb615) (o := .cells #[.slice A0_0 l0_0.length c0_0] 25 (0, 0)) (zb BK615) hb); replace BK616 := Aside0.mk (blk_below (g := gb616) (o := .cells #[.slice none 0 0] 25 (0, 0)) (zb BK616) hb); replace HB := Aside0.mk (below_step (zB HB) hb); (try clear hb); (try clear hb2); (try clear hk); (try clear hi); have hcz22_0 : w21.cell? ⟨gb615, 0, none⟩ = some (.slice A0_0 l0_0.length c0_0) := (blk_cell BK615.out 0).trans rfl; have hfz22_0 := blk_frozen BK615.out 0; have p618 : 0 ≤ (0 : Int) := (by omega); have q618 : 0 < (l0_0.length : Int) := of_decide_eq_true za; obtain ⟨ad618, e618, hx618_0, hx618_1, hx618_2, hx618_3⟩ := at_T41 HR0_0.out 0 p618 q618; cases e618; have qi618 : (0 < l0_0.length) = True := eq_true (by omega); (try rw [show ((0 : Int)).toNat = 0 from rfl] at hx618_0); (try rw [show 0 * 4 = 0 from rfl] at hx618_0); (try rw [Addr.add_zero'] at hx618_0); (try rw [show ((0 : Int)).toNat = 0 from rfl] at hx618_1); (try rw [show 0 * 4 = 0 from rfl] at hx618_1); (try rw [Addr.add_zero'] at hx618_1); (try rw [show ((0 : Int)).toNat = 0 from rfl] at hx618_2); (try rw [show 0 * 4 = 0 from rfl] at hx618_2); (try rw [Addr.add_zero'] at hx618_2); (try rw [show ((0 : Int)).toNat = 0 from rfl] at hx618_3); (try rw [show 0 * 4 = 0 from rfl] at hx618_3); (try rw [Addr.add_zero'] at hx618_3); replace hx618_0 := (HB.out.cell (World.block_lt_of_cell? w _ hx618_0)).trans hx618_0; replace hx618_1 := (HB.out.cell (World.block_lt_of_cell? w _ hx618_1)).trans hx618_1; replace hx618_2 := (HB.out.cell (World.block_lt_of_cell? w _ hx618_2)).trans hx618_2; replace hx618_3 := (HB.out.cell (World.block_lt_of_cell? w _ hx618_3)).trans hx618_3; replace p618 := eq_true p618; replace q618 := eq_true q618) | (go_at_call 53; (with_reducible refine (impl_Param_placed.calls ((rd_T41 l0_0 0).f0) ((rd_T41 l0_0 0).f1) ((rd_T41 l0_0 0).f2) ((rd_T41 l0_0 0).f3) true _ A13.out).mono ?_); rintro e w23 ⟨rfl, hb⟩; replace BK615 := Aside0.mk (blk_below (g := gb615) (o := .cells #[.slice (some ad618) l0_0.length c0_0] 25 (0, 0)) (zb BK615) hb); replace BK616 := Aside0.mk (blk_below (g := gb616) (o := .cells #[.slice none 0 0] 25 (0, 0)) (zb BK616) hb); replace HB := Aside0.mk (below_step (zB HB) hb); (try clear hb); (try clear hb2); (try clear hk); (try clear hi); have hcz24_0 : w23.cell? ⟨gb615, 0, none⟩ = some (.slice (some ad618) l0_0.length c0_0) := (blk_cell BK615.out 0).trans rfl; have hfz24_0 := blk_frozen BK615.out 0; have q25 : (1 : Int) ≤ ((l0_0.length : Int) : Int) := of_decide_eq_true za; obtain ⟨i025, hi025, _, hsz25, _⟩ := info_parts info41; have hroom25 : l0_0.length ≤ c0_0 := HC0_0.out; have hC25 : Kd.C k41 _ (some ad618) l0_0.length l0_0 := HR0_0.out; have hcut25 := cut_from (P := Try.prog) 23 41 .i64 Try.underlying23 hi025 4 hsz25 (some ad618) l0_0.length c0_0 1 (by omega) q25; have hr25 := Kd.C_drop (m := (1 : Int).toNat) (c := c0_0) hC25 (by omega) hroom25; obtain ⟨A25, hA25⟩ : ∃ A1, A1 = (if c0_0 = (1 : Int).toNat then (some ad618) else ((some ad618) : Option Addr).map (·.add ((1 : Int).toNat * 4))) := ⟨_, rfl⟩; obtain ⟨c25, hc25⟩ : ∃ c1, c1 = c0_0 - (1 : Int).toNat := ⟨_, rfl⟩; have hy25 : y620.length = l0_0.length - (1 : Int).toNat := (by rw [Ny620.out, List.length_drop] <;> omega); rw [show (l0_0).drop (1 : Int).toNat = y620 from Ny620.out.symm] at hr25; replace hr25 : Kd.C k41 _ A25 y620.length y620 := (by rw [hA25]; exact hr25); rw [← hy25, ← hA25, ← hc25] at hcut25; have HR623 := Aside0.mk hr25; have HC623 := Aside0.mk (show y620.length ≤ c25 from by rw [hy25, hc25]; exact Nat.sub_le_sub_right hroom25 _); clear hr25 hC25 hroom25 hi025 hsz25 hc25; have KY25 := Aside0.mk hy25; have KA25 := Aside0.mk hA25; clear hy25 hA25; replace q25 := eq_true q25) | ((with_reducible refine gate_callee (f := 77) rfl ?_); refine goesL_ (some 25) rfl rfl Try.func77 (by kernel_rfl) rfl #[.slice A25 y620.length c25] rfl zl ?_; (with_reducible refine (impl_Param_77.calls _ _ y620 t624 _ ?side1 ?side2 A16.out).mono ?_); (case side1 => repeat (first | exact (Kd.C_below HR623.out HB.out) | (with_reducible refine Kd.C_alloc ?_ _) | (with_reducible refine Kd.C_drewN ?_ _) | (with_reducible refine Kd.C_drew ?_))); (case side2 => exact HC623.out); rintro e w26 ⟨v625, rfl, ho0, hb⟩; refine ⟨_, rfl, ?_⟩; have HO626 := Aside0.mk (Kd.R_lower ho0 (below_size (zB HB))); replace BK615 := Aside0.mk (blk_below (g := gb615) (o := .cells #[.slice (some ad618) l0_0.length c0_0] 25 (0, 0)) (zb BK615) hb); replace BK616 := Aside0.mk (blk_below (g := gb616) (o := .cells #[.slice none 0 0] 25 (0, 0)) (zb BK616) hb); replace HB := Aside0.mk (below_step (zB HB) hb); (try clear hb); (try clear hb2); (try clear hk); (try clear hi); (try clear ho0); obtain ⟨Ao27, co27, eo27⟩ := Kd.R_slice HO626.out; subst eo27; have hcz28_0 : w26.cell? ⟨gb616, 0, none⟩ = some (.slice none 0 0) := (blk_cell BK616.out 0).trans rfl; have hfz28_0 := blk_frozen BK616.out 0))
      refine bodyPost_ret (results_ct rfl _ _ gb616 25 #[.slice Ao27 t624.length co27] (0, 0) _ rfl (by (with_reducible repeat (first | refine blk_drewN ?_ _ | refine blk_drew ?_ | refine blk_alloc ?_ _)); refine blk_put (cs := #[.slice none 0 0]) ?_ 0 _ rfl; (with_reducible repeat (first | refine blk_drewN ?_ _ | refine blk_drew ?_ | refine blk_alloc ?_ _)); exact BK616.out) Try.underlying25 rfl (by kernel_rfl)) rfl ?_
      exact ⟨_, by first | rfl | (simp [errW_none, errW_some] <;> rfl) | (simp [*, errW_none, errW_some] <;> rfl), by (with_reducible repeat (first | apply Kd.R_alloc | apply Kd.R_drewN | apply Kd.R_drew)); exact Kd.R_mono (Kd.R_far (p := ⟨gb616, 0, none⟩) (Kd.R_types HO626.out BK616.out (by decide)) (fun _ hk => hk.2) (.slice Ao27 t624.length co27)) (fun _ hk => trivial), zB HB⟩
     ·rw [if_neg c15] at H
      exact absurd H (by simp)
    ·replace c14 := Bool.eq_false_iff.mpr c14
     subst c14
     rw [if_neg (show ¬ (false = true) by decide)] at H
     simp only [Option.some.injEq, Prod.mk.injEq] at H
     obtain ⟨rfl, rfl⟩ := H
     go_enter Try.func41, Try.ntmps41
     go_wp2_with (first | ((with_reducible refine gate_dst (N := 1) rfl ?_); refine box_event ?hg (N := 1) ?hd (cs := #[.slice A0_0 l0_0.length c0_0]) (t := 25) ?hr ?_; (case hd => rfl); (case hg => rfl); (case hr => first | (go_simp; done) | (go_simp; rfl)); intro gb615 hg w29 hbox hb; have BK615 := Aside0.mk (hbox); have GW615 := Aside0.mk ((by rw [hg]; exact (below_size (zB HB)) : w.heap.size ≤ gb615)); have GE615 := Aside0.mk ((by rw [hg]; exact (below_size (zB HB)) : w.heap.size ≤ gb615)); replace HB := Aside0.mk (below_step (zB HB) hb); clear hb hbox hg) | ((with_reducible refine gate_dst (N := 2) rfl ?_); refine box_event ?hg (N := 2) ?hd (cs := #[.slice none 0 0]) (t := 25) ?hr ?_; (case hd => rfl); (case hg => rfl); (case hr => first | (go_simp; done) | (go_simp; rfl)); intro gb616 hg w30 hbox hb; have BK616 := Aside0.mk (hbox); have GW616 := Aside0.mk ((by rw [hg]; exact (below_size (zB HB)) : w.heap.size ≤ gb616)); have GE616 := Aside0.mk ((by rw [hg]; exact (below_size (zB HB)) : w.heap.size ≤ gb616)); replace HB := Aside0.mk (below_step (zB HB) hb); have NB615_616 := Aside0.mk ((by rw [hg]; exact Nat.ne_of_lt (blk_lt (g := gb615) (o := .cells #[.slice A0_0 l0_0.length c0_0] 25 (0, 0)) (zb BK615)) : gb615 ≠ gb616)); have NB616_615 := Aside0.mk ((by rw [hg]; exact Nat.ne_of_gt (blk_lt (g := gb615) (o := .cells #[.slice A0_0 l0_0.length c0_0] 25 (0, 0)) (zb BK615)) : gb616 ≠ gb615)); replace BK615 := Aside0.mk (blk_below (g := gb615) (o := .cells #[.slice A0_0 l0_0.length c0_0] 25 (0, 0)) (zb BK615) hb); clear hb hbox hg; have hnb31 := NB615_616.out; have hnc31 := NB616_615.out; have hcz32_0 : w30.cell? ⟨gb615, 0, none⟩ = some (.slice A0_0 l0_0.length c0_0) := (blk_cell BK615.out 0).trans rfl; have hfz32_0 := blk_frozen BK615.out 0) | ((with_reducible refine gate_callee (f := 16) rfl ?_); refine goesL_ (some 5) rfl rfl Try.func16 (by kernel_rfl) rfl #[.agg #[.slice A0_0 l0_0.length c0_0]] rfl zl ?_; (with_reducible refine (impl_ValidSignature.calls k _ _ l0_0 true _ ?side1 ?side2 A2.out).mono ?_); (case side1 => repeat (first | exact (Kd.C_below HR0_0.out HB.out) | (with_reducible refine Kd.C_alloc ?_ _) | (with_reducible refine Kd.C_drewN ?_ _) | (with_reducible refine Kd.C_drew ?_))); (case side2 => exact HC0_0.out); rintro e w33 ⟨rfl, hb⟩; refine ⟨_, rfl, ?_⟩; replace BK615 := Aside0.mk (blk_below (g := gb615) (o := .cells #[.slice A0_0 l0_0.length c0_0] 25 (0, 0)) (zb BK615) hb); replace BK616 := Aside0.mk (blk_below (g := gb616) (o := .cells #[.slice none 0 0] 25 (0, 0)) (zb BK616) hb); replace HB := Aside0.mk (below_step (zB HB) hb); (try clear hb); (try clear hb2); (try clear hk); (try clear hi); have hcz34_0 : w33.cell? ⟨gb615, 0, none⟩ = some (.slice A0_0 l0_0.length c0_0) := (blk_cell BK615.out 0).trans rfl; have hfz34_0 := blk_frozen BK615.out 0; have p618 : 0 ≤ (0 : Int) := (by omega); have q618 : 0 < (l0_0.length : Int) := of_decide_eq_true za; obtain ⟨ad618, e618, hx618_0, hx618_1, hx618_2, hx618_3⟩ := at_T41 HR0_0.out 0 p618 q618; cases e618; have qi618 : (0 < l0_0.length) = True := eq_true (by omega); (try rw [show ((0 : Int)).toNat = 0 from rfl] at hx618_0); (try rw [show 0 * 4 = 0 from rfl] at hx618_0); (try rw [Addr.add_zero'] at hx618_0); (try rw [show ((0 : Int)).toNat = 0 from rfl] at hx618_1); (try rw [show 0 * 4 = 0 from rfl] at hx618_1); (try rw [Addr.add_zero'] at hx618_1); (try rw [show ((0 : Int)).toNat = 0 from rfl] at hx618_2); (try rw [show 0 * 4 = 0 from rfl] at hx618_2); (try rw [Addr.add_zero'] at hx618_2); (try rw [show ((0 : Int)).toNat = 0 from rfl] at hx618_3); (try rw [show 0 * 4 = 0 from rfl] at hx618_3); (try rw [Addr.add_zero'] at hx618_3); replace hx618_0 := (HB.out.cell (World.block_lt_of_cell? w _ hx618_0)).trans hx618_0; replace hx618_1 := (HB.out.cell (World.block_lt_of_cell? w _ hx618_1)).trans hx618_1; replace hx618_2 := (HB.out.cell (World.block_lt_of_cell? w _ hx618_2)).trans hx618_2; replace hx618_3 := (HB.out.cell (World.block_lt_of_cell? w _ hx618_3)).trans hx618_3; replace p618 := eq_true p618; replace q618 := eq_true q618) | (go_at_call 53; (with_reducible refine (impl_Param_placed.calls ((rd_T41 l0_0 0).f0) ((rd_T41 l0_0 0).f1) ((rd_T41 l0_0 0).f2) ((rd_T41 l0_0 0).f3) false _ A13.out).mono ?_); rintro e w35 ⟨rfl, hb⟩; replace BK615 := Aside0.mk (blk_below (g := gb615) (o := .cells #[.slice (some ad618) l0_0.length c0_0] 25 (0, 0)) (zb BK615) hb); replace BK616 := Aside0.mk (blk_below (g := gb616) (o := .cells #[.slice none 0 0] 25 (0, 0)) (zb BK616) hb); replace HB := Aside0.mk (below_step (zB HB) hb); (try clear hb); (try clear hb2); (try clear hk); (try clear hi); have hcz36_0 : w35.cell? ⟨gb616, 0, none⟩ = some (.slice none 0 0) := (blk_cell BK616.out 0).trans rfl; have hfz36_0 := blk_frozen BK616.out 0))
     refine bodyPost_ret (results_ct rfl _ _ gb616 25 #[.slice none 0 0] (0, 0) _ rfl (by (with_reducible repeat (first | refine blk_drewN ?_ _ | refine blk_drew ?_ | refine blk_alloc ?_ _)); refine blk_put (cs := #[.slice none 0 0]) ?_ 0 _ rfl; (with_reducible repeat (first | refine blk_drewN ?_ _ | refine blk_drew ?_ | refine blk_alloc ?_ _)); exact BK616.out) Try.underlying25 rfl (by kernel_rfl)) rfl ?_
     exact ⟨_, by first | rfl | (simp [errW_none, errW_some] <;> rfl) | (simp [*, errW_none, errW_some] <;> rfl), by first | exact Kd.R_nil _ _ _ _ _ | exact Kd.N_nil _ _ _ _ _ | exact Kd.V_nil _ _ _ _ _ | exact Kd.Q_nil _ _ _ _ _ | exact Kd.S_nil _ _ _ _ _, zB HB⟩
   ·rw [if_neg c12] at H
    exact absurd H (by simp)
 ·replace c3 := Bool.eq_false_iff.mpr c3
  subst c3
  rw [if_neg (show ¬ (false = true) by decide)] at H
  simp only [Option.some.injEq, Prod.mk.injEq] at H
  obtain ⟨rfl, rfl⟩ := H
  go_enter Try.func41, Try.ntmps41
  go_wp2_with (first | ((with_reducible refine gate_dst (N := 1) rfl ?_); refine box_event ?hg (N := 1) ?hd (cs := #[.slice A0_0 l0_0.length c0_0]) (t := 25) ?hr ?_; (case hd => rfl); (case hg => rfl); (case hr => first | (go_simp; done) | (go_simp; rfl)); intro gb615 hg w37 hbox hb; have BK615 := Aside0.mk (hbox); have GW615 := Aside0.mk ((by rw [hg]; exact (below_size (zB HB)) : w.heap.size ≤ gb615)); have GE615 := Aside0.mk ((by rw [hg]; exact (below_size (zB HB)) : w.heap.size ≤ gb615)); replace HB := Aside0.mk (below_step (zB HB) hb); clear hb hbox hg) | ((with_reducible refine gate_dst (N := 2) rfl ?_); refine box_event ?hg (N := 2) ?hd (cs := #[.slice none 0 0]) (t := 25) ?hr ?_; (case hd => rfl); (case hg => rfl); (case hr => first | (go_simp; done) | (go_simp; rfl)); intro gb616 hg w38 hbox hb; have BK616 := Aside0.mk (hbox); have GW616 := Aside0.mk ((by rw [hg]; exact (below_size (zB HB)) : w.heap.size ≤ gb616)); have GE616 := Aside0.mk ((by rw [hg]; exact (below_size (zB HB)) : w.heap.size ≤ gb616)); replace HB := Aside0.mk (below_step (zB HB) hb); have NB615_616 := Aside0.mk ((by rw [hg]; exact Nat.ne_of_lt (blk_lt (g := gb615) (o := .cells #[.slice A0_0 l0_0.length c0_0] 25 (0, 0)) (zb BK615)) : gb615 ≠ gb616)); have NB616_615 := Aside0.mk ((by rw [hg]; exact Nat.ne_of_gt (blk_lt (g := gb615) (o := .cells #[.slice A0_0 l0_0.length c0_0] 25 (0, 0)) (zb BK615)) : gb616 ≠ gb615)); replace BK615 := Aside0.mk (blk_below (g := gb615) (o := .cells #[.slice A0_0 l0_0.length c0_0] 25 (0, 0)) (zb BK615) hb); clear hb hbox hg; have hnb39 := NB615_616.out; have hnc39 := NB616_615.out; have hcz40_0 : w38.cell? ⟨gb615, 0, none⟩ = some (.slice A0_0 l0_0.length c0_0) := (blk_cell BK615.out 0).trans rfl; have hfz40_0 := blk_frozen BK615.out 0) | ((with_reducible refine gate_callee (f := 16) rfl ?_); refine goesL_ (some 5) rfl rfl Try.func16 (by kernel_rfl) rfl #[.agg #[.slice A0_0 l0_0.length c0_0]] rfl zl ?_; (with_reducible refine (impl_ValidSignature.calls k _ _ l0_0 false _ ?side1 ?side2 A2.out).mono ?_); (case side1 => repeat (first | exact (Kd.C_below HR0_0.out HB.out) | (with_reducible refine Kd.C_alloc ?_ _) | (with_reducible refine Kd.C_drewN ?_ _) | (with_reducible refine Kd.C_drew ?_))); (case side2 => exact HC0_0.out); rintro e w41 ⟨rfl, hb⟩; refine ⟨_, rfl, ?_⟩; replace BK615 := Aside0.mk (blk_below (g := gb615) (o := .cells #[.slice A0_0 l0_0.length c0_0] 25 (0, 0)) (zb BK615) hb); replace BK616 := Aside0.mk (blk_below (g := gb616) (o := .cells #[.slice none 0 0] 25 (0, 0)) (zb BK616) hb); replace HB := Aside0.mk (below_step (zB HB) hb); (try clear hb); (try clear hb2); (try clear hk); (try clear hi); have hcz42_0 : w41.cell? ⟨gb616, 0, none⟩ = some (.slice none 0 0) := (blk_cell BK616.out 0).trans rfl; have hfz42_0 := blk_frozen BK616.out 0))
  refine bodyPost_ret (results_ct rfl _ _ gb616 25 #[.slice none 0 0] (0, 0) _ rfl (by (with_reducible repeat (first | refine blk_drewN ?_ _ | refine blk_drew ?_ | refine blk_alloc ?_ _)); refine blk_put (cs := #[.slice none 0 0]) ?_ 0 _ rfl; (with_reducible repeat (first | refine blk_drewN ?_ _ | refine blk_drew ?_ | refine blk_alloc ?_ _)); exact BK616.out) Try.underlying25 rfl (by kernel_rfl)) rfl ?_
  exact ⟨_, by first | rfl | (simp [errW_none, errW_some] <;> rfl) | (simp [*, errW_none, errW_some] <;> rfl), by first | exact Kd.R_nil _ _ _ _ _ | exact Kd.N_nil _ _ _ _ _ | exact Kd.V_nil _ _ _ _ _ | exact Kd.Q_nil _ _ _ _ _ | exact Kd.S_nil _ _ _ _ _, zB HB⟩

end Go.Proofs.Ytjnfofgonddflaa.Q

namespace Go.Proofs.Ytjnfofgonddflaa.Q
open Go.RowKit Go.Proofs.YtjnfofgonddflaaL.PrintWords Go.Proofs.YtjnfofgonddflaaL.PrintLast Go.Proofs.YtjnfofgonddflaaL.PrintMore
attribute [local go_sem] max2_int min2_int max_two min_two max_three min_three max_four min_four   -- for this text's walks alone
set_option linter.unusedVariables false
set_option linter.unusedSimpArgs false

/-! ### impl_Signature_copyOf: function 100 -/
def impl_Signature_copyOf.f (l0_0 : List (S41)) : Option ((List (S41))) := (impl_Param_77.f l0_0).bind fun t684 => (some t684)
set_option maxHeartbeats 8000000 in
set_option maxRecDepth 100000 in
theorem impl_Signature_copyOf.calls (A0_0 : Option Addr) (c0_0 : Nat) (l0_0 : List (S41)) (r : List (S41)) (w : World) (hr0_0 : Kd.C k41 w A0_0 l0_0.length l0_0) (hc0_0 : l0_0.length ≤ c0_0) (h : impl_Signature_copyOf.f l0_0 = some r) :
  Calls Try.prog 100 #[.agg #[.slice A0_0 l0_0.length c0_0]] w fun e w' => ∃ v0_ : Value, e = .returned (.agg #[v0_]) ∧ Kd.R k41 41 w' w.heap.size (fun _ => True) v0_ r ∧ Below w.heap.size w w' := by
 have hu25 := Try.underlying25
 have HR0_0 := Aside0.mk hr0_0
 have HC0_0 := Aside0.mk hc0_0
 clear hr0_0 hc0_0
 have HB := Aside0.mk (Below.refl w.heap.size w)
 have H : ((impl_Param_77.f l0_0).bind fun t684 => (some t684)) = some r := h
 clear h
 replace H := Option.bind_eq_some_iff.mp H
 obtain ⟨t684, A20, H⟩ := H
 (try dsimp only at H)
 have A2 := Aside0.mk A20
 clear A20
 obtain rfl := Option.some.inj H
 go_enter Try.func100, Try.ntmps100
 go_wp2_with (first | ((with_reducible refine gate_dst (N := 1) rfl ?_); refine box_event ?hg (N := 1) ?hd (cs := #[.slice A0_0 l0_0.length c0_0]) (t := 25) ?hr ?_; (case hd => rfl); (case hg => rfl); (case hr => first | (go_simp; done) | (go_simp; rfl)); intro gb682 hg w3 hbox hb; have BK682 := Aside0.mk (hbox); have GW682 := Aside0.mk ((by rw [hg]; exact (below_size (zB HB)) : w.heap.size ≤ gb682)); have GE682 := Aside0.mk ((by rw [hg]; exact (below_size (zB HB)) : w.heap.size ≤ gb682)); replace HB := Aside0.mk (below_step (zB HB) hb); clear hb hbox hg) | ((with_reducible refine gate_dst (N := 2) rfl ?_); refine box_event ?hg (N := 2) ?hd (cs := #[.slice none 0 0]) (t := 25) ?hr ?_; (case hd => rfl); (case hg => rfl); (case hr => first | (go_simp; done) | (go_simp; rfl)); intro gb683 hg w4 hbox hb; have BK683 := Aside0.mk (hbox); have GW683 := Aside0.mk ((by rw [hg]; exact (below_size (zB HB)) : w.heap.size ≤ gb683)); have GE683 := Aside0.mk ((by rw [hg]; exact (below_size (zB HB)) : w.heap.size ≤ gb683)); replace HB := Aside0.mk (below_step (zB HB) hb); have NB682_683 := Aside0.mk ((by rw [hg]; exact Nat.ne_of_lt (blk_lt (g := gb682) (o := .cells #[.slice A0_0 l0_0.length c0_0] 25 (0, 0)) (zb BK682)) : gb682 ≠ gb683)); have NB683_682 := Aside0.mk ((by rw [hg]; exact Nat.ne_of_gt (blk_lt (g := gb682) (o := .cells #[.slice A0_0 l0_0.length c0_0] 25 (0, 0)) (zb BK682)) : gb683 ≠ gb682)); replace BK682 := Aside0.mk (blk_below (g := gb682) (o := .cells #[.slice A0_0 l0_0.length c0_0] 25 (0, 0)) (zb BK682) hb); clear hb hbox hg; have hnb5 := NB682_683.out; have hnc5 := NB683_682.out; have hcz6_0 : w4.cell? ⟨gb682, 0, none⟩ = some (.slice A0_0 l0_0.length c0_0) := (blk_cell BK682.out 0).trans rfl; have hfz6_0 := blk_frozen BK682.out 0) | ((with_reducible refine gate_callee (f := 77) rfl ?_); refine goesL_ (some 5) rfl rfl Try.func77 (by kernel_rfl) rfl #[.slice A0_0 l0_0.length c0_0] rfl zl ?_; (with_reducible refine (impl_Param_77.calls _ _ l0_0 t684 _ ?side1 ?side2 A2.out).mono ?_); (case side1 => repeat (first | exact (Kd.C_below HR0_0.out HB.out) | (with_reducible refine Kd.C_alloc ?_ _) | (with_reducible refine Kd.C_drewN ?_ _) | (with_reducible refine Kd.C_drew ?_))); (case side2 => exact HC0_0.out); rintro e w7 ⟨v685, rfl, ho0, hb⟩; refine ⟨_, rfl, ?_⟩; have HO686 := Aside0.mk (Kd.R_lower ho0 (below_size (zB HB))); replace BK682 := Aside0.mk (blk_below (g := gb682) (o := .cells #[.slice A0_0 l0_0.length c0_0] 25 (0, 0)) (zb BK682) hb); replace BK683 := Aside0.mk (blk_below (g := gb683) (o := .cells #[.slice none 0 0] 25 (0, 0)) (zb BK683) hb); replace HB := Aside0.mk (below_step (zB HB) hb); (try clear hb); (try clear hb2); (try clear hk); (try clear hi); (try clear ho0); obtain ⟨Ao8, co8, eo8⟩ := Kd.R_slice HO686.out; subst eo8; have hcz9_0 : w7.cell? ⟨gb683, 0, none⟩ = some (.slice none 0 0) := (blk_cell BK683.out 0).trans rfl; have hfz9_0 := blk_frozen BK683.out 0))
 refine bodyPost_ret (results_cell_row rfl _ _ gb683 25 #[.slice Ao8 t684.length co8] (0, 0) _ rfl (by (with_reducible repeat (first | refine blk_drewN ?_ _ | refine blk_drew ?_ | refine blk_alloc ?_ _)); refine blk_put (cs := #[.slice none 0 0]) ?_ 0 _ rfl; (with_reducible repeat (first | refine blk_drewN ?_ _ | refine blk_drew ?_ | refine blk_alloc ?_ _)); exact BK683.out) Try.underlying25 rfl (by kernel_rfl)) rfl ?_
 exact ⟨_, by first | rfl | (simp [errW_none, errW_some] <;> rfl) | (simp [*, errW_none, errW_some] <;> rfl), by (with_reducible repeat (first | apply Kd.R_alloc | apply Kd.R_drewN | apply Kd.R_drew)); exact Kd.R_mono (Kd.R_far (p := ⟨gb683, 0, none⟩) (Kd.R_types HO686.out BK683.out (by decide)) (fun _ hk => hk.2) (.slice Ao8 t684.length co8)) (fun _ hk => trivial), zB HB⟩

/-! ### impl_Signature_kinds: function 79 -/
def impl_Signature_kinds.l0 : Nat → Int → Int → Int → List (S41) → Option ((List (S41)))
 | 0, _, _, _, _ => none
 | k + 1, x1, x11, x12, x693000 => if x12 < x11 then (if 0 ≤ x12 then (if x12 < (x693000.length : Int) then (if ((rd_T41 x693000 x12).f1) = 1 then (impl_Signature_kinds.l0 k x1 x11 (wrap64 (x12 + 1)) (x693000.set (x12 : Int).toNat (⟨(rd_T41 x693000 x12).f0, x1, (rd_T41 x693000 x12).f2, (rd_T41 x693000 x12).f3⟩ : S41))) else (impl_Signature_kinds.l0 k x1 x11 (wrap64 (x12 + 1)) x693000)) else (none)) else (none)) else (some x693000)
def impl_Signature_kinds.f (k : Nat) (l0_0 : List (S41)) (a1 : Int) : Option ((List (S41))) := (impl_Signature_copyOf.f l0_0).bind fun t689 => (impl_Signature_kinds.l0 k a1 (t689.length : Int) 0 t689)
theorem impl_Signature_kinds.mono_l : ∀ k, (∀ y0 y1 y2 y3, LeO (impl_Signature_kinds.l0 k y0 y1 y2 y3) (impl_Signature_kinds.l0 (k + 1) y0 y1 y2 y3))
 | 0 => fun _ _ _ _ r h => by simp [impl_Signature_kinds.l0] at h
 | k + 1 => by
  have ih0 := impl_Signature_kinds.mono_l k
  ·intro y0 y1 y2 y3
   unfold impl_Signature_kinds.l0
   repeat' first
   | (with_reducible exact ih0 _ _ _ _)
   | (with_reducible exact LeO.refl _)
   | (with_reducible exact LeO.none _)
   | (with_reducible refine LeO.ite ?_ ?_)
   | (with_reducible refine LeO.bind ?_ (fun _ => ?_))
   | exact ih0 _ _ _ _
   | exact LeO.none _
   | refine LeO.ite ?_ ?_
   | refine LeO.bind ?_ (fun _ => ?_)
theorem impl_Signature_kinds.mono : ∀ a0 a1 k, LeO (impl_Signature_kinds.f k a0 a1) (impl_Signature_kinds.f (k + 1) a0 a1) := by
 intro a0 a1 k
 have ih0 := impl_Signature_kinds.mono_l k
 unfold impl_Signature_kinds.f
 repeat' first
   | (with_reducible exact ih0 _ _ _ _)
   | (with_reducible exact LeO.refl _)
   | (with_reducible exact LeO.none _)
   | (with_reducible refine LeO.ite ?_ ?_)
   | (with_reducible refine LeO.bind ?_ (fun _ => ?_))
   | exact ih0 _ _ _ _
   | exact LeO.none _
   | refine LeO.ite ?_ ?_
   | refine LeO.bind ?_ (fun _ => ?_)
set_option maxHeartbeats 8000000 in
set_option maxRecDepth 100000 in
theorem impl_Signature_kinds.calls (k : Nat) (A0_0 : Option Addr) (c0_0 : Nat) (l0_0 : List (S41)) (a1 : Int) (r : List (S41)) (w : World) (hr0_0 : Kd.C k41 w A0_0 l0_0.length l0_0) (hc0_0 : l0_0.length ≤ c0_0) (h : impl_Signature_kinds.f k l0_0 a1 = some r) :
  Calls Try.prog 79 #[.agg #[.slice A0_0 l0_0.length c0_0], .int .i64 a1] w fun e w' => ∃ v0_ : Value, e = .returned (.agg #[v0_]) ∧ Kd.R k41 41 w' w.heap.size (fun _ => True) v0_ r ∧ Below w.heap.size w w' := by
 have hu25 := Try.underlying25
 have HR0_0 := Aside0.mk hr0_0
 have HC0_0 := Aside0.mk hc0_0
 clear hr0_0 hc0_0
 have HB := Aside0.mk (Below.refl w.heap.size w)
 have H : ((impl_Signature_copyOf.f l0_0).bind fun t689 => (impl_Signature_kinds.l0 k a1 (t689.length : Int) 0 t689)) = some r := h
 clear h
 replace H := Option.bind_eq_some_iff.mp H
 obtain ⟨t689, A30, H⟩ := H
 (try dsimp only at H)
 have A3 := Aside0.mk A30
 clear A30
 have H' := Aside0.mk H
 clear H
 go_enter Try.func79, Try.ntmps79
 go_wp2_with (first | ((with_reducible refine gate_dst (N := 2) rfl ?_); refine box_event ?hg (N := 2) ?hd (cs := #[.slice A0_0 l0_0.length c0_0]) (t := 25) ?hr ?_; (case hd => rfl); (case hg => rfl); (case hr => first | (go_simp; done) | (go_simp; rfl)); intro gb687 hg w4 hbox hb; have BK687 := Aside0.mk (hbox); have GW687 := Aside0.mk ((by rw [hg]; exact (below_size (zB HB)) : w.heap.size ≤ gb687)); have GE687 := Aside0.mk ((by rw [hg]; exact (below_size (zB HB)) : w.heap.size ≤ gb687)); replace HB := Aside0.mk (below_step (zB HB) hb); clear hb hbox hg) | ((with_reducible refine gate_dst (N := 4) rfl ?_); refine box_event ?hg (N := 4) ?hd (cs := #[.slice none 0 0]) (t := 25) ?hr ?_; (case hd => rfl); (case hg => rfl); (case hr => first | (go_simp; done) | (go_simp; rfl)); intro gb688 hg w5 hbox hb; have BK688 := Aside0.mk (hbox); have GW688 := Aside0.mk ((by rw [hg]; exact (below_size (zB HB)) : w.heap.size ≤ gb688)); have GE688 := Aside0.mk ((by rw [hg]; exact (below_size (zB HB)) : w.heap.size ≤ gb688)); replace HB := Aside0.mk (below_step (zB HB) hb); have NB687_688 := Aside0.mk ((by rw [hg]; exact Nat.ne_of_lt (blk_lt (g := gb687) (o := .cells #[.slice A0_0 l0_0.length c0_0] 25 (0, 0)) (zb BK687)) : gb687 ≠ gb688)); have NB688_687 := Aside0.mk ((by rw [hg]; exact Nat.ne_of_gt (blk_lt (g := gb687) (o := .cells #[.slice A0_0 l0_0.length c0_0] 25 (0, 0)) (zb BK687)) : gb688 ≠ gb687)); replace BK687 := Aside0.mk (blk_below (g := gb687) (o := .cells #[.slice A0_0 l0_0.length c0_0] 25 (0, 0)) (zb BK687) hb); clear hb hbox hg; have hnb6 := NB687_688.out; have hnc6 := NB688_687.out; have hcz7_0 : w5.cell? ⟨gb687, 0, none⟩ = some (.slice A0_0 l0_0.length c0_0) := (blk_cell BK687.out 0).trans rfl; have hfz7_0 := blk_frozen BK687.out 0) | ((with_reducible refine gate_callee (f := 100) rfl ?_); refine goesL_ (some 8) rfl rfl Try.func100 (by kernel_rfl) rfl #[.agg #[.slice A0_0 l0_0.length c0_0]] rfl zl ?_; (with_reducible refine (impl_Signature_copyOf.calls _ _ l0_0 t689 _ ?side1 ?side2 A3.out).mono ?_); (case side1 => repeat (first | exact (Kd.C_below HR0_0.out HB.out) | (with_reducible refine Kd.C_alloc ?_ _) | (with_reducible refine Kd.C_drewN ?_ _) | (with_reducible refine Kd.C_drew ?_))); (case side2 => exact HC0_0.out); rintro e w8 ⟨v690, rfl, ho0, hb⟩; refine ⟨_, rfl, ?_⟩; have HO691 := Aside0.mk (Kd.R_lower ho0 (below_size (zB HB))); replace BK687 := Aside0.mk (blk_below (g := gb687) (o := .cells #[.slice A0_0 l0_0.length c0_0] 25 (0, 0)) (zb BK687) hb); replace BK688 := Aside0.mk (blk_below (g := gb688) (o := .cells #[.slice none 0 0] 25 (0, 0)) (zb BK688) hb); replace HB := Aside0.mk (below_step (zB HB) hb); (try clear hb); (try clear hb2); (try clear hk); (try clear hi); (try clear ho0)) | ((with_reducible refine gate_dst (N := 5) rfl ?_); refine box_event ?hg (N := 5) ?hd (cs := #[.slice none 0 0]) (t := 25) ?hr ?_; (case hd => rfl); (case hg => rfl); (case hr => first | (go_simp; done) | (go_simp; rfl)); intro gb692 hg w9 hbox hb; replace HO691 := Aside0.mk (Kd.R_below (zo HO691) hb); have BK692 := Aside0.mk (hbox); have GW692 := Aside0.mk ((by rw [hg]; exact (below_size (zB HB)) : w.heap.size ≤ gb692)); have GE692 := Aside0.mk ((by rw [hg]; exact (below_size (zB HB)) : w.heap.size ≤ gb692)); replace HB := Aside0.mk (below_step (zB HB) hb); have NB687_692 := Aside0.mk ((by rw [hg]; exact Nat.ne_of_lt (blk_lt (g := gb687) (o := .cells #[.slice A0_0 l0_0.length c0_0] 25 (0, 0)) (zb BK687)) : gb687 ≠ gb692)); have NB692_687 := Aside0.mk ((by rw [hg]; exact Nat.ne_of_gt (blk_lt (g := gb687) (o := .cells #[.slice A0_0 l0_0.length c0_0] 25 (0, 0)) (zb BK687)) : gb692 ≠ gb687)); replace BK687 := Aside0.mk (blk_below (g := gb687) (o := .cells #[.slice A0_0 l0_0.length c0_0] 25 (0, 0)) (zb BK687) hb); have NB688_692 := Aside0.mk ((by rw [hg]; exact Nat.ne_of_lt (blk_lt (g := gb688) (o := .cells #[.slice none 0 0] 25 (0, 0)) (zb BK688)) : gb688 ≠ gb692)); have NB692_688 := Aside0.mk ((by rw [hg]; exact Nat.ne_of_gt (blk_lt (g := gb688) (o := .cells #[.slice none 0 0] 25 (0, 0)) (zb BK688)) : gb692 ≠ gb688)); replace BK688 := Aside0.mk (blk_below (g := gb688) (o := .cells #[.slice none 0 0] 25 (0, 0)) (zb BK688) hb); clear hb hbox hg; obtain ⟨Ao10, co10, eo10⟩ := Kd.R_slice HO691.out; subst eo10; have hnb11 := NB692_687.out; have hnc11 := NB687_692.out; have hnb12 := NB692_688.out; have hnc12 := NB688_692.out; have hcz13_0 : w9.cell? ⟨gb692, 0, none⟩ = some (.slice none 0 0) := (blk_cell BK692.out 0).trans rfl; have hfz13_0 := blk_frozen BK692.out 0))
 go_loopg [12] k (fun kq v12 w' => ∃ (x12_1 : Int) (x693000_1 : List (S41)) (u693000 : Value), v12 = .int .i64 x12_1 ∧ Aside0 (impl_Signature_kinds.l0 kq a1 (t689.length : Int) x12_1 x693000_1 = some r) ∧ Aside0 (kq ≤ k) ∧ Aside0 (Kd.R k41 41 w' w.heap.size (fun _ => True) u693000 x693000_1) ∧ Aside0 (w'.heap[gb687]? = some (.cells #[(.slice A0_0 l0_0.length c0_0)] 25 (0, 0))) ∧ Aside0 (w'.heap[gb688]? = some (.cells #[(.slice none 0 0)] 25 (0, 0))) ∧ Aside0 (w'.heap[gb692]? = some (.cells #[u693000] 25 (0, 0))) ∧ Aside0 (Below w.heap.size w w'))
 case atStart => exact ⟨(0), (t689), (.slice Ao10 t689.length co10), zr, H', ⟨Nat.le_refl _⟩, ⟨by (with_reducible repeat (first | apply Kd.R_alloc | apply Kd.R_drewN | apply Kd.R_drew)); exact Kd.R_mono (Kd.R_far (p := ⟨gb692, 0, none⟩) (Kd.R_types HO691.out BK692.out (by decide)) (fun _ hk => hk.2) (.slice Ao10 t689.length co10)) (fun _ hk => trivial)⟩, ⟨zf BK687⟩, ⟨zf BK688⟩, ⟨by (with_reducible repeat (first | refine blk_drewN ?_ _ | refine blk_drew ?_ | refine blk_alloc ?_ _)); refine blk_put (cs := #[.slice none 0 0]) ?_ 0 _ rfl; (with_reducible repeat (first | refine blk_drewN ?_ _ | refine blk_drew ?_ | refine blk_alloc ?_ _)); exact BK692.out⟩, ⟨zB HB⟩⟩
 case round =>
  clear H'
  try clear c1
  try clear p2
  try clear c6
  try clear c7
  try clear c10
  try clear c11
  try clear c12
  try clear hcz13_0
  try clear hcz7_0
  try clear hfz13_0
  try clear hfz7_0
  obtain ⟨x12_1, x693000_1, u693000, rfl, HA, HK1, HO_693000, BK687, BK688, BK692, HB⟩ := hrel
  cases gk with
  | zero => exact absurd HA.out (by simp [impl_Signature_kinds.l0])
  | succ k1 =>
   have H := HA.out
   clear HA
   simp only [impl_Signature_kinds.l0] at H
   by_cases c14 : x12_1 < (t689.length : Int)
   ·rw [if_pos c14] at H
    have c14b0 : decide (x12_1 < (t689.length : Int)) = true := decide_eq_true c14
    clear c14
    by_cases c15 : 0 ≤ x12_1
    ·rw [if_pos c15] at H
     have c15b0 : decide (0 ≤ x12_1) = true := decide_eq_true c15
     clear c15
     by_cases c16 : x12_1 < (x693000_1.length : Int)
     ·rw [if_pos c16] at H
      have c16b0 : decide (x12_1 < (x693000_1.length : Int)) = true := decide_eq_true c16
      clear c16
      by_cases c17 : ((rd_T41 x693000_1 x12_1).f1) = 1
      ·rw [if_pos c17] at H
       have c17b0 : (((rd_T41 x693000_1 x12_1).f1) == 1) = true := beq_iff_eq.mpr c17
       have c17b1 : (((rd_T41 x693000_1 x12_1).f1) != 1) = false := bne_eq_false_iff_eq.mpr c17
       clear c17
       obtain ⟨y694, hy694⟩ : ∃ y_ : List (S41), y_ = (x693000_1.set (x12_1 : Int).toNat (⟨(rd_T41 x693000_1 x12_1).f0, a1, (rd_T41 x693000_1 x12_1).f2, (rd_T41 x693000_1 x12_1).f3⟩ : S41)) := ⟨_, rfl⟩
       replace H : (impl_Signature_kinds.l0 k1 a1 (t689.length : Int) (wrap64 (x12_1 + 1)) y694) = some r := by first | (rw [hy694]; with_reducible exact H) | (have H2_ := (Option.bind_some _ _).symm.trans H; rw [hy694]; with_reducible exact H2_) | (have H2_ := (Option.bind_some _ _).symm.trans H; with_reducible exact H2_) | with_reducible exact H | (rw [hy694]; exact H) | exact H
       have Ny694 := Aside0.mk hy694
       clear hy694
       have H' := Aside0.mk H
       clear H
       have hnb19 := NB692_687.out
       have hnc19 := NB687_692.out
       have hnb20 := NB692_688.out
       have hnc20 := NB688_692.out
       have hcz21_0 : wr.cell? ⟨gb692, 0, none⟩ = some (u693000) := (blk_cell BK692.out 0).trans rfl
       have hfz21_0 := blk_frozen BK692.out 0
       obtain ⟨Ao22, co22, eo22⟩ := Kd.R_slice HO_693000.out
       subst eo22
       have p693 : 0 ≤ (x12_1 : Int) := of_decide_eq_true za
       have q693 : x12_1 < (x693000_1.length : Int) := of_decide_eq_true za
       obtain ⟨ad693, e693, hx693_0, hx693_1, hx693_2, hx693_3⟩ := at_T41 (Kd.R_reads' HO_693000.out).2.2 x12_1 p693 q693
       cases e693
       replace p693 := eq_true p693
       replace q693 := eq_true q693
       have p18 : 0 ≤ (x12_1 : Int) := of_decide_eq_true za
       have q18 : (x12_1 : Int) < ((x693000_1.length : Int) : Int) := of_decide_eq_true za
       obtain ⟨go18, co18, eo18, gb18, gl18, cl18, HG18⟩ := Kd.R_form HO_693000.out (by omega)
       (first | cases eo18 | (injection eo18 with ea_ en_ ec_; (first | subst ea_ | (injection ea_ with ea_; subst ea_)); subst ec_; clear en_))
       have GB18 := Aside0.mk gb18
       have GG18 := Aside0.mk HG18
       clear gb18 gl18 HG18
       (first | simp only [add_plain] at hx693_0 | skip)
       (first | simp only [add_plain] at hx693_1 | skip)
       (first | simp only [add_plain] at hx693_2 | skip)
       (first | simp only [add_plain] at hx693_3 | skip)
       obtain ⟨ce18, hcl18, hM18, hcc18, hfr18⟩ := Kd.R_elem HO_693000.out z41 (x12_1 : Int) p18 q18
       obtain rfl := k41_openM hM18
       have hx18_0 : wr.cell? ⟨go18, (x12_1 : Int).toNat * 4, none⟩ = some (.string ((rd_T41 x693000_1 x12_1).f0)) := hcc18 0 _ rfl
       have hx18_1 : wr.cell? ⟨go18, (x12_1 : Int).toNat * 4 + 1, none⟩ = some (.int .i64 ((rd_T41 x693000_1 x12_1).f1)) := hcc18 1 _ rfl
       have hx18_2 : wr.cell? ⟨go18, (x12_1 : Int).toNat * 4 + 2, none⟩ = some (.bool ((rd_T41 x693000_1 x12_1).f2)) := hcc18 2 _ rfl
       have hx18_3 : wr.cell? ⟨go18, (x12_1 : Int).toNat * 4 + 3, none⟩ = some (.int .i64 ((rd_T41 x693000_1 x12_1).f3)) := hcc18 3 _ rfl
       have hf18_0 : wr.frozen? ⟨go18, (x12_1 : Int).toNat * 4, none⟩ = false := hfr18 0
       have hf18_1 : wr.frozen? ⟨go18, (x12_1 : Int).toNat * 4 + 1, none⟩ = false := hfr18 1
       have hf18_2 : wr.frozen? ⟨go18, (x12_1 : Int).toNat * 4 + 2, none⟩ = false := hfr18 2
       have hf18_3 : wr.frozen? ⟨go18, (x12_1 : Int).toNat * 4 + 3, none⟩ = false := hfr18 3
       clear hcl18 hcc18 hfr18 hM18
       replace p18 := eq_true p18
       replace q18 := eq_true q18
       have HX23 := Aside0.mk (show Kd.R k41 41 wr w.heap.size (fun _ => True) (.slice (some ⟨go18, 0, none⟩) x693000_1.length co22) x693000_1 from (zo HO_693000))
       obtain ⟨ce23, hcl23, hM23, hcc23, hfr23⟩ := Kd.R_elem HX23.out z41 (x12_1 : Int) (of_decide_eq_true za) (by have h_ : (x12_1 : Int) < ((x693000_1.length : Int) : Int) := of_decide_eq_true za; first | exact h_ | (have e_ := (Kd.R_reads' HO_693000.out).1; omega) | simpa using h_)
       obtain rfl := k41_openM hM23
       have HP23 := Kd.R_seg HX23.out (x12_1 : Int) (of_decide_eq_true za) (by have h_ : (x12_1 : Int) < ((x693000_1.length : Int) : Int) := of_decide_eq_true za; first | exact h_ | (have e_ := (Kd.R_reads' HO_693000.out).1; omega) | simpa using h_) (seg := [.int .i64 a1]) (j := 1) hcl23 hcc23 (show 2 ≤ 4 from by decide) (x' := (⟨(rd_T41 x693000_1 x12_1).f0, a1, (rd_T41 x693000_1 x12_1).f2, (rd_T41 x693000_1 x12_1).f3⟩ : S41)) (k41_mkM _ _ _ (⟨(rd_T41 x693000_1 x12_1).f0, a1, (rd_T41 x693000_1 x12_1).f2, (rd_T41 x693000_1 x12_1).f3⟩ : S41) ) (fun _ hk => hk)
       have hx23_1 := hcc23 1 _ rfl
       (try simp only [show (k41).sz = 4 from rfl, Nat.mul_one, Nat.add_zero] at hx23_1)
       have hf23_1 := hfr23 1
       (try simp only [show (k41).sz = 4 from rfl, Nat.mul_one, Nat.add_zero] at hf23_1)
       clear hcl23 hcc23 hfr23 hM23
       go_wp2_with (first | ((with_reducible refine gate_store (t := 3) (p := 27) rfl ?_); refine store_event (t := 3) (p := 27) (v := ?vo_w24) (w1 := (wr.setCell ⟨go18, (x12_1 : Int).toNat * 4 + 1, none⟩ (.int .i64 a1))) ?hg ?ho ?hn ?hr ?_; (case ho => rfl); (case hg => rfl); (case hn => rfl); (case hr => first | (go_simp; done) | (go_simp; rfl)); intro w24 hw; have hg : wr.grownBy w24 (some go18) := (by rw [hw]; exact HP23.2); have hp_ : Kd.R k41 41 w24 w.heap.size (fun _ => True) (.slice (some ⟨go18, 0, none⟩) x693000_1.length co22) y694 := (by rw [hw, Ny694.out]; exact HP23.1); clear HP23; replace BK687 := Aside0.mk (blk_grown (g := gb687) (o := .cells #[.slice A0_0 l0_0.length c0_0] 25 (0, 0)) (zb BK687) hg (Kd.R_ne HO_693000.out BK687.out (by decide))); replace BK688 := Aside0.mk (blk_grown (g := gb688) (o := .cells #[.slice none 0 0] 25 (0, 0)) (zb BK688) hg (Kd.R_ne HO_693000.out BK688.out (by decide))); replace BK692 := Aside0.mk (blk_grown (g := gb692) (o := .cells #[.slice (some ⟨go18, 0, none⟩) x693000_1.length co22] 25 (0, 0)) (zb BK692) hg (Kd.R_ne HO_693000.out BK692.out (by decide))); replace HO_693000 := Aside0.mk (hp_); replace HB := Aside0.mk ((by rw [hw]; exact below_set (HB.out) GB18.out : Below w.heap.size w w24)); clear hg hw hp_))
       go_roundg k1
       case measure => have := HK1.out; omega
       case rel => exact ⟨(wrap64 (x12_1 + 1)), (y694), (.slice (some ⟨go18, 0, none⟩) x693000_1.length co22), zr, H', ⟨by have := HK1.out; omega⟩, ⟨zo HO_693000⟩, ⟨zb BK687⟩, ⟨zb BK688⟩, ⟨zb BK692⟩, ⟨zB HB⟩⟩
      ·rw [if_neg c17] at H
       have c17b0 : (((rd_T41 x693000_1 x12_1).f1) == 1) = false := beq_eq_false_iff_ne.mpr c17
       have c17b1 : (((rd_T41 x693000_1 x12_1).f1) != 1) = true := bne_iff_ne.mpr c17
       have H' := Aside0.mk H
       clear H
       have hnb25 := NB692_687.out
       have hnc25 := NB687_692.out
       have hnb26 := NB692_688.out
       have hnc26 := NB688_692.out
       have hcz27_0 : wr.cell? ⟨gb692, 0, none⟩ = some (u693000) := (blk_cell BK692.out 0).trans rfl
       have hfz27_0 := blk_frozen BK692.out 0
       obtain ⟨Ao28, co28, eo28⟩ := Kd.R_slice HO_693000.out
       subst eo28
       have p693 : 0 ≤ (x12_1 : Int) := of_decide_eq_true za
       have q693 : x12_1 < (x693000_1.length : Int) := of_decide_eq_true za
       obtain ⟨ad693, e693, hx693_0, hx693_1, hx693_2, hx693_3⟩ := at_T41 (Kd.R_reads' HO_693000.out).2.2 x12_1 p693 q693
       cases e693
       replace p693 := eq_true p693
       replace q693 := eq_true q693
       go_wp2
       go_roundg k1
       case measure => have := HK1.out; omega
       case rel => exact ⟨(wrap64 (x12_1 + 1)), (x693000_1), (.slice (some ad693) x693000_1.length co28), zr, H', ⟨by have := HK1.out; omega⟩, ⟨zo HO_693000⟩, ⟨zb BK687⟩, ⟨zb BK688⟩, ⟨zb BK692⟩, ⟨zB HB⟩⟩
     ·rw [if_neg c16] at H
      exact absurd H (by simp)
    ·rw [if_neg c15] at H
     exact absurd H (by simp)
   ·rw [if_neg c14] at H
    have c14b0 : decide (x12_1 < (t689.length : Int)) = false := decide_eq_false c14
    clear c14
    obtain rfl := Option.some.inj H
    have hnb29 := NB692_687.out
    have hnc29 := NB687_692.out
    have hnb30 := NB692_688.out
    have hnc30 := NB688_692.out
    have hcz31_0 : wr.cell? ⟨gb692, 0, none⟩ = some (u693000) := (blk_cell BK692.out 0).trans rfl
    have hfz31_0 := blk_frozen BK692.out 0
    obtain ⟨Ao32, co32, eo32⟩ := Kd.R_slice HO_693000.out
    subst eo32
    have hnb33 := NB688_687.out
    have hnc33 := NB687_688.out
    have hcz34_0 : wr.cell? ⟨gb688, 0, none⟩ = some (.slice none 0 0) := (blk_cell BK688.out 0).trans rfl
    have hfz34_0 := blk_frozen BK688.out 0
    go_wp2
    refine bodyPost_ret (results_cell_row rfl _ _ gb688 25 #[.slice Ao32 x693000_1.length co32] (0, 0) _ rfl (by (with_reducible repeat (first | refine blk_drewN ?_ _ | refine blk_drew ?_ | refine blk_alloc ?_ _)); refine blk_put (cs := #[.slice none 0 0]) ?_ 0 _ rfl; (with_reducible repeat (first | refine blk_drewN ?_ _ | refine blk_drew ?_ | refine blk_alloc ?_ _)); exact BK688.out) Try.underlying25 rfl (by kernel_rfl)) rfl ?_
    exact ⟨_, by first | rfl | (simp [errW_none, errW_some] <;> rfl) | (simp [*, errW_none, errW_some] <;> rfl), by (with_reducible repeat (first | apply Kd.R_alloc | apply Kd.R_drewN | apply Kd.R_drew)); exact Kd.R_mono (Kd.R_far (p := ⟨gb688, 0, none⟩) (Kd.R_types HO_693000.out BK688.out (by decide)) (fun _ hk => hk.2) (.slice Ao32 x693000_1.length co32)) (fun _ hk => trivial), zB HB⟩

end Go.Proofs.Ytjnfofgonddflaa.Q

namespace Go.Proofs.Ytjnfofgonddflaa.Q
open Go.RowKit Go.Proofs.YtjnfofgonddflaaL.PrintWords Go.Proofs.YtjnfofgonddflaaL.PrintLast Go.Proofs.YtjnfofgonddflaaL.PrintMore
attribute [local go_sem] max2_int min2_int max_two min_two max_three min_three max_four min_four   -- for this text's walks alone
set_option linter.unusedVariables false
set_option linter.unusedSimpArgs false

/-! ### impl_NamedOnly: function 46 -/
def impl_NamedOnly.f (k : Nat) (l0_0 : List (S41)) : Option ((List (S41)) × Bool) := (impl_ValidSignature.f k l0_0).bind fun t755 => (if t755 = true then ((impl_Signature_has.f l0_0 2).bind fun t756 => (if t756 = true then (some (([] : List (S41)), false)) else ((impl_Signature_kinds.f k l0_0 3).bind fun t757 => (some (t757, true))))) else (some (([] : List (S41)), false)))
theorem impl_NamedOnly.mono : ∀ a0 k, LeO (impl_NamedOnly.f k a0) (impl_NamedOnly.f (k + 1) a0) := by
 intro a0 k
 unfold impl_NamedOnly.f
 repeat' first
   | (with_reducible exact impl_Signature_kinds.mono _ _ _)
   | (with_reducible exact impl_ValidSignature.mono _ _)
   | (with_reducible exact LeO.refl _)
   | (with_reducible exact LeO.none _)
   | (with_reducible refine LeO.ite ?_ ?_)
   | (with_reducible refine LeO.bind ?_ (fun _ => ?_))
   | exact impl_Signature_kinds.mono _ _ _
   | exact impl_ValidSignature.mono _ _
   | exact LeO.none _
   | refine LeO.ite ?_ ?_
   | refine LeO.bind ?_ (fun _ => ?_)
set_option maxHeartbeats 8000000 in
set_option maxRecDepth 100000 in
theorem impl_NamedOnly.calls (k : Nat) (A0_0 : Option Addr) (c0_0 : Nat) (l0_0 : List (S41)) (r1 : List (S41)) (r2 : Bool) (w : World) (hr0_0 : Kd.C k41 w A0_0 l0_0.length l0_0) (hc0_0 : l0_0.length ≤ c0_0) (h : impl_NamedOnly.f k l0_0 = some (r1, r2)) :
  Calls Try.prog 46 #[.agg #[.slice A0_0 l0_0.length c0_0]] w fun e w' => ∃ v0_ : Value, e = .returned (.tuple #[.agg #[v0_], .bool r2]) ∧ Kd.R k41 41 w' w.heap.size (fun _ => True) v0_ r1 ∧ Below w.heap.size w w' := by
 have hu25 := Try.underlying25
 have HR0_0 := Aside0.mk hr0_0
 have HC0_0 := Aside0.mk hc0_0
 clear hr0_0 hc0_0
 have HB := Aside0.mk (Below.refl w.heap.size w)
 have H : ((impl_ValidSignature.f k l0_0).bind fun t755 => (if t755 = true then ((impl_Signature_has.f l0_0 2).bind fun t756 => (if t756 = true then (some (([] : List (S41)), false)) else ((impl_Signature_kinds.f k l0_0 3).bind fun t757 => (some (t757, true))))) else (some (([] : List (S41)), false)))) = some (r1, r2) := h
 clear h
 replace H := Option.bind_eq_some_iff.mp H
 obtain ⟨t755, A20, H⟩ := H
 (try dsimp only at H)
 have A2 := Aside0.mk A20
 clear A20
 by_cases c3 : t755 = true
 ·subst c3
  rw [if_pos rfl] at H
  replace H := Option.bind_eq_some_iff.mp H
  obtain ⟨t756, A40, H⟩ := H
  (try dsimp only at H)
  have A4 := Aside0.mk A40
  clear A40
  by_cases c5 : t756 = true
  ·subst c5
   rw [if_pos rfl] at H
   simp only [Option.some.injEq, Prod.mk.injEq] at H
   obtain ⟨rfl, rfl⟩ := H
   go_enter Try.func46, Try.ntmps46
   go_wp2_with (first | ((with_reducible refine gate_dst (N := 1) rfl ?_); refine box_event ?hg (N := 1) ?hd (cs := #[.slice A0_0 l0_0.length c0_0]) (t := 25) ?hr ?_; (case hd => rfl); (case hg => rfl); (case hr => first | (go_simp; done) | (go_simp; rfl)); intro gb753 hg w6 hbox hb; have BK753 := Aside0.mk (hbox); have GW753 := Aside0.mk ((by rw [hg]; exact (below_size (zB HB)) : w.heap.size ≤ gb753)); have GE753 := Aside0.mk ((by rw [hg]; exact (below_size (zB HB)) : w.heap.size ≤ gb753)); replace HB := Aside0.mk (below_step (zB HB) hb); clear hb hbox hg) | ((with_reducible refine gate_dst (N := 2) rfl ?_); refine box_event ?hg (N := 2) ?hd (cs := #[.slice none 0 0]) (t := 25) ?hr ?_; (case hd => rfl); (case hg => rfl); (case hr => first | (go_simp; done) | (go_simp; rfl)); intro gb754 hg w7 hbox hb; have BK754 := Aside0.mk (hbox); have GW754 := Aside0.mk ((by rw [hg]; exact (below_size (zB HB)) : w.heap.size ≤ gb754)); have GE754 := Aside0.mk ((by rw [hg]; exact (below_size (zB HB)) : w.heap.size ≤ gb754)); replace HB := Aside0.mk (below_step (zB HB) hb); have NB753_754 := Aside0.mk ((by rw [hg]; exact Nat.ne_of_lt (blk_lt (g := gb753) (o := .cells #[.slice A0_0 l0_0.length c0_0] 25 (0, 0)) (zb BK753)) : gb753 ≠ gb754)); have NB754_753 := Aside0.mk ((by rw [hg]; exact Nat.ne_of_gt (blk_lt (g := gb753) (o := .cells #[.slice A0_0 l0_0.length c0_0] 25 (0, 0)) (zb BK753)) : gb754 ≠ gb753)); replace BK753 := Aside0.mk (blk_below (g := gb753) (o := .cells #[.slice A0_0 l0_0.length c0_0] 25 (0, 0)) (zb BK753) hb); clear hb hbox hg; have hnb8 := NB753_754.out; have hnc8 := NB754_753.out; have hcz9_0 : w7.cell? ⟨gb753, 0, none⟩ = some (.slice A0_0 l0_0.length c0_0) := (blk_cell BK753.out 0).trans rfl; have hfz9_0 := blk_frozen BK753.out 0) | ((with_reducible refine gate_callee (f := 16) rfl ?_); refine goesL_ (some 5) rfl rfl Try.func16 (by kernel_rfl) rfl #[.agg #[.slice A0_0 l0_0.length c0_0]] rfl zl ?_; (with_reducible refine (impl_ValidSignature.calls k _ _ l0_0 true _ ?side1 ?side2 A2.out).mono ?_); (case side1 => repeat (first | exact (Kd.C_below HR0_0.out HB.out) | (with_reducible refine Kd.C_alloc ?_ _) | (with_reducible refine Kd.C_drewN ?_ _) | (with_reducible refine Kd.C_drew ?_))); (case side2 => exact HC0_0.out); rintro e w10 ⟨rfl, hb⟩; refine ⟨_, rfl, ?_⟩; replace BK753 := Aside0.mk (blk_below (g := gb753) (o := .cells #[.slice A0_0 l0_0.length c0_0] 25 (0, 0)) (zb BK753) hb); replace BK754 := Aside0.mk (blk_below (g := gb754) (o := .cells #[.slice none 0 0] 25 (0, 0)) (zb BK754) hb); replace HB := Aside0.mk (below_step (zB HB) hb); (try clear hb); (try clear hb2); (try clear hk); (try clear hi); have hcz11_0 : w10.cell? ⟨gb753, 0, none⟩ = some (.slice A0_0 l0_0.length c0_0) := (blk_cell BK753.out 0).trans rfl; have hfz11_0 := blk_frozen BK753.out 0) | (go_at_call 61; (with_reducible refine (impl_Signature_has.calls _ _ l0_0 2 true _ ?side1 ?side2 A4.out).mono ?_); (case side1 => repeat (first | exact (Kd.C_below HR0_0.out HB.out) | (with_reducible refine Kd.C_alloc ?_ _) | (with_reducible refine Kd.C_drewN ?_ _) | (with_reducible refine Kd.C_drew ?_))); (case side2 => exact HC0_0.out); rintro e w12 ⟨rfl, hb⟩; replace BK753 := Aside0.mk (blk_below (g := gb753) (o := .cells #[.slice A0_0 l0_0.length c0_0] 25 (0, 0)) (zb BK753) hb); replace BK754 := Aside0.mk (blk_below (g := gb754) (o := .cells #[.slice none 0 0] 25 (0, 0)) (zb BK754) hb); replace HB := Aside0.mk (below_step (zB HB) hb); (try clear hb); (try clear hb2); (try clear hk); (try clear hi); have hcz13_0 : w12.cell? ⟨gb754, 0, none⟩ = some (.slice none 0 0) := (blk_cell BK754.out 0).trans rfl; have hfz13_0 := blk_frozen BK754.out 0))
   refine bodyPost_ret (results_ct rfl _ _ gb754 25 #[.slice none 0 0] (0, 0) _ rfl (by (with_reducible repeat (first | refine blk_drewN ?_ _ | refine blk_drew ?_ | refine blk_alloc ?_ _)); refine blk_put (cs := #[.slice none 0 0]) ?_ 0 _ rfl; (with_reducible repeat (first | refine blk_drewN ?_ _ | refine blk_drew ?_ | refine blk_alloc ?_ _)); exact BK754.out) Try.underlying25 rfl (by kernel_rfl)) rfl ?_
   exact ⟨_, by first | rfl | (simp [errW_none, errW_some] <;> rfl) | (simp [*, errW_none, errW_some] <;> rfl), by first | exact Kd.R_nil _ _ _ _ _ | exact Kd.N_nil _ _ _ _ _ | exact Kd.V_nil _ _ _ _ _ | exact Kd.Q_nil _ _ _ _ _ | exact Kd.S_nil _ _ _ _ _, zB HB⟩
  ·replace c5 := Bool.eq_false_iff.mpr c5
   subst c5
   rw [if_neg (show ¬ (false = true) by decide)] at H
   replace H := Option.bind_eq_some_iff.mp H
   obtain ⟨t757, A140, H⟩ := H
   (try dsimp only at H)
   have A14 := Aside0.mk A140
   clear A140
   simp only [Option.some.injEq, Prod.mk.injEq] at H
   obtain ⟨rfl, rfl⟩ := H
   go_enter Try.func46, Try.ntmps46
   go_wp2_with (first | ((with_reducible refine gate_dst (N := 1) rfl ?_); refine box_event ?hg (N := 1) ?hd (cs := #[.slice A0_0 l0_0.length c0_0]) (t := 25) ?hr ?_; (case hd => rfl); (case hg => rfl); (case hr => first | (go_simp; done) | (go_simp; rfl)); intro gb753 hg w15 hbox hb; have BK753 := Aside0.mk (hbox); have GW753 := Aside0.mk ((by rw [hg]; exact (below_size (zB HB)) : w.heap.size ≤ gb753)); have GE753 := Aside0.mk ((by rw [hg]; exact (below_size (zB HB)) : w.heap.size ≤ gb753)); replace HB := Aside0.mk (below_step (zB HB) hb); clear hb hbox hg) | ((with_reducible refine gate_dst (N := 2) rfl ?_); refine box_event ?hg (N := 2) ?hd (cs := #[.slice none 0 0]) (t := 25) ?hr ?_; (case hd => rfl); (case hg => rfl); (case hr => first | (go_simp; done) | (go_simp; rfl)); intro gb754 hg w16 hbox hb; have BK754 := Aside0.mk (hbox); have GW754 := Aside0.mk ((by rw [hg]; exact (below_size (zB HB)) : w.heap.size ≤ gb754)); have GE754 := Aside0.mk ((by rw [hg]; exact (below_size (zB HB)) : w.heap.size ≤ gb754)); replace HB := Aside0.mk (below_step (zB HB) hb); have NB753_754 := Aside0.mk ((by rw [hg]; exact Nat.ne_of_lt (blk_lt (g := gb753) (o := .cells #[.slice A0_0 l0_0.length c0_0] 25 (0, 0)) (zb BK753)) : gb753 ≠ gb754)); have NB754_753 := Aside0.mk ((by rw [hg]; exact Nat.ne_of_gt (blk_lt (g := gb753) (o := .cells #[.slice A0_0 l0_0.length c0_0] 25 (0, 0)) (zb BK753)) : gb754 ≠ gb753)); replace BK753 := Aside0.mk (blk_below (g := gb753) (o := .cells #[.slice A0_0 l0_0.length c0_0] 25 (0, 0)) (zb BK753) hb); clear hb hbox hg; have hnb17 := NB753_754.out; have hnc17 := NB754_753.out; have hcz18_0 : w16.cell? ⟨gb753, 0, none⟩ = some (.slice A0_0 l0_0.length c0_0) := (blk_cell BK753.out 0).trans rfl; have hfz18_0 := blk_frozen BK753.out 0) | ((with_reducible refine gate_callee (f := 16) rfl ?_); refine goesL_ (some 5) rfl rfl Try.func16 (by kernel_rfl) rfl #[.agg #[.slice A0_0 l0_0.length c0_0]] rfl zl ?_; (with_reducible refine (impl_ValidSignature.calls k _ _ l0_0 true _ ?side1 ?side2 A2.out).mono ?_); (case side1 => repeat (first | exact (Kd.C_below HR0_0.out HB.out) | (with_reducible refine Kd.C_alloc ?_ _) | (with_reducible refine Kd.C_drewN ?_ _) | (with_reducible refine Kd.C_drew ?_))); (case side2 => exact HC0_0.out); rintro e w19 ⟨rfl, hb⟩; refine ⟨_, rfl, ?_⟩; replace BK753 := Aside0.mk (blk_below (g := gb753) (o := .cells #[.slice A0_0 l0_0.length c0_0] 25 (0, 0)) (zb BK753) hb); replace BK754 := Aside0.mk (blk_below (g := gb754) (o := .cells #[.slice none 0 0] 25 (0, 0)) (zb BK754) hb); replace HB := Aside0.mk (below_step (zB HB) hb); (try clear hb); (try clear hb2); (try clear hk); (try clear hi); have hcz20_0 : w19.cell? ⟨gb753, 0, none⟩ = some (.slice A0_0 l0_0.length c0_0) := (blk_cell BK753.out 0).trans rfl; have hfz20_0 := blk_frozen BK753.out 0) | (go_at_call 61; (with_reducible refine (impl_Signature_has.calls _ _ l0_0 2 false _ ?side1 ?side2 A4.out).mono ?_); (case side1 => repeat (first | exact (Kd.C_below HR0_0.out HB.out) | (with_reducible refine Kd.C_alloc ?_ _) | (with_reducible refine Kd.C_drewN ?_ _) | (with_reducible refine Kd.C_drew ?_))); (case side2 => exact HC0_0.out); rintro e w21 ⟨rfl, hb⟩; replace BK753 := Aside0.mk (blk_below (g := gb753) (o := .cells #[.slice A0_0 l0_0.length c0_0] 25 (0, 0)) (zb BK753) hb); replace BK754 := Aside0.mk (blk_below (g := gb754) (o := .cells #[.slice none 0 0] 25 (0, 0)) (zb BK754) hb); replace HB := Aside0.mk (below_step (zB HB) hb); (try clear hb); (try clear hb2); (try clear hk); (try clear hi); have hcz22_0 : w21.cell? ⟨gb753, 0, none⟩ = some (.slice A0_0 l0_0.length c0_0) := (blk_cell BK753.out 0).trans rfl; have hfz22_0 := blk_frozen BK753.out 0) | ((with_reducible refine gate_callee (f := 79) rfl ?_); refine goesL_ (some 13) rfl rfl Try.func79 (by kernel_rfl) rfl #[.agg #[.slice A0_0 l0_0.length c0_0], .int .i64 3] rfl zl ?_; (with_reducible refine (impl_Signature_kinds.calls k _ _ l0_0 3 t757 _ ?side1 ?side2 A14.out).mono ?_); (case side1 => repeat (first | exact (Kd.C_below HR0_0.out HB.out) | (with_reducible refine Kd.C_alloc ?_ _) | (with_reducible refine Kd.C_drewN ?_ _) | (with_reducible refine Kd.C_drew ?_))); (case side2 => exact HC0_0.out); rintro e w23 ⟨v758, rfl, ho0, hb⟩; refine ⟨_, rfl, ?_⟩; have HO759 := Aside0.mk (Kd.R_lower ho0 (below_size (zB HB))); replace BK753 := Aside0.mk (blk_below (g := gb753) (o := .cells #[.slice A0_0 l0_0.length c0_0] 25 (0, 0)) (zb BK753) hb); replace BK754 := Aside0.mk (blk_below (g := gb754) (o := .cells #[.slice none 0 0] 25 (0, 0)) (zb BK754) hb); replace HB := Aside0.mk (below_step (zB HB) hb); (try clear hb); (try clear hb2); (try clear hk); (try clear hi); (try clear ho0); obtain ⟨Ao24, co24, eo24⟩ := Kd.R_slice HO759.out; subst eo24; have hcz25_0 : w23.cell? ⟨gb754, 0, none⟩ = some (.slice none 0 0) := (blk_cell BK754.out 0).trans rfl; have hfz25_0 := blk_frozen BK754.out 0))
   refine bodyPost_ret (results_ct rfl _ _ gb754 25 #[.slice Ao24 t757.length co24] (0, 0) _ rfl (by (with_reducible repeat (first | refine blk_drewN ?_ _ | refine blk_drew ?_ | refine blk_alloc ?_ _)); refine blk_put (cs := #[.slice none 0 0]) ?_ 0 _ rfl; (with_reducible repeat (first | refine blk_drewN ?_ _ | refine blk_drew ?_ | refine blk_alloc ?_ _)); exact BK754.out) Try.underlying25 rfl (by kernel_rfl)) rfl ?_
   exact ⟨_, by first | rfl | (simp [errW_none, errW_some] <;> rfl) | (simp [*, errW_none, errW_some] <;> rfl), by (with_reducible repeat (first | apply Kd.R_alloc | apply Kd.R_drewN | apply Kd.R_drew)); exact Kd.R_mono (Kd.R_far (p := ⟨gb754, 0, none⟩) (Kd.R_types HO759.out BK754.out (by decide)) (fun _ hk => hk.2) (.slice Ao24 t757.length co24)) (fun _ hk => trivial), zB HB⟩
 ·replace c3 := Bool.eq_false_iff.mpr c3
  subst c3
  rw [if_neg (show ¬ (false = true) by decide)] at H
  simp only [Option.some.injEq, Prod.mk.injEq] at H
  obtain ⟨rfl, rfl⟩ := H
  go_enter Try.func46, Try.ntmps46
  go_wp2_with (first | ((with_reducible refine gate_dst (N := 1) rfl ?_); refine box_event ?hg (N := 1) ?hd (cs := #[.slice A0_0 l0_0.length c0_0]) (t := 25) ?hr ?_; (case hd => rfl); (case hg => rfl); (case hr => first | (go_simp; done) | (go_simp; rfl)); intro gb753 hg w26 hbox hb; have BK753 := Aside0.mk (hbox); have GW753 := Aside0.mk ((by rw [hg]; exact (below_size (zB HB)) : w.heap.size ≤ gb753)); have GE753 := Aside0.mk ((by rw [hg]; exact (below_size (zB HB)) : w.heap.size ≤ gb753)); replace HB := Aside0.mk (below_step (zB HB) hb); clear hb hbox hg) | ((with_reducible refine gate_dst (N := 2) rfl ?_); refine box_event ?hg (N := 2) ?hd (cs := #[.slice none 0 0]) (t := 25) ?hr ?_; (case hd => rfl); (case hg => rfl); (case hr => first | (go_simp; done) | (go_simp; rfl)); intro gb754 hg w27 hbox hb; have BK754 := Aside0.mk (hbox); have GW754 := Aside0.mk ((by rw [hg]; exact (below_size (zB HB)) : w.heap.size ≤ gb754)); have GE754 := Aside0.mk ((by rw [hg]; exact (below_size (zB HB)) : w.heap.size ≤ gb754)); replace HB := Aside0.mk (below_step (zB HB) hb); have NB753_754 := Aside0.mk ((by rw [hg]; exact Nat.ne_of_lt (blk_lt (g := gb753) (o := .cells #[.slice A0_0 l0_0.length c0_0] 25 (0, 0)) (zb BK753)) : gb753 ≠ gb754)); have NB754_753 := Aside0.mk ((by rw [hg]; exact Nat.ne_of_gt (blk_lt (g := gb753) (o := .cells #[.slice A0_0 l0_0.length c0_0] 25 (0, 0)) (zb BK753)) : gb754 ≠ gb753)); replace BK753 := Aside0.mk (blk_below (g := gb753) (o := .cells #[.slice A0_0 l0_0.length c0_0] 25 (0, 0)) (zb BK753) hb); clear hb hbox hg; have hnb28 := NB753_754.out; have hnc28 := NB754_753.out; have hcz29_0 : w27.cell? ⟨gb753, 0, none⟩ = some (.slice A0_0 l0_0.length c0_0) := (blk_cell BK753.out 0).trans rfl; have hfz29_0 := blk_frozen BK753.out 0) | ((with_reducible refine gate_callee (f := 16) rfl ?_); refine goesL_ (some 5) rfl rfl Try.func16 (by kernel_rfl) rfl #[.agg #[.slice A0_0 l0_0.length c0_0]] rfl zl ?_; (with_reducible refine (impl_ValidSignature.calls k _ _ l0_0 false _ ?side1 ?side2 A2.out).mono ?_); (case side1 => repeat (first | exact (Kd.C_below HR0_0.out HB.out) | (with_reducible refine Kd.C_alloc ?_ _) | (with_reducible refine Kd.C_drewN ?_ _) | (with_reducible refine Kd.C_drew ?_))); (case side2 => exact HC0_0.out); rintro e w30 ⟨rfl, hb⟩; refine ⟨_, rfl, ?_⟩; replace BK753 := Aside0.mk (blk_below (g := gb753) (o := .cells #[.slice A0_0 l0_0.length c0_0] 25 (0, 0)) (zb BK753) hb); replace BK754 := Aside0.mk (blk_below (g := gb754) (o := .cells #[.slice none 0 0] 25 (0, 0)) (zb BK754) hb); replace HB := Aside0.mk (below_step (zB HB) hb); (try clear hb); (try clear hb2); (try clear hk); (try clear hi); have hcz31_0 : w30.cell? ⟨gb754, 0, none⟩ = some (.slice none 0 0) := (blk_cell BK754.out 0).trans rfl; have hfz31_0 := blk_frozen BK754.out 0))
  refine bodyPost_ret (results_ct rfl _ _ gb754 25 #[.slice none 0 0] (0, 0) _ rfl (by (with_reducible repeat (first | refine blk_drewN ?_ _ | refine blk_drew ?_ | refine blk_alloc ?_ _)); refine blk_put (cs := #[.slice none 0 0]) ?_ 0 _ rfl; (with_reducible repeat (first | refine blk_drewN ?_ _ | refine blk_drew ?_ | refine blk_alloc ?_ _)); exact BK754.out) Try.underlying25 rfl (by kernel_rfl)) rfl ?_
  exact ⟨_, by first | rfl | (simp [errW_none, errW_some] <;> rfl) | (simp [*, errW_none, errW_some] <;> rfl), by first | exact Kd.R_nil _ _ _ _ _ | exact Kd.N_nil _ _ _ _ _ | exact Kd.V_nil _ _ _ _ _ | exact Kd.Q_nil _ _ _ _ _ | exact Kd.S_nil _ _ _ _ _, zB HB⟩

end Go.Proofs.Ytjnfofgonddflaa.Q
