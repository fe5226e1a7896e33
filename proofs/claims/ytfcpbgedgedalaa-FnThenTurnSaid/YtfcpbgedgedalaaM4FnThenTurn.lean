-- written by px.py and merge.py (programs of this claim's), over the kit's print. Not trusted: Lean checks it.
import Derived.Test.YtfcpbgedgedalaaQ0
import Derived.Test.YtfcpbgedgedalaaM3FnThenTurn
import Derived.Test.YtfcpbgedgedalaaM1FnThenTurn
import Derived.Test.YtfcpbgedgedalaaM0FnThenTurn
namespace Go.Proofs.Ytfcpbgedgedalaa.Q
open Go.RowKit Go.Proofs.YtfcpbgedgedalaaL.PrintWords Go.Proofs.YtfcpbgedgedalaaL.PrintLast Go.Proofs.YtfcpbgedgedalaaL.PrintMore
attribute [local go_sem] max2_int min2_int max_two min_two max_three min_three max_four min_four   -- for this text's walks alone
set_option linter.unusedVariables false
set_option linter.unusedSimpArgs false

/-! ### slices.Clone at int: function 115 -/
set_option maxHeartbeats 8000000 in
set_option maxRecDepth 100000 in
theorem cl115.calls (A0 : Option Addr) (c0 : Nat) (l0 : List (Int)) (w : World) (hr0 : Kd.C (Kd.int .i64) w A0 l0.length l0) (hl : l0.length * 8 ≤ 140737488355328) :
  Calls Try.prog 115 #[.slice A0 l0.length c0] w fun e w' => ∃ v0_ : Value, e = .returned v0_ ∧ Kd.R (Kd.int .i64) 3 w' w.heap.size (fun _ => True) v0_ l0 ∧ Below w.heap.size w w' := by
 cases A0 with
 | none =>
  have h0 : l0 = [] := by
   rcases Nat.eq_zero_or_pos l0.length with h | h
   ·exact List.eq_nil_of_length_eq_zero h
   ·obtain ⟨ad, e, _⟩ := hr0.2.2 h; cases e
  subst h0; clear hr0; have hE := fun (W : World) => Go.Lib.run_eql_slice_nil (P := Try.prog) W 23 3 none 0 c0 0 0 Try.underlying23
  go_enter Try.func115, Try.ntmps115; go_wp2; go_ret; exact ⟨_, rfl, Kd.R_nil _ _ _ _ _, px_refl _⟩
 | some ad =>
  have HR := Aside0.mk hr0; have HL := Aside0.mk hl; clear hr0 hl; have hE := fun (W : World) => Go.Lib.run_eql_slice_nil (P := Try.prog) W 23 3 (some ad) l0.length c0 0 0 Try.underlying23
  go_enter Try.func115, Try.ntmps115; go_wp2_with (first | ((with_reducible refine gate_dst (N := 5) rfl ?_); refine Kd.R_lit (Kd.int .i64) w.heap.size 3 ?hg (N := 5) ?hd (xs := ([] : List (Int))) (inner := []) (ok := fun _ => True) (okp := fun _ => True) ?hr ?hp (fun _ hk => hk) trivial (Below.refl _ _) (Nat.le_refl _) (by simp) ?_; (case hd => rfl); (case hg => rfl); (case hr => first | (go_simp; done) | (go_simp; rfl)); (case hp => exact (Reps.none _ _)); intro v5 w5 ho5 hb5 hg_ hnew_; clear hg_ hnew_; have HO := Aside0.mk ho5; have HB := Aside0.mk hb5; clear ho5 hb5) | ((with_reducible refine gate_dst (N := 7) rfl ?_); refine Kd.R_append_rows (Kd.int .i64) (Rr := (Kd.int .i64).K w) (w0 := w) w.heap.size (by rfl) (.tmp 5) (.tmp 6) 23 3 (.int .i64 0) 8 rfl Try.underlying23 info3 rfl (by decide) (by omega) v5 ([] : List (Int)) l0 _ _ _ (fun _ => True) (fun _ => False) rfl rfl HO.out ?aR (fun _ _ h => h) (fun _ h => h.elim) (fun _ _ => trivial) HB.out (below_size HB.out) ?aL ?_; (case aR => exact ReadsRow.imp_ HR.out HB.out (fun _ _ h => h)); (case aL => simpa using HL.out); intro v7 w7 ho7 hb7 hg_ hnew_; clear hg_ hnew_; have HO7 := Aside0.mk ho7; have HB7 := Aside0.mk hb7; clear ho7 hb7)); go_ret; exact ⟨_, rfl, HO7.out, HB7.out⟩
/-! ### impl_clone_int: function 62 (a contract of our own) -/
def impl_clone_int.f (l0 : List Int) : Option (List Int) := if l0.length * 8 ≤ 140737488355328 then some l0 else none
set_option maxHeartbeats 8000000 in
set_option maxRecDepth 100000 in
theorem impl_clone_int.calls (A0 : Option Addr) (c0 : Nat) (l0 : List Int) (r : List Int) (w : World) (hr0 : Kd.C (Kd.int .i64) w A0 l0.length l0) (hc0 : l0.length ≤ c0) (h : impl_clone_int.f l0 = some r) :
  Calls Try.prog 62 #[.slice A0 l0.length c0] w fun e w' => ∃ v0_ : Value, e = .returned (v0_) ∧ Kd.R (Kd.int .i64) 3 w' w.heap.size (fun _ => True) v0_ r ∧ Below w.heap.size w w' := by
 have hl : l0.length * 8 ≤ 140737488355328 := by unfold impl_clone_int.f at h; split at h; assumption; cases h
 have hr : r = l0 := by unfold impl_clone_int.f at h; rw [if_pos hl] at h; exact (Option.some.inj h).symm
 subst hr; clear h; have HR := Aside0.mk hr0; have HL := Aside0.mk hl; clear hr0 hl hc0; go_enter Try.func62, Try.ntmps62; go_wp2_with fail; refine (cl115.calls _ _ _ _ HR.out HL.out).mono ?_; rintro e w1 ⟨v1, rfl, hv1, hb1⟩; have HO1 := Aside0.mk hv1; have HB1 := Aside0.mk hb1; clear hv1 hb1; go_wp2_with fail; refine (slices_Clip_int_int.calls (fun _ => True) _ _ r w _ HB1.out HO1.out rfl).mono ?_; rintro e w2 ⟨v2, rfl, hv2, hb2, hk2⟩; have HO2 := Aside0.mk hv2; have HB2 := Aside0.mk hb2; clear hv2 hb2 hk2; go_wp2; go_ret; exact ⟨_, rfl, Kd.R_mono HO2.out (fun _ _ => trivial), HB2.out⟩

/-! ### impl_Pair_116: function 116 (a contract of our own) -/
def impl_Pair_116.f (l0 : List (S33)) : Option (List (S33)) := some l0
set_option maxHeartbeats 8000000 in
set_option maxRecDepth 100000 in
theorem impl_Pair_116.calls (P0_ : Nat → Prop) (u9000_ : Value) (l0 : List (S33)) (r : List (S33)) (w0 w : World) (hB : Below w0.heap.size w0 w) (ho0 : Kd.R k33 33 w w0.heap.size P0_ u9000_ l0) (h : impl_Pair_116.f l0 = some r) :
  Calls Try.prog 116 #[u9000_] w fun e w' => ∃ v0_ : Value, e = .returned (v0_) ∧ Kd.R k33 33 w' w0.heap.size (fun k_ => (P0_ k_ ∨ w.heap.size ≤ k_)) v0_ r ∧ Below w0.heap.size w0 w' ∧ Kept w w' (fun k_ => P0_ k_) := by
 obtain rfl := Option.some.inj h; clear h; obtain ⟨A0, c0, rfl⟩ := Kd.R_slice ho0; obtain ⟨_, hl, hC⟩ := Kd.R_reads' ho0; have hbig : l0.length ≤ 9223372036854775807 := hC.2.1; have HO := Aside0.mk ho0; have HB := Aside0.mk hB; clear ho0 hB hC; go_enter Try.func116, Try.ntmps116; go_wp2; go_ret; exact ⟨_, rfl, Kd.R_mono (Kd.R_clip HO.out (Nat.le_refl _) hl) (fun _ h => .inl h), HB.out, Kept.refl _ _⟩

end Go.Proofs.Ytfcpbgedgedalaa.Q

namespace Go.Proofs.Ytfcpbgedgedalaa.Q
open Go.RowKit Go.Proofs.YtfcpbgedgedalaaL.PrintWords Go.Proofs.YtfcpbgedgedalaaL.PrintLast Go.Proofs.YtfcpbgedgedalaaL.PrintMore
attribute [local go_sem] max2_int min2_int max_two min_two max_three min_three max_four min_four   -- for this text's walks alone
set_option linter.unusedVariables false
set_option linter.unusedSimpArgs false

/-! ### slices.Clone at impl.Pair: function 117 -/
set_option maxHeartbeats 8000000 in
set_option maxRecDepth 100000 in
theorem cl117.calls (A0 : Option Addr) (c0 : Nat) (l0 : List (S33)) (w : World) (hr0 : Kd.C k33 w A0 l0.length l0) (hl : l0.length * 24 ≤ 140737488355328) :
  Calls Try.prog 117 #[.slice A0 l0.length c0] w fun e w' => ∃ v0_ : Value, e = .returned v0_ ∧ Kd.R k33 33 w' w.heap.size (fun _ => True) v0_ l0 ∧ Below w.heap.size w w' := by
 cases A0 with
 | none =>
  have h0 : l0 = [] := by
   rcases Nat.eq_zero_or_pos l0.length with h | h
   ·exact List.eq_nil_of_length_eq_zero h
   ·obtain ⟨ad, e, _⟩ := hr0.2.2 h; cases e
  subst h0; clear hr0; have hE := fun (W : World) => Go.Lib.run_eql_slice_nil (P := Try.prog) W 24 33 none 0 c0 0 0 Try.underlying24
  go_enter Try.func117, Try.ntmps117; go_wp2; go_ret; exact ⟨_, rfl, Kd.R_nil _ _ _ _ _, px_refl _⟩
 | some ad =>
  have HR := Aside0.mk hr0; have HL := Aside0.mk hl; clear hr0 hl; have hE := fun (W : World) => Go.Lib.run_eql_slice_nil (P := Try.prog) W 24 33 (some ad) l0.length c0 0 0 Try.underlying24
  go_enter Try.func117, Try.ntmps117; go_wp2_with (first | ((with_reducible refine gate_dst (N := 5) rfl ?_); refine Kd.R_lit k33 w.heap.size 33 ?hg (N := 5) ?hd (xs := ([] : List (S33))) (inner := []) (ok := fun _ => True) (okp := fun _ => True) ?hr ?hp (fun _ hk => hk) trivial (Below.refl _ _) (Nat.le_refl _) (by simp) ?_; (case hd => rfl); (case hg => rfl); (case hr => first | (go_simp; done) | (go_simp; rfl)); (case hp => exact (Reps.none _ _)); intro v5 w5 ho5 hb5 hg_ hnew_; clear hg_ hnew_; have HO := Aside0.mk ho5; have HB := Aside0.mk hb5; clear ho5 hb5) | ((with_reducible refine gate_dst (N := 7) rfl ?_); refine Kd.R_append_rows k33 (Rr := k33.K w) (w0 := w) w.heap.size (by rfl) (.tmp 5) (.tmp 6) 24 33 (.agg #[(.string ⟨#[]⟩), (.int .i64 0)]) 24 rfl Try.underlying24 info33 rfl (by decide) (by omega) v5 ([] : List (S33)) l0 _ _ _ (fun _ => True) (fun _ => False) rfl rfl HO.out ?aR (fun x cs h => by rw [k33_open h]; exact k33_mkM _ _ _ _) (fun _ h => h.elim) (fun _ _ => trivial) HB.out (below_size HB.out) ?aL ?_; (case aR => exact ReadsRow.imp_ HR.out HB.out (fun _ _ h => h)); (case aL => simpa using HL.out); intro v7 w7 ho7 hb7 hg_ hnew_; clear hg_ hnew_; have HO7 := Aside0.mk ho7; have HB7 := Aside0.mk hb7; clear ho7 hb7)); go_ret; exact ⟨_, rfl, HO7.out, HB7.out⟩
/-! ### impl_Pair_63: function 63 (a contract of our own) -/
def impl_Pair_63.f (l0 : List (S33)) : Option ((List (S33))) := if l0.length * 24 ≤ 140737488355328 then some l0 else none
set_option maxHeartbeats 8000000 in
set_option maxRecDepth 100000 in
theorem impl_Pair_63.calls (A0 : Option Addr) (c0 : Nat) (l0 : List (S33)) (r : List (S33)) (w : World) (hr0 : Kd.C k33 w A0 l0.length l0) (hc0 : l0.length ≤ c0) (h : impl_Pair_63.f l0 = some r) :
  Calls Try.prog 63 #[.slice A0 l0.length c0] w fun e w' => ∃ v0_ : Value, e = .returned (v0_) ∧ Kd.R k33 33 w' w.heap.size (fun _ => True) v0_ r ∧ Below w.heap.size w w' := by
 have hl : l0.length * 24 ≤ 140737488355328 := by unfold impl_Pair_63.f at h; split at h; assumption; cases h
 have hr : r = l0 := by unfold impl_Pair_63.f at h; rw [if_pos hl] at h; exact (Option.some.inj h).symm
 subst hr; clear h; have HR := Aside0.mk hr0; have HL := Aside0.mk hl; clear hr0 hl hc0; go_enter Try.func63, Try.ntmps63; go_wp2_with fail; refine (cl117.calls _ _ _ _ HR.out HL.out).mono ?_; rintro e w1 ⟨v1, rfl, hv1, hb1⟩; have HO1 := Aside0.mk hv1; have HB1 := Aside0.mk hb1; clear hv1 hb1; go_wp2_with fail; refine (impl_Pair_116.calls (fun _ => True) _ _ r w _ HB1.out HO1.out rfl).mono ?_; rintro e w2 ⟨v2, rfl, hv2, hb2, hk2⟩; have HO2 := Aside0.mk hv2; have HB2 := Aside0.mk hb2; clear hv2 hb2 hk2; go_wp2; go_ret; exact ⟨_, rfl, Kd.R_mono HO2.out (fun _ _ => trivial), HB2.out⟩

/-! ### impl_Flat_copyOf: function 68 -/
def impl_Flat_copyOf.f (l0_0 : List Int) (l0_1 : List (S33)) : Option (List Int × (List (S33))) := (impl_clone_int.f l0_0).bind fun t292 => ((impl_Pair_63.f l0_1).bind fun t295 => (some (t292, t295)))
def impl_Flat_copyOf.T1 : Bool × List (List Nat × List Nat) := (true, [([], []), ([0], [0]), ([1], [1]), ([], []), ([3], [3]), ([4, 2], [4]), ([2, 5], [2, 5]), ([6, 5, 0, 1, 2, 3, 4, 5, 6], [6])])
def impl_Flat_copyOf.B1 : List Nat := [0, 1, 3, 0, 8, 31, 63, 127]
theorem impl_Flat_copyOf.tab1 : rtab .any (opsOf Try.f68 1) = impl_Flat_copyOf.T1 := by kernel_rfl
theorem impl_Flat_copyOf.bits1 : waitsOk impl_Flat_copyOf.T1.2 impl_Flat_copyOf.B1 = true := by kernel_rfl
set_option maxHeartbeats 8000000 in
set_option maxRecDepth 100000 in
theorem impl_Flat_copyOf.calls (A0_0 : Option Addr) (c0_0 : Nat) (l0_0 : List Int) (A0_1 : Option Addr) (c0_1 : Nat) (l0_1 : List (S33)) (r1 : List Int) (r2 : List (S33)) (w : World) (hr0_0 : Kd.C (Kd.int .i64) w A0_0 l0_0.length l0_0) (hc0_0 : l0_0.length ≤ c0_0) (hr0_1 : Kd.C k33 w A0_1 l0_1.length l0_1) (hc0_1 : l0_1.length ≤ c0_1) (h : impl_Flat_copyOf.f l0_0 l0_1 = some (r1, r2)) :
  Calls Try.prog 68 #[.agg #[.slice A0_0 l0_0.length c0_0, .slice A0_1 l0_1.length c0_1]] w fun e w' => ∃ v0_ v1_ : Value, e = .returned (.agg #[v0_, v1_]) ∧ Kd.R (Kd.int .i64) 3 w' w.heap.size (fun _ => True) v0_ r1 ∧ Kd.R k33 33 w' w.heap.size (fun _ => True) v1_ r2 ∧ Below w.heap.size w w' := by
 have hu26 := Try.underlying26; have HR0_0 := Aside0.mk hr0_0; have HC0_0 := Aside0.mk hc0_0; clear hr0_0 hc0_0; have HR0_1 := Aside0.mk hr0_1; have HC0_1 := Aside0.mk hc0_1; clear hr0_1 hc0_1; have HB := Aside0.mk (Below.refl w.heap.size w); have H : ((impl_clone_int.f l0_0).bind fun t292 => ((impl_Pair_63.f l0_1).bind fun t295 => (some (t292, t295)))) = some (r1, r2) := h; clear h; replace H := Option.bind_eq_some_iff.mp H; obtain ⟨t292, A20, H⟩ := H
 (try dsimp only at H)
 have A2 := Aside0.mk A20; clear A20; replace H := Option.bind_eq_some_iff.mp H; obtain ⟨t295, A30, H⟩ := H
 (try dsimp only at H)
 have A3 := Aside0.mk A30; clear A30; simp only [Option.some.injEq, Prod.mk.injEq] at H; obtain ⟨rfl, rfl⟩ := H; go_enter Try.func68, Try.ntmps68
 try go_wp2_with (first | ((with_reducible refine gate_dst (N := 1) rfl ?_); refine zx (N := 1) (cs := #[.slice A0_0 l0_0.length c0_0, .slice A0_1 l0_1.length c0_1]) (t := 26) ?_; intro gb290 hg w4 hbox hb; have BK290 := Aside0.mk (hbox); have GW290 := Aside0.mk ((by rw [hg]; exact (below_size (zB HB)) : w.heap.size ≤ gb290)); have GE290 := GW290; replace HB := Aside0.mk (below_step (zB HB) hb); clear hb hbox hg) | ((with_reducible refine gate_dst (N := 2) rfl ?_); refine zx (N := 2) (cs := #[.slice none 0 0, .slice none 0 0]) (t := 26) ?_; intro gb291 hg w5 hbox hb; have BK291 := Aside0.mk (hbox); have GW291 := Aside0.mk ((by rw [hg]; exact (below_size (zB HB)) : w.heap.size ≤ gb291)); have GE291 := GW291; replace HB := Aside0.mk (below_step (zB HB) hb); have NB290_291 := Aside0.mk ((by rw [hg]; exact Nat.ne_of_lt (blk_lt (g := gb290) (o := .cells #[.slice A0_0 l0_0.length c0_0, .slice A0_1 l0_1.length c0_1] 26 (0, 0)) (zb BK290)) : gb290 ≠ gb291)); have NB291_290 := Aside0.mk NB290_291.out.symm; replace BK290 := Aside0.mk (blk_below (g := gb290) (o := .cells #[.slice A0_0 l0_0.length c0_0, .slice A0_1 l0_1.length c0_1] 26 (0, 0)) (zb BK290) hb); clear hb hbox hg))
 replace BK290 := Aside0.mk (blk_drew BK290.out); replace BK291 := Aside0.mk (blk_drew BK291.out); replace HB := Aside0.mk (below_drew1 HB.out); refine start_ (n := 8) (S := fun w' => w'.cell? ⟨gb290, 0, none⟩ = some (.slice A0_0 l0_0.length c0_0) ∧ w'.cell? ⟨gb290, 1, none⟩ = some (.slice A0_1 l0_1.length c0_1)) (ds := []) #[false, false, false, false, false, false, false, false] (by kernel_rfl) rfl rfl ⟨(blk_cell BK290.out 0).trans rfl, (blk_cell BK290.out 1).trans rfl⟩ (fun hHeld => ?_); refine with_tabW impl_Flat_copyOf.tab1 impl_Flat_copyOf.bits1 (fun HT_ HW_ => ?_); generalize w5.drew = w6 at BK290 BK291 HB hHeld ⊢; refine pure_ (i := 0) (N := some 3) (v := ?_) (a' := ?_) #[true, false, false, false, false, false, false, false] rfl rfl (any_of HT_.out (by kernel_rfl)) (fun _ _ _ h => h) (Or.inl ⟨by rfl, ?_⟩) ?_ ?_; rotate_left
 ·intro w'; go_simp; with_reducible rfl
 rotate_left
 ·simp only [Act.put, List.setIfInBounds_toArray, List.set_cons_zero, List.set_cons_succ, i64_w, i32_w]; rfl
 refine pure_ (i := 3) (N := some 6) (v := ?_) (a' := ?_) #[true, false, false, true, false, false, false, false] rfl rfl (any_of HT_.out (by kernel_rfl)) (fun _ _ _ h => h) (Or.inl ⟨by rfl, ?_⟩) ?_ ?_; rotate_left
 ·intro w'; go_simp; with_reducible rfl
 rotate_left
 ·simp only [Act.put, List.setIfInBounds_toArray, List.set_cons_zero, List.set_cons_succ, i64_w, i32_w]; rfl
 refine take_ (i := 1) (N := some 4) (v := ?_) (a' := ?_) #[true, true, false, true, false, false, false, false] rfl rfl (take_ofW HT_.out HW_.out (by kernel_rfl)) (fun _ _ _ h => h) (Or.inl ⟨by rfl, ?_⟩) hHeld ?_ ?_; rotate_left
 ·rintro w' ⟨s0, s1⟩; go_simp; with_reducible rfl
 rotate_left
 ·simp only [Act.put, List.setIfInBounds_toArray, List.set_cons_zero, List.set_cons_succ, i64_w, i32_w]; rfl
 refine take_ (i := 4) (N := some 7) (v := ?_) (a' := ?_) #[true, true, false, true, true, false, false, false] rfl rfl (take_ofW HT_.out HW_.out (by kernel_rfl)) (fun _ _ _ h => h) (Or.inl ⟨by rfl, ?_⟩) hHeld ?_ ?_; rotate_left
 ·rintro w' ⟨s0, s1⟩; go_simp; with_reducible rfl
 rotate_left
 ·simp only [Act.put, List.setIfInBounds_toArray, List.set_cons_zero, List.set_cons_succ, i64_w, i32_w]; rfl
 refine one_ (i := 2) (N := some 5) #[true, true, true, true, true, false, false, false] rfl rfl (one_of HT_.out (by kernel_rfl)) (by decide) (fun K hK => ?_); refine goes_ Try.func62 (by kernel_rfl) rfl #[.slice A0_0 l0_0.length c0_0] (by rfl) rfl rfl zl ?_; with_reducible refine (impl_clone_int.calls _ _ l0_0 t292 _ ?side1 ?side2 A2.out).mono ?_
 (case side1 => repeat (first | exact (Kd.C_below HR0_0.out HB.out) | (with_reducible refine Kd.C_alloc ?_ _) | (with_reducible refine Kd.C_drewN ?_ _) | (with_reducible refine Kd.C_drew ?_)))
 (case side2 => exact HC0_0.out)
 rintro e w7 ⟨v293, rfl, ho0, hb⟩; refine ⟨_, rfl, ?_⟩; have HO294 := Aside0.mk (Kd.R_lower ho0 (below_size (zB HB))); replace BK290 := Aside0.mk (blk_below (g := gb290) (o := .cells #[.slice A0_0 l0_0.length c0_0, .slice A0_1 l0_1.length c0_1] 26 (0, 0)) (zb BK290) hb); replace BK291 := Aside0.mk (blk_below (g := gb291) (o := .cells #[.slice none 0 0, .slice none 0 0] 26 (0, 0)) (zb BK291) hb); replace HB := Aside0.mk (below_step (zB HB) hb); (try clear hb); (try clear hb2); (try clear hk); (try clear hi); (try clear ho0); refine hK.out _ _ ⟨(blk_cell BK290.out 0).trans rfl, (blk_cell BK290.out 1).trans rfl⟩ (fun hHeld => ?_); clear hK K; refine norm_ (a' := ?_) ?_ ?_; rotate_left
 ·show Act.put _ (some 5) _ = _
  simp only [Act.put, List.setIfInBounds_toArray, List.set_cons_zero, List.set_cons_succ, i64_w, i32_w]; rfl
 refine one_ (i := 5) (N := some 8) #[true, true, true, true, true, true, false, false] rfl rfl (one_of HT_.out (by kernel_rfl)) (by decide) (fun K hK => ?_); refine goes_ Try.func63 (by kernel_rfl) rfl #[.slice A0_1 l0_1.length c0_1] (by rfl) rfl rfl zl ?_; with_reducible refine (impl_Pair_63.calls _ _ l0_1 t295 _ ?side1 ?side2 A3.out).mono ?_
 (case side1 => repeat (first | exact (Kd.C_below HR0_1.out HB.out) | (with_reducible refine Kd.C_alloc ?_ _) | (with_reducible refine Kd.C_drewN ?_ _) | (with_reducible refine Kd.C_drew ?_)))
 (case side2 => exact HC0_1.out)
 rintro e w8 ⟨v296, rfl, ho0, hb⟩; refine ⟨_, rfl, ?_⟩; replace HO294 := Aside0.mk (Kd.R_below (zo HO294) hb); have HO297 := Aside0.mk (Kd.R_lower ho0 (below_size (zB HB))); replace BK290 := Aside0.mk (blk_below (g := gb290) (o := .cells #[.slice A0_0 l0_0.length c0_0, .slice A0_1 l0_1.length c0_1] 26 (0, 0)) (zb BK290) hb); replace BK291 := Aside0.mk (blk_below (g := gb291) (o := .cells #[.slice none 0 0, .slice none 0 0] 26 (0, 0)) (zb BK291) hb); replace HB := Aside0.mk (below_step (zB HB) hb); (try clear hb); (try clear hb2); (try clear hk); (try clear hi); (try clear ho0); obtain ⟨Ao9, co9, eo9⟩ := Kd.R_slice HO297.out
 (first | subst eo9 | (injection eo9 with f1_ f2_ f3_; have f4_ := f1_.symm; have f5_ := f3_.symm; clear f1_ f2_ f3_; subst f4_; subst f5_))
 obtain ⟨Ao10, co10, eo10⟩ := Kd.R_slice HO294.out
 (first | subst eo10 | (injection eo10 with f1_ f2_ f3_; have f4_ := f1_.symm; have f5_ := f3_.symm; clear f1_ f2_ f3_; subst f4_; subst f5_))
 refine hK.out _ _ ⟨(blk_cell BK290.out 0).trans rfl, (blk_cell BK290.out 1).trans rfl⟩ (fun hHeld => ?_); clear hK K; refine norm_ (a' := ?_) ?_ ?_; rotate_left
 ·show Act.put _ (some 8) _ = _
  simp only [Act.put, List.setIfInBounds_toArray, List.set_cons_zero, List.set_cons_succ, i64_w, i32_w]; rfl
 refine pure_ (i := 6) (N := some 9) (v := ?_) (a' := ?_) #[true, true, true, true, true, true, true, false] rfl rfl (any_of HT_.out (by kernel_rfl)) (fun _ _ _ h => h) (Or.inl ⟨by rfl, ?_⟩) ?_ ?_; rotate_left
 ·intro w'; go_simp; with_reducible rfl
 rotate_left
 ·simp only [Act.put, List.setIfInBounds_toArray, List.set_cons_zero, List.set_cons_succ, i64_w, i32_w]; rfl
 refine one_ (i := 7) (N := none) #[true, true, true, true, true, true, true, true] rfl rfl (one_of HT_.out (by kernel_rfl)) (by decide) (fun K hK => ?_); have hs11 : w8.cell? ⟨gb291, 0, none⟩ = some (.slice none 0 0) := (blk_cell BK291.out 0).trans rfl; have hfs11 := blk_frozen BK291.out 0; have hns11_0 := NB290_291.out; have hms11_0 := NB291_290.out; have hs12 : w8.cell? ⟨gb291, 1, none⟩ = some (.slice none 0 0) := (blk_cell BK291.out 1).trans rfl; have hfs12 := blk_frozen BK291.out 1; have hns12_0 := NB290_291.out; have hms12_0 := NB291_290.out; refine skip_ (w1 := ?_) (by rfl) rfl ?_ ?_; rotate_left
 ·go_simp; rfl
 refine hK.out _ _ ⟨((cell_far (p := ⟨gb291, _, none⟩) NB290_291.out _).trans (((cell_far (p := ⟨gb291, _, none⟩) NB290_291.out _).trans (hHeld.1)))), ((cell_far (p := ⟨gb291, _, none⟩) NB290_291.out _).trans (((cell_far (p := ⟨gb291, _, none⟩) NB290_291.out _).trans (hHeld.2))))⟩ (fun hHeld => ?_); clear hK K; refine done_ (done_of HT_.out (by kernel_rfl)) ?_
 try go_wp2
 refine bodyPost_ret (results_cell_row rfl _ _ gb291 26 #[.slice Ao10 t292.length co10, .slice Ao9 t295.length co9] (0, 0) _ rfl (by (with_reducible repeat (first | refine blk_drewN ?_ _ | refine blk_drew ?_ | refine blk_alloc ?_ _)); refine blk_put (cs := #[.slice Ao10 t292.length co10, .slice none 0 0]) ?_ 1 _ rfl; (with_reducible repeat (first | refine blk_drewN ?_ _ | refine blk_drew ?_ | refine blk_alloc ?_ _)); refine blk_put (cs := #[.slice none 0 0, .slice none 0 0]) ?_ 0 _ rfl; (with_reducible repeat (first | refine blk_drewN ?_ _ | refine blk_drew ?_ | refine blk_alloc ?_ _)); exact BK291.out) Try.underlying26 rfl (by kernel_rfl)) rfl ?_; exact ⟨_, _, by first | rfl | (simp [errW_none, errW_some] <;> rfl) | (simp [*, errW_none, errW_some] <;> rfl), by (with_reducible repeat (first | apply Kd.R_alloc | apply Kd.R_drewN | apply Kd.R_drew)); exact Kd.R_mono (Kd.R_far (p := ⟨gb291, 1, none⟩) (Kd.R_far (p := ⟨gb291, 0, none⟩) (Kd.R_types HO294.out BK291.out (by decide)) (fun _ hk => hk.2) (.slice Ao10 t292.length co10)) (fun _ hk => hk.2) (.slice Ao9 t295.length co9)) (fun _ hk => trivial), by (with_reducible repeat (first | apply Kd.R_alloc | apply Kd.R_drewN | apply Kd.R_drew)); exact Kd.R_mono (Kd.R_far (p := ⟨gb291, 1, none⟩) (Kd.R_far (p := ⟨gb291, 0, none⟩) (Kd.R_types HO297.out BK291.out (by decide)) (fun _ hk => hk.2) (.slice Ao10 t292.length co10)) (fun _ hk => hk.2) (.slice Ao9 t295.length co9)) (fun _ hk => trivial), zB HB⟩

end Go.Proofs.Ytfcpbgedgedalaa.Q

namespace Go.Proofs.Ytfcpbgedgedalaa.Q
open Go.RowKit Go.Proofs.YtfcpbgedgedalaaL.PrintWords Go.Proofs.YtfcpbgedgedalaaL.PrintLast Go.Proofs.YtfcpbgedgedalaaL.PrintMore
attribute [local go_sem] max2_int min2_int max_two min_two max_three min_three max_four min_four   -- for this text's walks alone
set_option linter.unusedVariables false
set_option linter.unusedSimpArgs false

/-! ### impl_TurnFlat: function 43 -/
mutual
def impl_TurnFlat.j0 : Nat → List (S107) → Bool → List Int → List (S33) → Option (List Int × (List (S33)))
 | 0, _, _, _, _ => none
 | k + 1, x0, x14, x909000, x909001 => if x14 = true then (some (([] : List Int), ([] : List (S33)))) else ((impl_Flat_copyOf.f x909000 x909001).bind fun bt912 => (impl_TurnFlat.l0 k x0 (bt912.2.length : Int) 0 bt912.1 bt912.2))
def impl_TurnFlat.l0 : Nat → List (S107) → Int → Int → List Int → List (S33) → Option (List Int × (List (S33)))
 | 0, _, _, _, _, _ => none
 | k + 1, x0, x20, x21, x919000, x919001 => if x21 < x20 then (if 0 ≤ x21 then (if x21 < (x919001.length : Int) then ((impl_turn.f k x0 ((rd_T33 x919001 x21).f0)).bind fun t920 => (impl_TurnFlat.l0 k x0 x20 (wrap64 (x21 + 1)) x919000 (x919001.set (x21 : Int).toNat (⟨t920, (rd_T33 x919001 x21).f1⟩ : S33)))) else (none)) else (none)) else (some (x919000, x919001))
end
def impl_TurnFlat.f (k : Nat) (l0 : List (S107)) (l1_0 : List Int) (l1_1 : List (S33)) : Option (List Int × (List (S33))) := (impl_ValidTurns.f l0).bind fun t910 => (if t910 = true then ((impl_ValidFlat.f k l1_0 l1_1).bind fun t911 => (impl_TurnFlat.j0 k l0 (!t911) l1_0 l1_1)) else (impl_TurnFlat.j0 k l0 true l1_0 l1_1))
theorem impl_TurnFlat.mono_l : ∀ k, (∀ y0 y1 y2 y3, LeO (impl_TurnFlat.j0 k y0 y1 y2 y3) (impl_TurnFlat.j0 (k + 1) y0 y1 y2 y3)) ∧ (∀ y0 y1 y2 y3 y4, LeO (impl_TurnFlat.l0 k y0 y1 y2 y3 y4) (impl_TurnFlat.l0 (k + 1) y0 y1 y2 y3 y4))
 | 0 => ⟨fun _ _ _ _ r h => by simp [impl_TurnFlat.j0] at h, fun _ _ _ _ _ r h => by simp [impl_TurnFlat.l0] at h⟩
 | k + 1 => by
  obtain ⟨ih0, ih1⟩ := impl_TurnFlat.mono_l k; refine ⟨?_, ?_⟩
  all_goals intros
  all_goals (first | unfold impl_TurnFlat.j0 | unfold impl_TurnFlat.l0)
  all_goals repeat' first
   | (with_reducible exact ih0 _ _ _ _)
   | (with_reducible exact ih1 _ _ _ _ _)
   | (with_reducible exact impl_ValidFlat.mono _ _ _)
   | (with_reducible exact impl_turn.mono _ _ _)
   | (with_reducible exact LeO.refl _)
   | (with_reducible exact LeO.none _)
   | (with_reducible refine LeO.ite ?_ ?_)
   | (with_reducible refine LeO.bind ?_ (fun _ => ?_))
   | exact ih0 _ _ _ _
   | exact ih1 _ _ _ _ _
   | exact impl_ValidFlat.mono _ _ _
   | exact impl_turn.mono _ _ _
   | exact LeO.none _
   | refine LeO.ite ?_ ?_
   | refine LeO.bind ?_ (fun _ => ?_)
theorem impl_TurnFlat.mono : ∀ a0 a1 a2 k, LeO (impl_TurnFlat.f k a0 a1 a2) (impl_TurnFlat.f (k + 1) a0 a1 a2) := by
 intro a0 a1 a2 k; obtain ⟨ih0, ih1⟩ := impl_TurnFlat.mono_l k; unfold impl_TurnFlat.f
 repeat' first
   | (with_reducible exact ih0 _ _ _ _)
   | (with_reducible exact ih1 _ _ _ _ _)
   | (with_reducible exact impl_ValidFlat.mono _ _ _)
   | (with_reducible exact impl_turn.mono _ _ _)
   | (with_reducible exact LeO.refl _)
   | (with_reducible exact LeO.none _)
   | (with_reducible refine LeO.ite ?_ ?_)
   | (with_reducible refine LeO.bind ?_ (fun _ => ?_))
   | exact ih0 _ _ _ _
   | exact ih1 _ _ _ _ _
   | exact impl_ValidFlat.mono _ _ _
   | exact impl_turn.mono _ _ _
   | exact LeO.none _
   | refine LeO.ite ?_ ?_
   | refine LeO.bind ?_ (fun _ => ?_)
def impl_TurnFlat.T7 : Bool × List (List Nat × List Nat) := (true, [([], []), ([0], [0]), ([], []), ([], []), ([], []), ([4], [4]), ([], []), ([5, 6], [5, 6]), ([7], [7]), ([8], [8]), ([3, 9], [3, 9]), ([1, 2, 0, 1, 2, 3, 4, 5, 6, 7, 8, 9, 10], [1, 2]), ([11, 0, 1, 2, 3, 4, 5, 6, 7, 8, 9, 10], [11]), ([12, 10, 10, 0, 1, 2, 3, 4, 5, 6, 7, 8, 9, 10], [10, 12])])
def impl_TurnFlat.B7 : List Nat := [0, 1, 0, 0, 0, 16, 0, 112, 240, 496, 1016, 2047, 4095, 8191]
theorem impl_TurnFlat.tab7 : rtab .any (opsOf Try.f43 7) = impl_TurnFlat.T7 := by kernel_rfl
theorem impl_TurnFlat.bits7 : waitsOk impl_TurnFlat.T7.2 impl_TurnFlat.B7 = true := by kernel_rfl
set_option maxHeartbeats 8000000 in
set_option maxRecDepth 100000 in
theorem impl_TurnFlat.calls (k : Nat) (A0 : Option Addr) (c0 : Nat) (l0 : List (S107)) (A1_0 : Option Addr) (c1_0 : Nat) (l1_0 : List Int) (A1_1 : Option Addr) (c1_1 : Nat) (l1_1 : List (S33)) (r1 : List Int) (r2 : List (S33)) (w : World) (hr0 : Kd.C k107 w A0 l0.length l0) (hc0 : l0.length ≤ c0) (hr1_0 : Kd.C (Kd.int .i64) w A1_0 l1_0.length l1_0) (hc1_0 : l1_0.length ≤ c1_0) (hr1_1 : Kd.C k33 w A1_1 l1_1.length l1_1) (hc1_1 : l1_1.length ≤ c1_1) (h : impl_TurnFlat.f k l0 l1_0 l1_1 = some (r1, r2)) :
  Calls Try.prog 43 #[.slice A0 l0.length c0, .agg #[.slice A1_0 l1_0.length c1_0, .slice A1_1 l1_1.length c1_1]] w fun e w' => ∃ v0_ v1_ : Value, e = .returned (.agg #[v0_, v1_]) ∧ Kd.R (Kd.int .i64) 3 w' w.heap.size (fun _ => True) v0_ r1 ∧ Kd.R k33 33 w' w.heap.size (fun _ => True) v1_ r2 ∧ Below w.heap.size w w' := by
 have hu26 := Try.underlying26; have HR0 := Aside0.mk hr0; have HC0 := Aside0.mk hc0; clear hr0 hc0; have HR1_0 := Aside0.mk hr1_0; have HC1_0 := Aside0.mk hc1_0; clear hr1_0 hc1_0; have HR1_1 := Aside0.mk hr1_1; have HC1_1 := Aside0.mk hc1_1; clear hr1_1 hc1_1; have HB := Aside0.mk (Below.refl w.heap.size w); have H : ((impl_ValidTurns.f l0).bind fun t910 => (if t910 = true then ((impl_ValidFlat.f k l1_0 l1_1).bind fun t911 => (impl_TurnFlat.j0 k l0 (!t911) l1_0 l1_1)) else (impl_TurnFlat.j0 k l0 true l1_0 l1_1))) = some (r1, r2) := h; clear h; have HC3 := Aside0.mk H; clear H; go_enter Try.func43, Try.ntmps43; go_upto_region 1 with (first | ((with_reducible refine gate_dst (N := 3) rfl ?_); refine zx (N := 3) (cs := #[.slice A1_0 l1_0.length c1_0, .slice A1_1 l1_1.length c1_1]) (t := 26) ?_; intro gb908 hg w4 hbox hb; have BK908 := Aside0.mk (hbox); have GW908 := Aside0.mk ((by rw [hg]; exact (below_size (zB HB)) : w.heap.size ≤ gb908)); have GE908 := GW908; replace HB := Aside0.mk (below_step (zB HB) hb); clear hb hbox hg) | ((with_reducible refine gate_dst (N := 4) rfl ?_); refine zx (N := 4) (cs := #[.slice none 0 0, .slice none 0 0]) (t := 26) ?_; intro gb909 hg w5 hbox hb; have BK909 := Aside0.mk (hbox); have GW909 := Aside0.mk ((by rw [hg]; exact (below_size (zB HB)) : w.heap.size ≤ gb909)); have GE909 := GW909; replace HB := Aside0.mk (below_step (zB HB) hb); have NB908_909 := Aside0.mk ((by rw [hg]; exact Nat.ne_of_lt (blk_lt (g := gb908) (o := .cells #[.slice A1_0 l1_0.length c1_0, .slice A1_1 l1_1.length c1_1] 26 (0, 0)) (zb BK908)) : gb908 ≠ gb909)); have NB909_908 := Aside0.mk NB908_909.out.symm; replace BK908 := Aside0.mk (blk_below (g := gb908) (o := .cells #[.slice A1_0 l1_0.length c1_0, .slice A1_1 l1_1.length c1_1] 26 (0, 0)) (zb BK908) hb); clear hb hbox hg))
 (try simp only [Act.put, List.setIfInBounds_toArray, List.set_cons_zero, List.set_cons_succ])
 go_cut [14] (fun v14 wc => ∃ (kq : Nat) (x14_2 : Bool), v14 = .bool x14_2 ∧ Aside0 (impl_TurnFlat.j0 kq l0 x14_2 l1_0 l1_1 = some (r1, r2)) ∧ Aside0 (kq ≤ k) ∧ Aside0 (wc.heap[gb908]? = some (.cells #[(.slice A1_0 l1_0.length c1_0), (.slice A1_1 l1_1.length c1_1)] 26 (0, 0))) ∧ Aside0 (wc.heap[gb909]? = some (.cells #[(.slice none 0 0), (.slice none 0 0)] 26 (0, 0))) ∧ Aside0 (Below w.heap.size w wc))
 case first =>
  have H := HC3.out; clear HC3; replace H := Option.bind_eq_some_iff.mp H; obtain ⟨t910, A60, H⟩ := H
  (try dsimp only at H)
  have A6 := Aside0.mk A60; clear A60
  by_cases c7 : t910 = true
  ·subst c7; rw [if_pos rfl] at H; replace H := Option.bind_eq_some_iff.mp H; obtain ⟨t911, A80, H⟩ := H
   (try dsimp only at H)
   have A8 := Aside0.mk A80; clear A80; have H' := Aside0.mk H; clear H; go_wp2_with (first | ((with_reducible refine gate_callee (f := 46) rfl ?_); refine goesL_ (some 8) rfl rfl Try.func46 (by kernel_rfl) rfl #[.slice A0 l0.length c0] rfl zl ?_; (with_reducible refine (impl_ValidTurns.calls _ _ l0 true _ ?side1 ?side2 A6.out).mono ?_); (case side1 => repeat (first | exact (Kd.C_below HR0.out HB.out) | (with_reducible refine Kd.C_alloc ?_ _) | (with_reducible refine Kd.C_drewN ?_ _) | (with_reducible refine Kd.C_drew ?_))); (case side2 => exact HC0.out); rintro e w9 ⟨rfl, hb⟩; refine ⟨_, rfl, ?_⟩; replace BK908 := Aside0.mk (blk_below (g := gb908) (o := .cells #[.slice A1_0 l1_0.length c1_0, .slice A1_1 l1_1.length c1_1] 26 (0, 0)) (zb BK908) hb); replace BK909 := Aside0.mk (blk_below (g := gb909) (o := .cells #[.slice none 0 0, .slice none 0 0] 26 (0, 0)) (zb BK909) hb); replace HB := Aside0.mk (below_step (zB HB) hb); (try clear hb); (try clear hb2); (try clear hk); (try clear hi); have hnb10 := NB908_909.out; have hnc10 := NB909_908.out; have hcz11_0 : w9.cell? ⟨gb908, 0, none⟩ = some (.slice A1_0 l1_0.length c1_0) := (blk_cell BK908.out 0).trans rfl; have hcz11_1 : w9.cell? ⟨gb908, 1, none⟩ = some (.slice A1_1 l1_1.length c1_1) := (blk_cell BK908.out 1).trans rfl; have hfz11_0 := blk_frozen BK908.out 0; have hfz11_1 := blk_frozen BK908.out 1) | (go_at_call 22; (with_reducible refine (impl_ValidFlat.calls k _ _ l1_0 _ _ l1_1 t911 _ ?side1 ?side2 ?side3 ?side4 A8.out).mono ?_); (case side1 => repeat (first | exact (Kd.C_below HR1_0.out HB.out) | (with_reducible refine Kd.C_alloc ?_ _) | (with_reducible refine Kd.C_drewN ?_ _) | (with_reducible refine Kd.C_drew ?_))); (case side2 => exact HC1_0.out); (case side3 => repeat (first | exact (Kd.C_below HR1_1.out HB.out) | (with_reducible refine Kd.C_alloc ?_ _) | (with_reducible refine Kd.C_drewN ?_ _) | (with_reducible refine Kd.C_drew ?_))); (case side4 => exact HC1_1.out); rintro e w12 ⟨rfl, hb⟩; replace BK908 := Aside0.mk (blk_below (g := gb908) (o := .cells #[.slice A1_0 l1_0.length c1_0, .slice A1_1 l1_1.length c1_1] 26 (0, 0)) (zb BK908) hb); replace BK909 := Aside0.mk (blk_below (g := gb909) (o := .cells #[.slice none 0 0, .slice none 0 0] 26 (0, 0)) (zb BK909) hb); replace HB := Aside0.mk (below_step (zB HB) hb); (try clear hb); (try clear hb2); (try clear hk); (try clear hi))); go_meet
   case rel => exact ⟨_, (!t911), zr, H', ⟨by first | omega | exact Nat.le_refl _⟩, ⟨zb BK908⟩, ⟨zb BK909⟩, ⟨zB HB⟩⟩
  ·replace c7 := Bool.eq_false_iff.mpr c7; subst c7; rw [if_neg (show ¬ (false = true) by decide)] at H; have H' := Aside0.mk H; clear H; go_wp2_with (first | ((with_reducible refine gate_callee (f := 46) rfl ?_); refine goesL_ (some 8) rfl rfl Try.func46 (by kernel_rfl) rfl #[.slice A0 l0.length c0] rfl zl ?_; (with_reducible refine (impl_ValidTurns.calls _ _ l0 false _ ?side1 ?side2 A6.out).mono ?_); (case side1 => repeat (first | exact (Kd.C_below HR0.out HB.out) | (with_reducible refine Kd.C_alloc ?_ _) | (with_reducible refine Kd.C_drewN ?_ _) | (with_reducible refine Kd.C_drew ?_))); (case side2 => exact HC0.out); rintro e w13 ⟨rfl, hb⟩; refine ⟨_, rfl, ?_⟩; replace BK908 := Aside0.mk (blk_below (g := gb908) (o := .cells #[.slice A1_0 l1_0.length c1_0, .slice A1_1 l1_1.length c1_1] 26 (0, 0)) (zb BK908) hb); replace BK909 := Aside0.mk (blk_below (g := gb909) (o := .cells #[.slice none 0 0, .slice none 0 0] 26 (0, 0)) (zb BK909) hb); replace HB := Aside0.mk (below_step (zB HB) hb); (try clear hb); (try clear hb2); (try clear hk); (try clear hi))); go_meet
   case rel => exact ⟨_, (true), zr, H', ⟨by first | omega | exact Nat.le_refl _⟩, ⟨zb BK908⟩, ⟨zb BK909⟩, ⟨zB HB⟩⟩
 case rest =>
  clear HC3; (try clear c1); (try clear p2); (try clear c4); (try clear c7); (try clear c10); (try clear hcz11_0); (try clear hcz11_1); (try clear hfz11_0); (try clear hfz11_1); obtain ⟨kq, x14_2, rfl, HA, HJ2, BK908, BK909, HB⟩ := hcut
  cases kq with
  | zero => exact absurd HA.out (by simp [impl_TurnFlat.j0])
  | succ kj2 =>
   have H := HA.out; clear HA; simp only [impl_TurnFlat.j0] at H
   by_cases c14 : x14_2 = true
   ·subst c14; rw [if_pos rfl] at H; simp only [Option.some.injEq, Prod.mk.injEq] at H; obtain ⟨rfl, rfl⟩ := H; have hnb15 := NB909_908.out; have hnc15 := NB908_909.out; have hcz16_0 : wc.cell? ⟨gb909, 0, none⟩ = some (.slice none 0 0) := (blk_cell BK909.out 0).trans rfl; have hcz16_1 : wc.cell? ⟨gb909, 1, none⟩ = some (.slice none 0 0) := (blk_cell BK909.out 1).trans rfl; have hfz16_0 := blk_frozen BK909.out 0; have hfz16_1 := blk_frozen BK909.out 1; go_wp2; refine bodyPost_ret (results_cell_row rfl _ _ gb909 26 #[.slice none 0 0, .slice none 0 0] (0, 0) _ rfl (by (with_reducible repeat (first | refine blk_drewN ?_ _ | refine blk_drew ?_ | refine blk_alloc ?_ _)); refine blk_put (cs := #[.slice none 0 0, .slice none 0 0]) ?_ 1 _ rfl; (with_reducible repeat (first | refine blk_drewN ?_ _ | refine blk_drew ?_ | refine blk_alloc ?_ _)); refine blk_put (cs := #[.slice none 0 0, .slice none 0 0]) ?_ 0 _ rfl; (with_reducible repeat (first | refine blk_drewN ?_ _ | refine blk_drew ?_ | refine blk_alloc ?_ _)); exact BK909.out) Try.underlying26 rfl (by kernel_rfl)) rfl ?_; exact ⟨_, _, by first | rfl | (simp [errW_none, errW_some] <;> rfl) | (simp [*, errW_none, errW_some] <;> rfl), by first | exact Kd.R_nil _ _ _ _ _ | exact Kd.N_nil _ _ _ _ _ | exact Kd.V_nil _ _ _ _ _ | exact Kd.Q_nil _ _ _ _ _ | exact Kd.S_nil _ _ _ _ _, by first | exact Kd.R_nil _ _ _ _ _ | exact Kd.N_nil _ _ _ _ _ | exact Kd.V_nil _ _ _ _ _ | exact Kd.Q_nil _ _ _ _ _ | exact Kd.S_nil _ _ _ _ _, zB HB⟩
   ·replace c14 := Bool.eq_false_iff.mpr c14; subst c14; rw [if_neg (show ¬ (false = true) by decide)] at H; replace H := Option.bind_eq_some_iff.mp H; obtain ⟨⟨t912, t915⟩, A170, H⟩ := H
    (try dsimp only at H)
    have A17 := Aside0.mk A170; clear A170; have H' := Aside0.mk H; clear H; have hnb18 := NB908_909.out; have hnc18 := NB909_908.out; have hcz19_0 : wc.cell? ⟨gb908, 0, none⟩ = some (.slice A1_0 l1_0.length c1_0) := (blk_cell BK908.out 0).trans rfl; have hcz19_1 : wc.cell? ⟨gb908, 1, none⟩ = some (.slice A1_1 l1_1.length c1_1) := (blk_cell BK908.out 1).trans rfl; have hfz19_0 := blk_frozen BK908.out 0; have hfz19_1 := blk_frozen BK908.out 1; go_wp2_with (first | ((with_reducible refine gate_callee (f := 68) rfl ?_); refine goesL_ (some 17) rfl rfl Try.func68 (by kernel_rfl) rfl #[.agg #[.slice A1_0 l1_0.length c1_0, .slice A1_1 l1_1.length c1_1]] rfl zl ?_; (with_reducible refine (impl_Flat_copyOf.calls _ _ l1_0 _ _ l1_1 t912 t915 _ ?side1 ?side2 ?side3 ?side4 A17.out).mono ?_); (case side1 => repeat (first | exact (Kd.C_below HR1_0.out HB.out) | (with_reducible refine Kd.C_alloc ?_ _) | (with_reducible refine Kd.C_drewN ?_ _) | (with_reducible refine Kd.C_drew ?_))); (case side2 => exact HC1_0.out); (case side3 => repeat (first | exact (Kd.C_below HR1_1.out HB.out) | (with_reducible refine Kd.C_alloc ?_ _) | (with_reducible refine Kd.C_drewN ?_ _) | (with_reducible refine Kd.C_drew ?_))); (case side4 => exact HC1_1.out); rintro e w20 ⟨v913, v916, rfl, ho0, ho1, hb⟩; refine ⟨_, rfl, ?_⟩; have HO914 := Aside0.mk (Kd.R_lower ho0 (below_size (zB HB))); have HO917 := Aside0.mk (Kd.R_lower ho1 (below_size (zB HB))); replace BK908 := Aside0.mk (blk_below (g := gb908) (o := .cells #[.slice A1_0 l1_0.length c1_0, .slice A1_1 l1_1.length c1_1] 26 (0, 0)) (zb BK908) hb); replace BK909 := Aside0.mk (blk_below (g := gb909) (o := .cells #[.slice none 0 0, .slice none 0 0] 26 (0, 0)) (zb BK909) hb); replace HB := Aside0.mk (below_step (zB HB) hb); (try clear hb); (try clear hb2); (try clear hk); (try clear hi); (try clear ho0); (try clear ho1)) | ((with_reducible refine gate_dst (N := 5) rfl ?_); refine zx (N := 5) (cs := #[.slice none 0 0, .slice none 0 0]) (t := 26) ?_; intro gb918 hg w21 hbox hb; replace HO914 := Aside0.mk (Kd.R_below (zo HO914) hb); replace HO917 := Aside0.mk (Kd.R_below (zo HO917) hb); have BK918 := Aside0.mk (hbox); have GW918 := Aside0.mk ((by rw [hg]; exact (below_size (zB HB)) : w.heap.size ≤ gb918)); have GE918 := GW918; replace HB := Aside0.mk (below_step (zB HB) hb); have NB908_918 := Aside0.mk ((by rw [hg]; exact Nat.ne_of_lt (blk_lt (g := gb908) (o := .cells #[.slice A1_0 l1_0.length c1_0, .slice A1_1 l1_1.length c1_1] 26 (0, 0)) (zb BK908)) : gb908 ≠ gb918)); have NB918_908 := Aside0.mk NB908_918.out.symm; replace BK908 := Aside0.mk (blk_below (g := gb908) (o := .cells #[.slice A1_0 l1_0.length c1_0, .slice A1_1 l1_1.length c1_1] 26 (0, 0)) (zb BK908) hb); have NB909_918 := Aside0.mk ((by rw [hg]; exact Nat.ne_of_lt (blk_lt (g := gb909) (o := .cells #[.slice none 0 0, .slice none 0 0] 26 (0, 0)) (zb BK909)) : gb909 ≠ gb918)); have NB918_909 := Aside0.mk NB909_918.out.symm; replace BK909 := Aside0.mk (blk_below (g := gb909) (o := .cells #[.slice none 0 0, .slice none 0 0] 26 (0, 0)) (zb BK909) hb); clear hb hbox hg; obtain ⟨Ao22, co22, eo22⟩ := Kd.R_slice HO914.out; subst eo22; have hnb23 := NB918_908.out; have hnc23 := NB908_918.out; have hnb24 := NB918_909.out; have hnc24 := NB909_918.out; have hcz25_0 : w21.cell? ⟨gb918, 0, none⟩ = some (.slice none 0 0) := (blk_cell BK918.out 0).trans rfl; have hcz25_1 : w21.cell? ⟨gb918, 1, none⟩ = some (.slice none 0 0) := (blk_cell BK918.out 1).trans rfl; have hfz25_0 := blk_frozen BK918.out 0; have hfz25_1 := blk_frozen BK918.out 1; obtain ⟨Ao26, co26, eo26⟩ := Kd.R_slice HO917.out; subst eo26)); go_loopg [21] kj2 (fun kq v21 w' => ∃ (x21_2 : Int) (x919001_2 : List (S33)) (u919001 : Value), v21 = .int .i64 x21_2 ∧ Aside0 (impl_TurnFlat.l0 kq l0 (t915.length : Int) x21_2 t912 x919001_2 = some (r1, r2)) ∧ Aside0 (kq ≤ kj2) ∧ Aside0 (Kd.R (Kd.int .i64) 3 w' w.heap.size (fun _ => True) (.slice Ao22 t912.length co22) t912) ∧ Aside0 (Kd.R k33 33 w' w.heap.size (fun _ => True) u919001 x919001_2) ∧ Aside0 (w'.heap[gb908]? = some (.cells #[(.slice A1_0 l1_0.length c1_0), (.slice A1_1 l1_1.length c1_1)] 26 (0, 0))) ∧ Aside0 (w'.heap[gb909]? = some (.cells #[(.slice none 0 0), (.slice none 0 0)] 26 (0, 0))) ∧ Aside0 (w'.heap[gb918]? = some (.cells #[(.slice Ao22 t912.length co22), u919001] 26 (0, 0))) ∧ Aside0 (Below w.heap.size w w'))
    case atStart => exact ⟨(0), (t915), (.slice Ao26 t915.length co26), zr, H', ⟨Nat.le_refl _⟩, ⟨by (with_reducible repeat (first | apply Kd.R_alloc | apply Kd.R_drewN | apply Kd.R_drew)); exact Kd.R_mono (Kd.R_far (p := ⟨gb918, 1, none⟩) (Kd.R_far (p := ⟨gb918, 0, none⟩) (Kd.R_types HO914.out BK918.out (by decide)) (fun _ hk => hk.2) (.slice Ao22 t912.length co22)) (fun _ hk => hk.2) (.slice Ao26 t915.length co26)) (fun _ hk => trivial)⟩, ⟨by (with_reducible repeat (first | apply Kd.R_alloc | apply Kd.R_drewN | apply Kd.R_drew)); exact Kd.R_mono (Kd.R_far (p := ⟨gb918, 1, none⟩) (Kd.R_far (p := ⟨gb918, 0, none⟩) (Kd.R_types HO917.out BK918.out (by decide)) (fun _ hk => hk.2) (.slice Ao22 t912.length co22)) (fun _ hk => hk.2) (.slice Ao26 t915.length co26)) (fun _ hk => trivial)⟩, ⟨zf BK908⟩, ⟨zf BK909⟩, ⟨by (with_reducible repeat (first | refine blk_drewN ?_ _ | refine blk_drew ?_ | refine blk_alloc ?_ _)); refine blk_put (cs := #[.slice Ao22 t912.length co22, .slice none 0 0]) ?_ 1 _ rfl; (with_reducible repeat (first | refine blk_drewN ?_ _ | refine blk_drew ?_ | refine blk_alloc ?_ _)); refine blk_put (cs := #[.slice none 0 0, .slice none 0 0]) ?_ 0 _ rfl; (with_reducible repeat (first | refine blk_drewN ?_ _ | refine blk_drew ?_ | refine blk_alloc ?_ _)); exact BK918.out⟩, ⟨zB HB⟩⟩
    case round =>
     clear H'; (try clear c1); (try clear c2); (try clear p2); (try clear c4); (try clear c6); (try clear c7); (try clear c10); (try clear c14); (try clear c15); (try clear c18); (try clear c23); (try clear c24); (try clear hcz11_0); (try clear hcz11_1); (try clear hcz16_0); (try clear hcz16_1); (try clear hcz19_0); (try clear hcz19_1); (try clear hcz25_0); (try clear hcz25_1); (try clear hfz11_0); (try clear hfz11_1); (try clear hfz16_0); (try clear hfz16_1); (try clear hfz19_0); (try clear hfz19_1); (try clear hfz25_0); (try clear hfz25_1); (try clear p2); obtain ⟨x21_2, x919001_2, u919001, rfl, HA, HK2, HO_919000, HO_919001, BK908, BK909, BK918, HB⟩ := hrel
     cases gk with
     | zero => exact absurd HA.out (by simp [impl_TurnFlat.l0])
     | succ k2 =>
      have H := HA.out; clear HA; simp only [impl_TurnFlat.l0] at H
      by_cases c27 : x21_2 < (t915.length : Int)
      ·rw [if_pos c27] at H; have c27b0 : decide (x21_2 < (t915.length : Int)) = true := decide_eq_true c27; clear c27
       by_cases c28 : 0 ≤ x21_2
       ·rw [if_pos c28] at H; have c28b0 : decide (0 ≤ x21_2) = true := decide_eq_true c28; clear c28
        by_cases c29 : x21_2 < (x919001_2.length : Int)
        ·rw [if_pos c29] at H; have c29b0 : decide (x21_2 < (x919001_2.length : Int)) = true := decide_eq_true c29; clear c29; replace H := Option.bind_eq_some_iff.mp H; obtain ⟨t920, A300, H⟩ := H
         (try dsimp only at H)
         have A30 := Aside0.mk A300; clear A300; obtain ⟨y921, hy921⟩ : ∃ y_ : List (S33), y_ = (x919001_2.set (x21_2 : Int).toNat (⟨t920, (rd_T33 x919001_2 x21_2).f1⟩ : S33)) := ⟨_, rfl⟩
         replace H : (impl_TurnFlat.l0 k2 l0 (t915.length : Int) (wrap64 (x21_2 + 1)) t912 y921) = some (r1, r2) := by first | (rw [hy921]; with_reducible exact H) | (have H2_ := (Option.bind_some _ _).symm.trans H; rw [hy921]; with_reducible exact H2_) | (have H2_ := (Option.bind_some _ _).symm.trans H; with_reducible exact H2_) | with_reducible exact H | (rw [hy921]; exact H) | exact H
         have Ny921 := Aside0.mk hy921; clear hy921; have H' := Aside0.mk H; clear H
         try go_wp2
         replace HO_919000 := Aside0.mk (Kd.R_drew HO_919000.out); replace HO_919001 := Aside0.mk (Kd.R_drew HO_919001.out); replace BK908 := Aside0.mk (blk_drew BK908.out); replace BK909 := Aside0.mk (blk_drew BK909.out); replace BK918 := Aside0.mk (blk_drew BK918.out); replace HB := Aside0.mk (below_drew1 HB.out); obtain ⟨Ao33, co33, eo33⟩ := Kd.R_slice HO_919001.out
         (first | subst eo33 | (injection eo33 with f1_ f2_ f3_; have f4_ := f1_.symm; have f5_ := f3_.symm; clear f1_ f2_ f3_; subst f4_; subst f5_))
         have p919 : 0 ≤ (x21_2 : Int) := of_decide_eq_true za; have q919 : x21_2 < (x919001_2.length : Int) := of_decide_eq_true za; obtain ⟨ad919, e919, hx919_0, hx919_1⟩ := at_T33 (Kd.R_reads' HO_919001.out).2.2 x21_2 p919 q919
         cases e919
         replace p919 := eq_true p919; replace q919 := eq_true q919; refine start_ (n := 14) (S := fun w' => w'.cell? ⟨gb918, 0, none⟩ = some (.slice Ao22 t912.length co22) ∧ w'.cell? ⟨gb918, 1, none⟩ = some (.slice (some ad919) x919001_2.length co33) ∧ w'.cell? (ad919.add ((x21_2).toNat * 2)) = some (.string ((rd_T33 x919001_2 x21_2).f0)) ∧ w'.cell? ⟨(ad919.add ((x21_2).toNat * 2)).block, (ad919.add ((x21_2).toNat * 2)).off + 1, none⟩ = some (.int .i64 ((rd_T33 x919001_2 x21_2).f1))) (ds := [13]) #[false, false, false, false, false, false, false, false, false, false, false, false, false, false] (by kernel_rfl) rfl rfl ⟨(blk_cell BK918.out 0).trans rfl, (blk_cell BK918.out 1).trans rfl, hx919_0, hx919_1⟩ (fun hHeld => ?_); refine with_tabW impl_TurnFlat.tab7 impl_TurnFlat.bits7 (fun HT_ HW_ => ?_); generalize wr.drew = w32 at HO_919000 HO_919001 BK908 BK909 BK918 HB hx919_0 hx919_1 hHeld ⊢; refine pure_ (i := 0) (N := some 24) (v := ?_) (a' := ?_) #[true, false, false, false, false, false, false, false, false, false, false, false, false, false] rfl rfl (any_of HT_.out (by kernel_rfl)) (fun _ _ _ h => h) (Or.inl ⟨by rfl, ?_⟩) ?_ ?_; rotate_left
         ·intro w'; go_simp; with_reducible rfl
         rotate_left
         ·simp only [Act.put, List.setIfInBounds_toArray, List.set_cons_zero, List.set_cons_succ, i64_w, i32_w]; rfl
         refine pure_ (i := 2) (N := some 26) (v := ?_) (a' := ?_) #[true, false, true, false, false, false, false, false, false, false, false, false, false, false] rfl rfl (any_of HT_.out (by kernel_rfl)) (fun _ _ _ h => h) (Or.inl ⟨by rfl, ?_⟩) ?_ ?_; rotate_left
         ·intro w'; go_simp; with_reducible rfl
         rotate_left
         ·simp only [Act.put, List.setIfInBounds_toArray, List.set_cons_zero, List.set_cons_succ, i64_w, i32_w]; rfl
         refine pure_ (i := 3) (N := some 27) (v := ?_) (a' := ?_) #[true, false, true, true, false, false, false, false, false, false, false, false, false, false] rfl rfl (any_of HT_.out (by kernel_rfl)) (fun _ _ _ h => h) (Or.inl ⟨by rfl, ?_⟩) ?_ ?_; rotate_left
         ·intro w'; go_simp; with_reducible rfl
         rotate_left
         ·simp only [Act.put, List.setIfInBounds_toArray, List.set_cons_zero, List.set_cons_succ, i64_w, i32_w]; rfl
         refine pure_ (i := 4) (N := some 28) (v := ?_) (a' := ?_) #[true, false, true, true, true, false, false, false, false, false, false, false, false, false] rfl rfl (any_of HT_.out (by kernel_rfl)) (fun _ _ _ h => h) (Or.inl ⟨by rfl, ?_⟩) ?_ ?_; rotate_left
         ·intro w'; go_simp; with_reducible rfl
         rotate_left
         ·simp only [Act.put, List.setIfInBounds_toArray, List.set_cons_zero, List.set_cons_succ, i64_w, i32_w]; rfl
         refine pure_ (i := 6) (N := some 30) (v := ?_) (a' := ?_) #[true, false, true, true, true, false, true, false, false, false, false, false, false, false] rfl rfl (any_of HT_.out (by kernel_rfl)) (fun _ _ _ h => h) (Or.inl ⟨by rfl, ?_⟩) ?_ ?_; rotate_left
         ·intro w'; go_simp; with_reducible rfl
         rotate_left
         ·simp only [Act.put, List.setIfInBounds_toArray, List.set_cons_zero, List.set_cons_succ, i64_w, i32_w]; rfl
         refine take_ (i := 1) (N := some 25) (v := ?_) (a' := ?_) #[true, true, true, true, true, false, true, false, false, false, false, false, false, false] rfl rfl (take_ofW HT_.out HW_.out (by kernel_rfl)) (fun _ _ _ h => h) (Or.inl ⟨by rfl, ?_⟩) hHeld ?_ ?_; rotate_left
         ·rintro w' ⟨s0, s1, s2, s3⟩; go_simp; with_reducible rfl
         rotate_left
         ·simp only [Act.put, List.setIfInBounds_toArray, List.set_cons_zero, List.set_cons_succ, i64_w, i32_w]; rfl
         refine take_ (i := 5) (N := some 29) (v := ?_) (a' := ?_) #[true, true, true, true, true, true, true, false, false, false, false, false, false, false] rfl rfl (take_ofW HT_.out HW_.out (by kernel_rfl)) (fun _ _ _ h => h) (Or.inl ⟨by rfl, ?_⟩) hHeld ?_ ?_; rotate_left
         ·rintro w' ⟨s0, s1, s2, s3⟩; go_simp; with_reducible rfl
         rotate_left
         ·simp only [Act.put, List.setIfInBounds_toArray, List.set_cons_zero, List.set_cons_succ, i64_w, i32_w]; rfl
         refine pure_ (i := 7) (N := some 31) (v := ?_) (a' := ?_) #[true, true, true, true, true, true, true, true, false, false, false, false, false, false] rfl rfl (any_of HT_.out (by kernel_rfl)) (fun _ _ _ h => h) (Or.inl ⟨by rfl, ?_⟩) ?_ ?_; rotate_left
         ·intro w'; go_simp; with_reducible rfl
         rotate_left
         ·simp only [Act.put, List.setIfInBounds_toArray, List.set_cons_zero, List.set_cons_succ, i64_w, i32_w]; rfl
         refine pure_ (i := 8) (N := some 32) (v := ?_) (a' := ?_) #[true, true, true, true, true, true, true, true, true, false, false, false, false, false] rfl rfl (any_of HT_.out (by kernel_rfl)) (fun _ _ _ h => h) (Or.inl ⟨by rfl, ?_⟩) ?_ ?_; rotate_left
         ·intro w'; go_simp; with_reducible rfl
         rotate_left
         ·simp only [Act.put, List.setIfInBounds_toArray, List.set_cons_zero, List.set_cons_succ, i64_w, i32_w]; rfl
         refine take_ (i := 9) (N := some 33) (v := ?_) (a' := ?_) #[true, true, true, true, true, true, true, true, true, true, false, false, false, false] rfl rfl (take_ofW HT_.out HW_.out (by kernel_rfl)) (fun _ _ _ h => h) (Or.inl ⟨by rfl, ?_⟩) hHeld ?_ ?_; rotate_left
         ·rintro w' ⟨s0, s1, s2, s3⟩; go_simp; with_reducible rfl
         rotate_left
         ·simp only [Act.put, List.setIfInBounds_toArray, List.set_cons_zero, List.set_cons_succ, i64_w, i32_w]; rfl
         refine one_ (i := 10) (N := some 34) #[true, true, true, true, true, true, true, true, true, true, true, false, false, false] rfl rfl (one_of HT_.out (by kernel_rfl)) (by decide) (fun K hK => ?_); refine goes_ Try.func85 (by kernel_rfl) rfl #[.slice A0 l0.length c0, .string ((rd_T33 x919001_2 x21_2).f0)] (by rfl) rfl rfl zl ?_; with_reducible refine (impl_turn.calls k2 _ _ l0 ((rd_T33 x919001_2 x21_2).f0) t920 _ ?side1 ?side2 A30.out).mono ?_
         (case side1 => repeat (first | exact (Kd.C_below HR0.out HB.out) | (with_reducible refine Kd.C_alloc ?_ _) | (with_reducible refine Kd.C_drewN ?_ _) | (with_reducible refine Kd.C_drew ?_)))
         (case side2 => exact HC0.out)
         rintro e w34 ⟨rfl, hb⟩; have HS2_ := (hb.cell (World.block_lt_of_cell? _ _ (hHeld.2.2.1))).trans (hHeld.2.2.1); have HS3_ := (hb.cell (World.block_lt_of_cell? _ _ (hHeld.2.2.2))).trans (hHeld.2.2.2); refine ⟨_, rfl, ?_⟩; replace HO_919000 := Aside0.mk (Kd.R_below (zo HO_919000) hb); replace HO_919001 := Aside0.mk (Kd.R_below (zo HO_919001) hb); replace BK908 := Aside0.mk (blk_below (g := gb908) (o := .cells #[.slice A1_0 l1_0.length c1_0, .slice A1_1 l1_1.length c1_1] 26 (0, 0)) (zb BK908) hb); replace BK909 := Aside0.mk (blk_below (g := gb909) (o := .cells #[.slice none 0 0, .slice none 0 0] 26 (0, 0)) (zb BK909) hb); replace BK918 := Aside0.mk (blk_below (g := gb918) (o := .cells #[.slice Ao22 t912.length co22, .slice (some ad919) x919001_2.length co33] 26 (0, 0)) (zb BK918) hb); replace HB := Aside0.mk (below_step (zB HB) hb); (try clear hb); (try clear hb2); (try clear hk); (try clear hi); have p31 : 0 ≤ (x21_2 : Int) := of_decide_eq_true za; have q31 : (x21_2 : Int) < ((x919001_2.length : Int) : Int) := of_decide_eq_true za; obtain ⟨go31, co31, eo31, gb31, gl31, cl31, HG31⟩ := Kd.R_form HO_919001.out (by omega)
         (first | cases eo31 | (injection eo31 with ea_ en_ ec_; (first | subst ea_ | (injection ea_ with ea_; subst ea_)); subst ec_; clear en_))
         have GB31 := Aside0.mk gb31; have GG31 := Aside0.mk HG31; clear gb31 gl31 HG31
         (first | simp only [add_plain] at hx919_0 | skip)
         (first | simp only [add_plain] at hx919_1 | skip)
         obtain ⟨ce31, hcl31, hM31, hcc31, hfr31⟩ := Kd.R_elem HO_919001.out z33 (x21_2 : Int) p31 q31; obtain rfl := k33_openM hM31; have hx31_0 : World.cell? _ ⟨go31, (x21_2 : Int).toNat * 2, none⟩ = some (.string ((rd_T33 x919001_2 x21_2).f0)) := hcc31 0 _ rfl; have hx31_1 : World.cell? _ ⟨go31, (x21_2 : Int).toNat * 2 + 1, none⟩ = some (.int .i64 ((rd_T33 x919001_2 x21_2).f1)) := hcc31 1 _ rfl; have hf31_0 : World.frozen? _ ⟨go31, (x21_2 : Int).toNat * 2, none⟩ = false := hfr31 0; have hf31_1 : World.frozen? _ ⟨go31, (x21_2 : Int).toNat * 2 + 1, none⟩ = false := hfr31 1; clear hcl31 hcc31 hfr31 hM31; replace p31 := eq_true p31; replace q31 := eq_true q31; obtain ⟨ce35, hcl35, hM35, hcc35, hfr35⟩ := Kd.R_elem HO_919001.out z33 (x21_2 : Int) (of_decide_eq_true za) (by have h_ : (x21_2 : Int) < ((x919001_2.length : Int) : Int) := of_decide_eq_true za; first | exact h_ | (have e_ := (Kd.R_reads' HO_919001.out).1; omega) | simpa using h_); obtain rfl := k33_openM hM35; have HP35 := (Kd.R_seg HO_919001.out (x21_2 : Int) (of_decide_eq_true za) (by have h_ : (x21_2 : Int) < ((x919001_2.length : Int) : Int) := of_decide_eq_true za; first | exact h_ | (have e_ := (Kd.R_reads' HO_919001.out).1; omega) | simpa using h_) (seg := [.string t920]) (j := 0) hcl35 hcc35 (show 1 ≤ 2 from by decide) (x' := (⟨t920, (rd_T33 x919001_2 x21_2).f1⟩ : S33)) (k33_mkM _ _ _ (⟨t920, (rd_T33 x919001_2 x21_2).f1⟩ : S33) ) (fun _ hk => hk)).1; rw [← Ny921.out] at HP35; have HQ35 := Aside0.mk HP35; clear hcl35 hcc35 hfr35 hM35 HP35; refine hK.out _ _ ⟨(blk_cell BK918.out 0).trans rfl, (blk_cell BK918.out 1).trans rfl, HS2_, HS3_⟩ (fun hHeld => ?_); clear hK K; refine norm_ (a' := ?_) ?_ ?_; rotate_left
         ·show Act.put _ (some 34) _ = _
          simp only [Act.put, List.setIfInBounds_toArray, List.set_cons_zero, List.set_cons_succ, i64_w, i32_w]; rfl
         refine pure_ (i := 11) (N := some 35) (v := ?_) (a' := ?_) #[true, true, true, true, true, true, true, true, true, true, true, true, false, false] rfl rfl (any_of HT_.out (by kernel_rfl)) (fun _ _ _ h => h) (Or.inl ⟨by rfl, ?_⟩) ?_ ?_; rotate_left
         ·intro w'; go_simp; with_reducible rfl
         rotate_left
         ·simp only [Act.put, List.setIfInBounds_toArray, List.set_cons_zero, List.set_cons_succ, i64_w, i32_w]; rfl
         refine pure_ (i := 12) (N := some 36) (v := ?_) (a' := ?_) #[true, true, true, true, true, true, true, true, true, true, true, true, true, false] rfl rfl (any_of HT_.out (by kernel_rfl)) (fun _ _ _ h => h) (Or.inl ⟨by rfl, ?_⟩) ?_ ?_; rotate_left
         ·intro w'; go_simp; with_reducible rfl
         rotate_left
         ·simp only [Act.put, List.setIfInBounds_toArray, List.set_cons_zero, List.set_cons_succ, i64_w, i32_w]; rfl
         refine last_ (i := 13) (N := none) #[true, true, true, true, true, true, true, true, true, true, true, true, true, true] rfl rfl (one_of HT_.out (by kernel_rfl)) (by decide) (fun K hK => ?_); refine skip_ (w1 := ?_) (by rfl) rfl ?_ ?_; rotate_left
         ·go_simp; rfl
         refine hK.out _ _ ?_; clear hK K; refine done_ (done_of HT_.out (by kernel_rfl)) ?_
         try go_wp2
         go_roundg k2
         case measure => have := HJ2.out; have := HK2.out; omega
         case rel => exact ⟨(wrap64 (x21_2 + 1)), (y921), (.slice (some ⟨go31, 0, none⟩) x919001_2.length co33), zr, H', ⟨by have := HJ2.out; have := HK2.out; omega⟩, ⟨by (with_reducible repeat (first | apply Kd.R_alloc | apply Kd.R_drewN | apply Kd.R_drew)); exact Kd.R_mono (Kd.R_far (p := ⟨go31, (x21_2 : Int).toNat * 2, none⟩) (Kd.R_types HO_919000.out GG31.out (by decide)) (fun _ hk => hk.2) (.string t920)) (fun _ hk => trivial)⟩, ⟨zo HQ35⟩, ⟨by (with_reducible repeat (first | refine blk_drewN ?_ _ | refine blk_drew ?_ | refine blk_alloc ?_ _)); refine blk_far ?_ (by have h_ := Kd.R_ne HO_919001.out BK908.out (by decide); intro e_; exact h_ (by rw [e_]; rfl)) _; (with_reducible repeat (first | refine blk_drewN ?_ _ | refine blk_drew ?_ | refine blk_alloc ?_ _)); exact BK908.out⟩, ⟨by (with_reducible repeat (first | refine blk_drewN ?_ _ | refine blk_drew ?_ | refine blk_alloc ?_ _)); refine blk_far ?_ (by have h_ := Kd.R_ne HO_919001.out BK909.out (by decide); intro e_; exact h_ (by rw [e_]; rfl)) _; (with_reducible repeat (first | refine blk_drewN ?_ _ | refine blk_drew ?_ | refine blk_alloc ?_ _)); exact BK909.out⟩, ⟨by (with_reducible repeat (first | refine blk_drewN ?_ _ | refine blk_drew ?_ | refine blk_alloc ?_ _)); refine blk_far ?_ (by have h_ := Kd.R_ne HO_919001.out BK918.out (by decide); intro e_; exact h_ (by rw [e_]; rfl)) _; (with_reducible repeat (first | refine blk_drewN ?_ _ | refine blk_drew ?_ | refine blk_alloc ?_ _)); exact BK918.out⟩, ⟨by repeat (first | (with_reducible first | exact HB.out | apply below_alloc | apply pw_below_drewN | apply below_drew1 | refine below_set ?_ GB31.out | refine below_set ?_ GE908.out | refine below_set ?_ GE909.out | refine below_set ?_ GE918.out) | exact HB.out)⟩⟩
        ·rw [if_neg c29] at H; exact absurd H (by simp)
       ·rw [if_neg c28] at H; exact absurd H (by simp)
      ·rw [if_neg c27] at H; have c27b0 : decide (x21_2 < (t915.length : Int)) = false := decide_eq_false c27; clear c27; simp only [Option.some.injEq, Prod.mk.injEq] at H; obtain ⟨rfl, rfl⟩ := H; have hnb36 := NB918_908.out; have hnc36 := NB908_918.out; have hnb37 := NB918_909.out; have hnc37 := NB909_918.out; have hcz38_0 : wr.cell? ⟨gb918, 0, none⟩ = some (.slice Ao22 t912.length co22) := (blk_cell BK918.out 0).trans rfl; have hcz38_1 : wr.cell? ⟨gb918, 1, none⟩ = some (u919001) := (blk_cell BK918.out 1).trans rfl; have hfz38_0 := blk_frozen BK918.out 0; have hfz38_1 := blk_frozen BK918.out 1; have hnb39 := NB909_908.out; have hnc39 := NB908_909.out; have hcz40_0 : wr.cell? ⟨gb909, 0, none⟩ = some (.slice none 0 0) := (blk_cell BK909.out 0).trans rfl; have hcz40_1 : wr.cell? ⟨gb909, 1, none⟩ = some (.slice none 0 0) := (blk_cell BK909.out 1).trans rfl; have hfz40_0 := blk_frozen BK909.out 0; have hfz40_1 := blk_frozen BK909.out 1; obtain ⟨Ao41, co41, eo41⟩ := Kd.R_slice HO_919001.out; subst eo41; go_wp2; refine bodyPost_ret (results_cell_row rfl _ _ gb909 26 #[.slice Ao22 t912.length co22, .slice Ao41 x919001_2.length co41] (0, 0) _ rfl (by (with_reducible repeat (first | refine blk_drewN ?_ _ | refine blk_drew ?_ | refine blk_alloc ?_ _)); refine blk_put (cs := #[.slice Ao22 t912.length co22, .slice none 0 0]) ?_ 1 _ rfl; (with_reducible repeat (first | refine blk_drewN ?_ _ | refine blk_drew ?_ | refine blk_alloc ?_ _)); refine blk_put (cs := #[.slice none 0 0, .slice none 0 0]) ?_ 0 _ rfl; (with_reducible repeat (first | refine blk_drewN ?_ _ | refine blk_drew ?_ | refine blk_alloc ?_ _)); exact BK909.out) Try.underlying26 rfl (by kernel_rfl)) rfl ?_; exact ⟨_, _, by first | rfl | (simp [errW_none, errW_some] <;> rfl) | (simp [*, errW_none, errW_some] <;> rfl), by (with_reducible repeat (first | apply Kd.R_alloc | apply Kd.R_drewN | apply Kd.R_drew)); exact Kd.R_mono (Kd.R_far (p := ⟨gb909, 1, none⟩) (Kd.R_far (p := ⟨gb909, 0, none⟩) (Kd.R_types HO_919000.out BK909.out (by decide)) (fun _ hk => hk.2) (.slice Ao22 t912.length co22)) (fun _ hk => hk.2) (.slice Ao41 x919001_2.length co41)) (fun _ hk => trivial), by (with_reducible repeat (first | apply Kd.R_alloc | apply Kd.R_drewN | apply Kd.R_drew)); exact Kd.R_mono (Kd.R_far (p := ⟨gb909, 1, none⟩) (Kd.R_far (p := ⟨gb909, 0, none⟩) (Kd.R_types HO_919001.out BK909.out (by decide)) (fun _ hk => hk.2) (.slice Ao22 t912.length co22)) (fun _ hk => hk.2) (.slice Ao41 x919001_2.length co41)) (fun _ hk => trivial), zB HB⟩

end Go.Proofs.Ytfcpbgedgedalaa.Q

namespace Go.Proofs.Ytfcpbgedgedalaa.Q
open Go.RowKit Go.Proofs.YtfcpbgedgedalaaL.PrintWords Go.Proofs.YtfcpbgedgedalaaL.PrintLast Go.Proofs.YtfcpbgedgedalaaL.PrintMore
attribute [local go_sem] max2_int min2_int max_two min_two max_three min_three max_four min_four   -- for this text's walks alone
set_option linter.unusedVariables false
set_option linter.unusedSimpArgs false

/-! ### laws_FnThenTurn: function 9 -/
def laws_FnThenTurn.j0 : Nat → List (S107) → List (S107) → List (S107) → Bool → List (S107) → Bool → Bool → Option (Bool)
 | 0, _, _, _, _, _, _, _ => none
 | k + 1, x3, x4, x5, x6, x7, x8, x44 => if x44 = true then ((laws_equalTurns.f k x5 x7).bind fun t937 => (if t937 = true then (some (x6 == x8)) else (some false))) else ((some (([(⟨(⟨#[97]⟩ : ByteArray), 1⟩ : S33), (⟨(⟨#[98]⟩ : ByteArray), 2⟩ : S33), (⟨(⟨#[99]⟩ : ByteArray), 3⟩ : S33), (⟨(⟨#[120]⟩ : ByteArray), 4⟩ : S33), (⟨(⟨#[100]⟩ : ByteArray), 5⟩ : S33), (⟨(⟨#[113]⟩ : ByteArray), 6⟩ : S33)] : List (S33)) : List (S33))).bind fun y938 => ((impl_TurnBack.f k x3).bind fun t942 => ((impl_ThenTurn.f k x3 t942).bind fun bt945 => ((impl_TurnFlat.f k x5 ([] : List Int) y938).bind fun bt949 => ((impl_TurnFlat.f k x3 ([] : List Int) y938).bind fun bt955 => ((impl_TurnFlat.f k x4 bt955.1 bt955.2).bind fun bt961 => ((laws_equalFlat.f k bt949.1 bt949.2 bt961.1 bt961.2).bind fun t967 => (if t967 = true then (if bt945.2 = true then (some ((bt945.1.length : Int) == 0)) else (some false)) else (some false)))))))))
def laws_FnThenTurn.f (k : Nat) (l0 : List Int) : Option (Bool) := if (l0.length : Int) > 1048576 then (some true) else ((spec_DrawThenTurn.f k l0).bind fun bt922 => ((impl_ThenTurn.f k bt922.1 bt922.2).bind fun bt928 => ((spec_ThenTurn.f k bt922.1 bt922.2).bind fun bt932 => ((laws_equalTurns.f k bt928.1 bt932.1).bind fun t936 => (if t936 = true then (if (bt928.2 != bt932.2) = true then (laws_FnThenTurn.j0 k bt922.1 bt922.2 bt928.1 bt928.2 bt932.1 bt932.2 true) else (laws_FnThenTurn.j0 k bt922.1 bt922.2 bt928.1 bt928.2 bt932.1 bt932.2 (!bt928.2))) else (laws_FnThenTurn.j0 k bt922.1 bt922.2 bt928.1 bt928.2 bt932.1 bt932.2 true))))))
theorem laws_FnThenTurn.mono_l : ∀ k, (∀ y0 y1 y2 y3 y4 y5 y6, LeO (laws_FnThenTurn.j0 k y0 y1 y2 y3 y4 y5 y6) (laws_FnThenTurn.j0 (k + 1) y0 y1 y2 y3 y4 y5 y6))
 | 0 => fun _ _ _ _ _ _ _ r h => by simp [laws_FnThenTurn.j0] at h
 | k + 1 => by
  have ih0 := laws_FnThenTurn.mono_l k
  ·intro y0 y1 y2 y3 y4 y5 y6; unfold laws_FnThenTurn.j0
   repeat' first
   | (with_reducible exact ih0 _ _ _ _ _ _ _)
   | (with_reducible exact impl_ThenTurn.mono _ _ _)
   | (with_reducible exact impl_TurnBack.mono _ _)
   | (with_reducible exact impl_TurnFlat.mono _ _ _ _)
   | (with_reducible exact laws_equalFlat.mono _ _ _ _ _)
   | (with_reducible exact laws_equalTurns.mono _ _ _)
   | (with_reducible exact spec_DrawThenTurn.mono _ _)
   | (with_reducible exact spec_ThenTurn.mono _ _ _)
   | (with_reducible exact LeO.refl _)
   | (with_reducible exact LeO.none _)
   | (with_reducible refine LeO.ite ?_ ?_)
   | (with_reducible refine LeO.bind ?_ (fun _ => ?_))
   | exact ih0 _ _ _ _ _ _ _
   | exact impl_ThenTurn.mono _ _ _
   | exact impl_TurnBack.mono _ _
   | exact impl_TurnFlat.mono _ _ _ _
   | exact laws_equalFlat.mono _ _ _ _ _
   | exact laws_equalTurns.mono _ _ _
   | exact spec_DrawThenTurn.mono _ _
   | exact spec_ThenTurn.mono _ _ _
   | exact LeO.none _
   | refine LeO.ite ?_ ?_
   | refine LeO.bind ?_ (fun _ => ?_)
theorem laws_FnThenTurn.mono : ∀ a0 k, LeO (laws_FnThenTurn.f k a0) (laws_FnThenTurn.f (k + 1) a0) := by
 intro a0 k; have ih0 := laws_FnThenTurn.mono_l k; unfold laws_FnThenTurn.f
 repeat' first
   | (with_reducible exact ih0 _ _ _ _ _ _ _)
   | (with_reducible exact impl_ThenTurn.mono _ _ _)
   | (with_reducible exact impl_TurnBack.mono _ _)
   | (with_reducible exact impl_TurnFlat.mono _ _ _ _)
   | (with_reducible exact laws_equalFlat.mono _ _ _ _ _)
   | (with_reducible exact laws_equalTurns.mono _ _ _)
   | (with_reducible exact spec_DrawThenTurn.mono _ _)
   | (with_reducible exact spec_ThenTurn.mono _ _ _)
   | (with_reducible exact LeO.refl _)
   | (with_reducible exact LeO.none _)
   | (with_reducible refine LeO.ite ?_ ?_)
   | (with_reducible refine LeO.bind ?_ (fun _ => ?_))
   | exact ih0 _ _ _ _ _ _ _
   | exact impl_ThenTurn.mono _ _ _
   | exact impl_TurnBack.mono _ _
   | exact impl_TurnFlat.mono _ _ _ _
   | exact laws_equalFlat.mono _ _ _ _ _
   | exact laws_equalTurns.mono _ _ _
   | exact spec_DrawThenTurn.mono _ _
   | exact spec_ThenTurn.mono _ _ _
   | exact LeO.none _
   | refine LeO.ite ?_ ?_
   | refine LeO.bind ?_ (fun _ => ?_)
def laws_FnThenTurn.T10 : Bool × List (List Nat × List Nat) := (true, [([], []), ([], []), ([0, 1], [0, 1]), ([], []), ([], []), ([], []), ([4, 5, 2], [4, 5]), ([3, 6, 6], [3, 6]), ([2, 7, 7], [2, 7]), ([8, 8], [8]), ([9], [9]), ([9, 10], [9, 10]), ([11, 9], [11]), ([12], [12]), ([13, 12], [12, 13]), ([14, 12], [12, 14]), ([12, 15], [12, 15]), ([16, 12, 0, 1, 2, 3, 4, 5, 6, 7, 8, 9, 10, 11, 12, 13, 14, 15, 16], [16])])
def laws_FnThenTurn.B10 : List Nat := [0, 0, 3, 0, 0, 0, 55, 127, 255, 511, 1023, 2047, 4095, 8191, 16383, 32767, 65535, 131071]
theorem laws_FnThenTurn.tab10 : rtab .any (opsOf Try.f9 10) = laws_FnThenTurn.T10 := by kernel_rfl
theorem laws_FnThenTurn.bits10 : waitsOk laws_FnThenTurn.T10.2 laws_FnThenTurn.B10 = true := by kernel_rfl
set_option maxHeartbeats 8000000 in
set_option maxRecDepth 100000 in
theorem laws_FnThenTurn.calls (k : Nat) (A0 : Option Addr) (c0 : Nat) (l0 : List Int) (r : Bool) (w : World) (hr0 : Kd.C (Kd.int .u8) w A0 l0.length l0) (hc0 : l0.length ≤ c0) (h : laws_FnThenTurn.f k l0 = some r) (hr_ : r = true) :
  Calls Try.prog 9 #[.slice A0 l0.length c0] w fun e w' => e = .returned (.bool r) ∧ Below w.heap.size w w' := by
 have hu33 := Try.underlying33; have hu26 := Try.underlying26; have HR_ := Aside0.mk hr_; clear hr_; have HR0 := Aside0.mk hr0; have HC0 := Aside0.mk hc0; clear hr0 hc0; have HB := Aside0.mk (Below.refl w.heap.size w); have H : (if (l0.length : Int) > 1048576 then (some true) else ((spec_DrawThenTurn.f k l0).bind fun bt922 => ((impl_ThenTurn.f k bt922.1 bt922.2).bind fun bt928 => ((spec_ThenTurn.f k bt922.1 bt922.2).bind fun bt932 => ((laws_equalTurns.f k bt928.1 bt932.1).bind fun t936 => (if t936 = true then (if (bt928.2 != bt932.2) = true then (laws_FnThenTurn.j0 k bt922.1 bt922.2 bt928.1 bt928.2 bt932.1 bt932.2 true) else (laws_FnThenTurn.j0 k bt922.1 bt922.2 bt928.1 bt928.2 bt932.1 bt932.2 (!bt928.2))) else (laws_FnThenTurn.j0 k bt922.1 bt922.2 bt928.1 bt928.2 bt932.1 bt932.2 true))))))) = some r := h; clear h
 by_cases c2 : (l0.length : Int) > 1048576
 ·rw [if_pos c2] at H; have c2b0 : decide (1048576 < (l0.length : Int)) = true := decide_eq_true c2; have c2b1 : decide (1048576 < l0.length) = true := decide_eq_true (by omega); clear c2; obtain rfl := Option.some.inj H; go_enter Try.func9, Try.ntmps9; go_wp2; go_ret; exact ⟨by first | rfl | (simp [errW_none, errW_some] <;> rfl) | (simp [*, errW_none, errW_some] <;> rfl), zB HB⟩
 ·rw [if_neg c2] at H; have c2b0 : decide (1048576 < (l0.length : Int)) = false := decide_eq_false c2; have c2b1 : decide (1048576 < l0.length) = false := decide_eq_false (by omega); clear c2; replace H := Option.bind_eq_some_iff.mp H; obtain ⟨⟨t922, t923⟩, A30, H⟩ := H
  (try dsimp only at H)
  have A3 := Aside0.mk A30; clear A30; replace H := Option.bind_eq_some_iff.mp H; obtain ⟨⟨t928, t929⟩, A40, H⟩ := H
  (try dsimp only at H)
  have A4 := Aside0.mk A40; clear A40; replace H := Option.bind_eq_some_iff.mp H; obtain ⟨⟨t932, t933⟩, A50, H⟩ := H
  (try dsimp only at H)
  have A5 := Aside0.mk A50; clear A50; have HC6 := Aside0.mk H; clear H; go_enter Try.func9, Try.ntmps9; go_upto_region 6 with (first | ((with_reducible refine gate_callee (f := 40) rfl ?_); refine goesL_ (some 17) rfl rfl Try.func40 (by kernel_rfl) rfl #[.slice A0 l0.length c0] rfl zl ?_; (with_reducible refine (spec_DrawThenTurn.calls k _ _ l0 t922 t923 _ ?side1 ?side2 A3.out).mono ?_); (case side1 => repeat (first | exact HR0.out | (with_reducible refine Kd.C_alloc ?_ _) | (with_reducible refine Kd.C_drewN ?_ _) | (with_reducible refine Kd.C_drew ?_))); (case side2 => exact HC0.out); rintro e w7 ⟨v924, v926, rfl, ho0, ho1, hb⟩; refine ⟨_, rfl, ?_⟩; have HO925 := Aside0.mk (Kd.R_lower ho0 (below_size (zB HB))); have HO927 := Aside0.mk (Kd.R_lower ho1 (below_size (zB HB))); replace HB := Aside0.mk (below_step (zB HB) hb); (try clear hb); (try clear hb2); (try clear hk); (try clear hi); (try clear ho0); (try clear ho1); obtain ⟨Ao8, co8, eo8⟩ := Kd.R_slice HO925.out; subst eo8; obtain ⟨Ao9, co9, eo9⟩ := Kd.R_slice HO927.out; subst eo9) | ((with_reducible refine gate_callee (f := 36) rfl ?_); refine goesL_ (some 23) rfl rfl Try.func36 (by kernel_rfl) rfl #[.slice Ao8 t922.length co8, .slice Ao9 t923.length co9] rfl zl ?_; (with_reducible refine (impl_ThenTurn.calls k _ _ t922 _ _ t923 t928 t929 _ ?side1 ?side2 ?side3 ?side4 A4.out).mono ?_); (case side1 => repeat (first | exact (Kd.R_reads' HO925.out).2.2 | (with_reducible refine Kd.C_alloc ?_ _) | (with_reducible refine Kd.C_drewN ?_ _) | (with_reducible refine Kd.C_drew ?_))); (case side2 => exact (Kd.R_reads' HO925.out).2.1); (case side3 => repeat (first | exact (Kd.R_reads' HO927.out).2.2 | (with_reducible refine Kd.C_alloc ?_ _) | (with_reducible refine Kd.C_drewN ?_ _) | (with_reducible refine Kd.C_drew ?_))); (case side4 => exact (Kd.R_reads' HO927.out).2.1); rintro e w10 ⟨v930, rfl, ho0, hb⟩; refine ⟨_, rfl, ?_⟩; have HO931 := Aside0.mk (Kd.R_lower (Kd.R_new' (Kd.R_new' ho0 (Kd.R_lt (zo HO925))) (Kd.R_lt (zo HO927))) (below_size (zB HB))); replace HO925 := Aside0.mk (Kd.R_elder' (zo HO925) (Kd.R_base ho0) hb); replace HO927 := Aside0.mk (Kd.R_elder' (zo HO927) (Kd.R_base ho0) hb); replace HB := Aside0.mk (below_step (zB HB) hb); (try clear hb); (try clear hb2); (try clear hk); (try clear hi); (try clear ho0)) | ((with_reducible refine gate_callee (f := 34) rfl ?_); refine goesL_ (some 29) rfl rfl Try.func34 (by kernel_rfl) rfl #[.slice Ao8 t922.length co8, .slice Ao9 t923.length co9] rfl zl ?_; (with_reducible refine (spec_ThenTurn.calls k _ _ t922 _ _ t923 t932 t933 _ ?side1 ?side2 ?side3 ?side4 A5.out).mono ?_); (case side1 => repeat (first | exact (Kd.R_reads' HO925.out).2.2 | (with_reducible refine Kd.C_alloc ?_ _) | (with_reducible refine Kd.C_drewN ?_ _) | (with_reducible refine Kd.C_drew ?_))); (case side2 => exact (Kd.R_reads' HO925.out).2.1); (case side3 => repeat (first | exact (Kd.R_reads' HO927.out).2.2 | (with_reducible refine Kd.C_alloc ?_ _) | (with_reducible refine Kd.C_drewN ?_ _) | (with_reducible refine Kd.C_drew ?_))); (case side4 => exact (Kd.R_reads' HO927.out).2.1); rintro e w11 ⟨v934, rfl, ho0, hb⟩; refine ⟨_, rfl, ?_⟩; have HO935 := Aside0.mk (Kd.R_lower (Kd.R_new' (Kd.R_new' (Kd.R_new' ho0 (Kd.R_lt (zo HO925))) (Kd.R_lt (zo HO927))) (Kd.R_lt (zo HO931))) (below_size (zB HB))); replace HO925 := Aside0.mk (Kd.R_elder' (zo HO925) (Kd.R_base ho0) hb); replace HO927 := Aside0.mk (Kd.R_elder' (zo HO927) (Kd.R_base ho0) hb); replace HO931 := Aside0.mk (Kd.R_elder' (zo HO931) (Kd.R_base ho0) hb); replace HB := Aside0.mk (below_step (zB HB) hb); (try clear hb); (try clear hb2); (try clear hk); (try clear hi); (try clear ho0)))
  (try simp only [Act.put, List.setIfInBounds_toArray, List.set_cons_zero, List.set_cons_succ])
  go_cut [44] (fun v44 wc => ∃ (kq : Nat) (x44_5 : Bool), v44 = .bool x44_5 ∧ Aside0 (laws_FnThenTurn.j0 kq t922 t923 t928 t929 t932 t933 x44_5 = some r) ∧ Aside0 (kq ≤ k) ∧ Aside0 (Kd.R k107 107 wc w.heap.size (fun k_ => some k_ ≠ ((.slice Ao9 t923.length co9) : Value).ownBlock ∧ some k_ ≠ (v930 : Value).ownBlock ∧ some k_ ≠ (v934 : Value).ownBlock) (.slice Ao8 t922.length co8) t922) ∧ Aside0 (Kd.R k107 107 wc w.heap.size (fun k_ => some k_ ≠ ((.slice Ao8 t922.length co8) : Value).ownBlock ∧ some k_ ≠ (v930 : Value).ownBlock ∧ some k_ ≠ (v934 : Value).ownBlock) (.slice Ao9 t923.length co9) t923) ∧ Aside0 (Kd.R k107 107 wc w.heap.size (fun k_ => some k_ ≠ ((.slice Ao8 t922.length co8) : Value).ownBlock ∧ some k_ ≠ ((.slice Ao9 t923.length co9) : Value).ownBlock ∧ some k_ ≠ (v934 : Value).ownBlock) v930 t928) ∧ Aside0 (Kd.R k107 107 wc w.heap.size (fun k_ => some k_ ≠ ((.slice Ao8 t922.length co8) : Value).ownBlock ∧ some k_ ≠ ((.slice Ao9 t923.length co9) : Value).ownBlock ∧ some k_ ≠ (v930 : Value).ownBlock) v934 t932) ∧ Aside0 (Below w.heap.size w wc))
  case first =>
   have H := HC6.out; clear HC6; replace H := Option.bind_eq_some_iff.mp H; obtain ⟨t936, A120, H⟩ := H
   (try dsimp only at H)
   have A12 := Aside0.mk A120; clear A120
   by_cases c13 : t936 = true
   ·subst c13; rw [if_pos rfl] at H
    by_cases c14 : (t929 != t933) = true
    ·rw [if_pos c14] at H; have c14b0 : (t929 != t933) = true := c14
     (try (have c14b1 : decide (t929 = t933) = false := by simpa using c14))
     (try (have c14b2 : (t929 == t933) = false := by simpa using c14))
     (try (have c14b3 : ¬ (t929 = t933) := by simpa using c14))
     clear c14
     (first | rw [c14b0] | (simp only [i64_w, i32_w]; rw [c14b0]) | skip)
     have H' := Aside0.mk H; clear H; obtain ⟨Ao15, co15, eo15⟩ := Kd.R_slice HO931.out; subst eo15; obtain ⟨Ao16, co16, eo16⟩ := Kd.R_slice HO935.out; subst eo16; go_wp2_with (first | ((with_reducible refine gate_callee (f := 41) rfl ?_); refine goesL_ (some 34) rfl rfl Try.func41 (by kernel_rfl) rfl #[.slice Ao15 t928.length co15, .slice Ao16 t932.length co16] rfl zl ?_; (with_reducible refine (laws_equalTurns.calls k _ _ t928 _ _ t932 true _ ?side1 ?side2 ?side3 ?side4 A12.out).mono ?_); (case side1 => repeat (first | exact (Kd.R_reads' HO931.out).2.2 | (with_reducible refine Kd.C_alloc ?_ _) | (with_reducible refine Kd.C_drewN ?_ _) | (with_reducible refine Kd.C_drew ?_))); (case side2 => exact (Kd.R_reads' HO931.out).2.1); (case side3 => repeat (first | exact (Kd.R_reads' HO935.out).2.2 | (with_reducible refine Kd.C_alloc ?_ _) | (with_reducible refine Kd.C_drewN ?_ _) | (with_reducible refine Kd.C_drew ?_))); (case side4 => exact (Kd.R_reads' HO935.out).2.1); rintro e w' ⟨rfl, ⟨nd, rfl⟩⟩; refine ⟨_, rfl, ?_⟩)); go_meet
     case rel => exact ⟨_, (true), zr, H', ⟨by first | omega | exact Nat.le_refl _⟩, ⟨by (with_reducible repeat (first | apply Kd.R_alloc | apply Kd.R_drewN | apply Kd.R_drew)); exact Kd.R_mono HO925.out (fun _ hk => ⟨hk.1.1, ⟨hk.1.2, hk.2⟩⟩)⟩, ⟨by (with_reducible repeat (first | apply Kd.R_alloc | apply Kd.R_drewN | apply Kd.R_drew)); exact Kd.R_mono HO927.out (fun _ hk => ⟨hk.1.1, ⟨hk.1.2, hk.2⟩⟩)⟩, ⟨by (with_reducible repeat (first | apply Kd.R_alloc | apply Kd.R_drewN | apply Kd.R_drew)); exact Kd.R_mono HO931.out (fun _ hk => ⟨hk.1.1.2, ⟨hk.1.2, hk.2⟩⟩)⟩, ⟨by (with_reducible repeat (first | apply Kd.R_alloc | apply Kd.R_drewN | apply Kd.R_drew)); exact Kd.R_mono HO935.out (fun _ hk => ⟨hk.1.1.2, ⟨hk.1.2, hk.2⟩⟩)⟩, ⟨zB HB⟩⟩
    ·rw [if_neg c14] at H; have c14b0 : (t929 != t933) = false := by simpa using c14
     (try (have c14b1 : decide (t929 = t933) = true := by simpa using c14))
     (try (have c14b2 : (t929 == t933) = true := by simpa using c14))
     clear c14
     (first | rw [c14b0] | (simp only [i64_w, i32_w]; rw [c14b0]) | skip)
     have H' := Aside0.mk H; clear H; obtain ⟨Ao17, co17, eo17⟩ := Kd.R_slice HO931.out; subst eo17; obtain ⟨Ao18, co18, eo18⟩ := Kd.R_slice HO935.out; subst eo18; go_wp2_with (first | ((with_reducible refine gate_callee (f := 41) rfl ?_); refine goesL_ (some 34) rfl rfl Try.func41 (by kernel_rfl) rfl #[.slice Ao17 t928.length co17, .slice Ao18 t932.length co18] rfl zl ?_; (with_reducible refine (laws_equalTurns.calls k _ _ t928 _ _ t932 true _ ?side1 ?side2 ?side3 ?side4 A12.out).mono ?_); (case side1 => repeat (first | exact (Kd.R_reads' HO931.out).2.2 | (with_reducible refine Kd.C_alloc ?_ _) | (with_reducible refine Kd.C_drewN ?_ _) | (with_reducible refine Kd.C_drew ?_))); (case side2 => exact (Kd.R_reads' HO931.out).2.1); (case side3 => repeat (first | exact (Kd.R_reads' HO935.out).2.2 | (with_reducible refine Kd.C_alloc ?_ _) | (with_reducible refine Kd.C_drewN ?_ _) | (with_reducible refine Kd.C_drew ?_))); (case side4 => exact (Kd.R_reads' HO935.out).2.1); rintro e w' ⟨rfl, ⟨nd, rfl⟩⟩; refine ⟨_, rfl, ?_⟩)); go_meet
     case rel => exact ⟨_, (!t929), zr, H', ⟨by first | omega | exact Nat.le_refl _⟩, ⟨by (with_reducible repeat (first | apply Kd.R_alloc | apply Kd.R_drewN | apply Kd.R_drew)); exact Kd.R_mono HO925.out (fun _ hk => ⟨hk.1.1, ⟨hk.1.2, hk.2⟩⟩)⟩, ⟨by (with_reducible repeat (first | apply Kd.R_alloc | apply Kd.R_drewN | apply Kd.R_drew)); exact Kd.R_mono HO927.out (fun _ hk => ⟨hk.1.1, ⟨hk.1.2, hk.2⟩⟩)⟩, ⟨by (with_reducible repeat (first | apply Kd.R_alloc | apply Kd.R_drewN | apply Kd.R_drew)); exact Kd.R_mono HO931.out (fun _ hk => ⟨hk.1.1.2, ⟨hk.1.2, hk.2⟩⟩)⟩, ⟨by (with_reducible repeat (first | apply Kd.R_alloc | apply Kd.R_drewN | apply Kd.R_drew)); exact Kd.R_mono HO935.out (fun _ hk => ⟨hk.1.1.2, ⟨hk.1.2, hk.2⟩⟩)⟩, ⟨zB HB⟩⟩
   ·replace c13 := Bool.eq_false_iff.mpr c13; subst c13; rw [if_neg (show ¬ (false = true) by decide)] at H; have H' := Aside0.mk H; clear H; obtain ⟨Ao19, co19, eo19⟩ := Kd.R_slice HO931.out; subst eo19; obtain ⟨Ao20, co20, eo20⟩ := Kd.R_slice HO935.out; subst eo20; go_wp2_with (first | ((with_reducible refine gate_callee (f := 41) rfl ?_); refine goesL_ (some 34) rfl rfl Try.func41 (by kernel_rfl) rfl #[.slice Ao19 t928.length co19, .slice Ao20 t932.length co20] rfl zl ?_; (with_reducible refine (laws_equalTurns.calls k _ _ t928 _ _ t932 false _ ?side1 ?side2 ?side3 ?side4 A12.out).mono ?_); (case side1 => repeat (first | exact (Kd.R_reads' HO931.out).2.2 | (with_reducible refine Kd.C_alloc ?_ _) | (with_reducible refine Kd.C_drewN ?_ _) | (with_reducible refine Kd.C_drew ?_))); (case side2 => exact (Kd.R_reads' HO931.out).2.1); (case side3 => repeat (first | exact (Kd.R_reads' HO935.out).2.2 | (with_reducible refine Kd.C_alloc ?_ _) | (with_reducible refine Kd.C_drewN ?_ _) | (with_reducible refine Kd.C_drew ?_))); (case side4 => exact (Kd.R_reads' HO935.out).2.1); rintro e w' ⟨rfl, ⟨nd, rfl⟩⟩; refine ⟨_, rfl, ?_⟩)); go_meet
    case rel => exact ⟨_, (true), zr, H', ⟨by first | omega | exact Nat.le_refl _⟩, ⟨by (with_reducible repeat (first | apply Kd.R_alloc | apply Kd.R_drewN | apply Kd.R_drew)); exact Kd.R_mono HO925.out (fun _ hk => ⟨hk.1.1, ⟨hk.1.2, hk.2⟩⟩)⟩, ⟨by (with_reducible repeat (first | apply Kd.R_alloc | apply Kd.R_drewN | apply Kd.R_drew)); exact Kd.R_mono HO927.out (fun _ hk => ⟨hk.1.1, ⟨hk.1.2, hk.2⟩⟩)⟩, ⟨by (with_reducible repeat (first | apply Kd.R_alloc | apply Kd.R_drewN | apply Kd.R_drew)); exact Kd.R_mono HO931.out (fun _ hk => ⟨hk.1.1.2, ⟨hk.1.2, hk.2⟩⟩)⟩, ⟨by (with_reducible repeat (first | apply Kd.R_alloc | apply Kd.R_drewN | apply Kd.R_drew)); exact Kd.R_mono HO935.out (fun _ hk => ⟨hk.1.1.2, ⟨hk.1.2, hk.2⟩⟩)⟩, ⟨zB HB⟩⟩
  case rest =>
   clear HC6; (try clear c1); (try clear c2); (try clear c2b0); (try clear c2b1); (try clear p2); (try clear c3); (try clear c4); (try clear c9); (try clear c13); (try clear c14); (try clear c14b0); (try clear c14b1); (try clear c14b2); obtain ⟨kq, x44_5, rfl, HA, HJ5, HO_3, HO_4, HO_5, HO_7, HB⟩ := hcut
   cases kq with
   | zero => exact absurd HA.out (by simp [laws_FnThenTurn.j0])
   | succ kj5 =>
    have H := HA.out; clear HA; simp only [laws_FnThenTurn.j0] at H
    by_cases c21 : x44_5 = true
    ·subst c21; rw [if_pos rfl] at H; replace H := Option.bind_eq_some_iff.mp H; obtain ⟨t937, A220, H⟩ := H
     (try dsimp only at H)
     have A22 := Aside0.mk A220; clear A220
     by_cases c23 : t937 = true
     ·subst c23; rw [if_pos rfl] at H; obtain rfl := Option.some.inj H; obtain ⟨Ao24, co24, eo24⟩ := Kd.R_slice HO_5.out; subst eo24; obtain ⟨Ao25, co25, eo25⟩ := Kd.R_slice HO_7.out; subst eo25; go_wp2_with (first | ((with_reducible refine gate_callee (f := 41) rfl ?_); refine goesL_ (some 47) rfl rfl Try.func41 (by kernel_rfl) rfl #[.slice Ao24 t928.length co24, .slice Ao25 t932.length co25] rfl zl ?_; (with_reducible refine (laws_equalTurns.calls kj5 _ _ t928 _ _ t932 true _ ?side1 ?side2 ?side3 ?side4 A22.out).mono ?_); (case side1 => repeat (first | exact (Kd.R_reads' HO_5.out).2.2 | (with_reducible refine Kd.C_alloc ?_ _) | (with_reducible refine Kd.C_drewN ?_ _) | (with_reducible refine Kd.C_drew ?_))); (case side2 => exact (Kd.R_reads' HO_5.out).2.1); (case side3 => repeat (first | exact (Kd.R_reads' HO_7.out).2.2 | (with_reducible refine Kd.C_alloc ?_ _) | (with_reducible refine Kd.C_drewN ?_ _) | (with_reducible refine Kd.C_drew ?_))); (case side4 => exact (Kd.R_reads' HO_7.out).2.1); rintro e w' ⟨rfl, ⟨nd, rfl⟩⟩; refine ⟨_, rfl, ?_⟩)); go_ret; exact ⟨by first | rfl | (simp [errW_none, errW_some] <;> rfl) | (simp [*, errW_none, errW_some] <;> rfl), zB HB⟩
     ·replace c23 := Bool.eq_false_iff.mpr c23; subst c23; rw [if_neg (show ¬ (false = true) by decide)] at H; obtain rfl := Option.some.inj H; exact absurd HR_.out (by decide)
    ·replace c21 := Bool.eq_false_iff.mpr c21; subst c21; rw [if_neg (show ¬ (false = true) by decide)] at H; obtain ⟨y938, hy938⟩ : ∃ y_ : List (S33), y_ = (([(⟨(⟨#[97]⟩ : ByteArray), 1⟩ : S33), (⟨(⟨#[98]⟩ : ByteArray), 2⟩ : S33), (⟨(⟨#[99]⟩ : ByteArray), 3⟩ : S33), (⟨(⟨#[120]⟩ : ByteArray), 4⟩ : S33), (⟨(⟨#[100]⟩ : ByteArray), 5⟩ : S33), (⟨(⟨#[113]⟩ : ByteArray), 6⟩ : S33)] : List (S33))) := ⟨_, rfl⟩
     replace H : ((impl_TurnBack.f kj5 t922).bind fun t942 => ((impl_ThenTurn.f kj5 t922 t942).bind fun bt945 => ((impl_TurnFlat.f kj5 t928 ([] : List Int) y938).bind fun bt949 => ((impl_TurnFlat.f kj5 t922 ([] : List Int) y938).bind fun bt955 => ((impl_TurnFlat.f kj5 t923 bt955.1 bt955.2).bind fun bt961 => ((laws_equalFlat.f kj5 bt949.1 bt949.2 bt961.1 bt961.2).bind fun t967 => (if t967 = true then (if bt945.2 = true then (some ((bt945.1.length : Int) == 0)) else (some false)) else (some false)))))))) = some r := by first | (rw [hy938]; with_reducible exact H) | (have H2_ := (Option.bind_some _ _).symm.trans H; rw [hy938]; with_reducible exact H2_) | (have H2_ := (Option.bind_some _ _).symm.trans H; with_reducible exact H2_) | with_reducible exact H | (rw [hy938]; exact H) | exact H
     have Ny938 := Aside0.mk hy938; clear hy938; replace H := Option.bind_eq_some_iff.mp H; obtain ⟨t942, A260, H⟩ := H
     (try dsimp only at H)
     have A26 := Aside0.mk A260; clear A260; replace H := Option.bind_eq_some_iff.mp H; obtain ⟨⟨t945, t946⟩, A270, H⟩ := H
     (try dsimp only at H)
     have A27 := Aside0.mk A270; clear A270; replace H := Option.bind_eq_some_iff.mp H; obtain ⟨⟨t949, t952⟩, A280, H⟩ := H
     (try dsimp only at H)
     have A28 := Aside0.mk A280; clear A280; replace H := Option.bind_eq_some_iff.mp H; obtain ⟨⟨t955, t958⟩, A290, H⟩ := H
     (try dsimp only at H)
     have A29 := Aside0.mk A290; clear A290; replace H := Option.bind_eq_some_iff.mp H; obtain ⟨⟨t961, t964⟩, A300, H⟩ := H
     (try dsimp only at H)
     have A30 := Aside0.mk A300; clear A300; replace H := Option.bind_eq_some_iff.mp H; obtain ⟨t967, A310, H⟩ := H
     (try dsimp only at H)
     have A31 := Aside0.mk A310; clear A310
     by_cases c32 : t967 = true
     ·subst c32; rw [if_pos rfl] at H
      by_cases c33 : t946 = true
      ·subst c33; rw [if_pos rfl] at H; obtain rfl := Option.some.inj H
       try go_wp2_with (first | ((with_reducible refine gate_dst (N := 59) rfl ?_); refine Kd.R_lit k33 _ 33 ?hg (N := 59) ?hd (xs := ([(⟨(⟨#[97]⟩ : ByteArray), 1⟩ : S33), (⟨(⟨#[98]⟩ : ByteArray), 2⟩ : S33), (⟨(⟨#[99]⟩ : ByteArray), 3⟩ : S33), (⟨(⟨#[120]⟩ : ByteArray), 4⟩ : S33), (⟨(⟨#[100]⟩ : ByteArray), 5⟩ : S33), (⟨(⟨#[113]⟩ : ByteArray), 6⟩ : S33)] : List (S33))) (inner := [.string (⟨#[97]⟩ : ByteArray), .int .i64 1, .string (⟨#[98]⟩ : ByteArray), .int .i64 2, .string (⟨#[99]⟩ : ByteArray), .int .i64 3, .string (⟨#[120]⟩ : ByteArray), .int .i64 4, .string (⟨#[100]⟩ : ByteArray), .int .i64 5, .string (⟨#[113]⟩ : ByteArray), .int .i64 6]) (ok := fun _ => True) (okp := fun _ => True) ?hr ?hp (fun _ hk => hk) trivial (Below.refl _ _) (Nat.le_refl _) (by simp) ?_; (case hd => rfl); (case hg => rfl); (case hr => first | (go_simp; done) | (go_simp; rfl)); (case hp => exact (Reps.c2 (show Kd.M k33 _ _ _ (⟨(⟨#[97]⟩ : ByteArray), 1⟩ : S33) [.string (⟨#[97]⟩ : ByteArray), .int .i64 1] from (k33_mkM _ _ _ (⟨(⟨#[97]⟩ : ByteArray), 1⟩ : S33) )) (Reps.c2 (show Kd.M k33 _ _ _ (⟨(⟨#[98]⟩ : ByteArray), 2⟩ : S33) [.string (⟨#[98]⟩ : ByteArray), .int .i64 2] from (k33_mkM _ _ _ (⟨(⟨#[98]⟩ : ByteArray), 2⟩ : S33) )) (Reps.c2 (show Kd.M k33 _ _ _ (⟨(⟨#[99]⟩ : ByteArray), 3⟩ : S33) [.string (⟨#[99]⟩ : ByteArray), .int .i64 3] from (k33_mkM _ _ _ (⟨(⟨#[99]⟩ : ByteArray), 3⟩ : S33) )) (Reps.c2 (show Kd.M k33 _ _ _ (⟨(⟨#[120]⟩ : ByteArray), 4⟩ : S33) [.string (⟨#[120]⟩ : ByteArray), .int .i64 4] from (k33_mkM _ _ _ (⟨(⟨#[120]⟩ : ByteArray), 4⟩ : S33) )) (Reps.c2 (show Kd.M k33 _ _ _ (⟨(⟨#[100]⟩ : ByteArray), 5⟩ : S33) [.string (⟨#[100]⟩ : ByteArray), .int .i64 5] from (k33_mkM _ _ _ (⟨(⟨#[100]⟩ : ByteArray), 5⟩ : S33) )) (Reps.c2 (show Kd.M k33 _ _ _ (⟨(⟨#[113]⟩ : ByteArray), 6⟩ : S33) [.string (⟨#[113]⟩ : ByteArray), .int .i64 6] from (k33_mkM _ _ _ (⟨(⟨#[113]⟩ : ByteArray), 6⟩ : S33) )) (Reps.none _ _)))))))); intro v939 w34 ho35 hb hg_ hnew_; clear hg_ hnew_; (first | rw [← Ny938.out] at ho35 | (simp only [Int.reduceToNat] at ho35; rw [← Ny938.out] at ho35)); replace HO_3 := Aside0.mk (Kd.R_below (zo HO_3) hb); replace HO_4 := Aside0.mk (Kd.R_below (zo HO_4) hb); replace HO_5 := Aside0.mk (Kd.R_below (zo HO_5) hb); replace HO_7 := Aside0.mk (Kd.R_below (zo HO_7) hb); have HO940 := Aside0.mk (Kd.R_lower ho35 (below_size (zB HB))); replace HB := Aside0.mk (below_step (zB HB) hb); clear hb ho35; obtain ⟨Ao36, co36, eo36⟩ := Kd.R_slice HO940.out; subst eo36) | ((with_reducible refine gate_dst (N := 9) rfl ?_); refine zx (N := 9) (cs := #[.slice none 0 0, .slice none 0 0]) (t := 26) ?_; intro gb941 hg w37 hbox hb; replace HO_3 := Aside0.mk (Kd.R_below (zo HO_3) hb); replace HO_4 := Aside0.mk (Kd.R_below (zo HO_4) hb); replace HO_5 := Aside0.mk (Kd.R_below (zo HO_5) hb); replace HO_7 := Aside0.mk (Kd.R_below (zo HO_7) hb); replace HO940 := Aside0.mk (Kd.R_below (zo HO940) hb); have BK941 := Aside0.mk (hbox); have GW941 := Aside0.mk ((by rw [hg]; exact (below_size (zB HB)) : w.heap.size ≤ gb941)); have GE941 := GW941; replace HB := Aside0.mk (below_step (zB HB) hb); clear hb hbox hg; have hcz38_0 : w37.cell? ⟨gb941, 0, none⟩ = some (.slice none 0 0) := (blk_cell BK941.out 0).trans rfl; have hcz38_1 : w37.cell? ⟨gb941, 1, none⟩ = some (.slice none 0 0) := (blk_cell BK941.out 1).trans rfl; have hfz38_0 := blk_frozen BK941.out 0; have hfz38_1 := blk_frozen BK941.out 1) | ((with_reducible refine gate_callee (f := 42) rfl ?_); refine goesL_ (some 64) rfl rfl Try.func42 (by kernel_rfl) rfl #[.slice Ao8 t922.length co8] rfl zl ?_; (with_reducible refine (impl_TurnBack.calls kj5 _ _ t922 t942 _ ?side1 ?side2 A26.out).mono ?_); (case side1 => refine (Kd.R_reads' (e := 107) (base := w.heap.size) (ok := fun k_ => (some k_ ≠ (.slice Ao9 t923.length co9 : Value).ownBlock ∧ (some k_ ≠ (v930 : Value).ownBlock ∧ some k_ ≠ (v934 : Value).ownBlock))) (n := t922.length) (c := co8) ?_).2.2; exact (by (with_reducible repeat (first | apply Kd.R_alloc | apply Kd.R_drewN | apply Kd.R_drew)); exact (Kd.R_mono (Kd.R_far (p := ⟨gb941, 1, none⟩) (Kd.R_far (p := ⟨gb941, 0, none⟩) (Kd.R_types HO_3.out BK941.out (by decide)) (fun _ hk => hk.2) (.slice none 0 0)) (fun _ hk => hk.2) (.slice Ao36 y938.length co36)) (fun _ h_ => h_.1)))); (case side2 => exact (Kd.R_reads' HO_3.out).2.1); rintro e w39 ⟨v943, rfl, ho0, hb⟩; refine ⟨_, rfl, ?_⟩; replace HO940 := Aside0.mk (Kd.R_below (by (with_reducible repeat (first | apply Kd.R_alloc | apply Kd.R_drewN | apply Kd.R_drew)); exact (Kd.R_mono (Kd.R_far (p := ⟨gb941, 1, none⟩) (Kd.R_far (p := ⟨gb941, 0, none⟩) (Kd.R_types HO940.out BK941.out (by decide)) (fun _ hk => hk.2) (.slice none 0 0)) (fun _ hk => hk.2) (.slice Ao36 y938.length co36)) (fun _ h_ => h_.1))) hb); have HO944 := Aside0.mk (Kd.R_lower (Kd.R_new' (Kd.R_new' (Kd.R_new' (Kd.R_new' ho0 (Kd.R_lt (by (with_reducible repeat (first | apply Kd.R_alloc | apply Kd.R_drewN | apply Kd.R_drew)); exact (Kd.R_mono (Kd.R_far (p := ⟨gb941, 1, none⟩) (Kd.R_far (p := ⟨gb941, 0, none⟩) (Kd.R_types HO_3.out BK941.out (by decide)) (fun _ hk => hk.2) (.slice none 0 0)) (fun _ hk => hk.2) (.slice Ao36 y938.length co36)) (fun _ h_ => h_.1))))) (Kd.R_lt (by (with_reducible repeat (first | apply Kd.R_alloc | apply Kd.R_drewN | apply Kd.R_drew)); exact (Kd.R_mono (Kd.R_far (p := ⟨gb941, 1, none⟩) (Kd.R_far (p := ⟨gb941, 0, none⟩) (Kd.R_types HO_4.out BK941.out (by decide)) (fun _ hk => hk.2) (.slice none 0 0)) (fun _ hk => hk.2) (.slice Ao36 y938.length co36)) (fun _ h_ => h_.1))))) (Kd.R_lt (by (with_reducible repeat (first | apply Kd.R_alloc | apply Kd.R_drewN | apply Kd.R_drew)); exact (Kd.R_mono (Kd.R_far (p := ⟨gb941, 1, none⟩) (Kd.R_far (p := ⟨gb941, 0, none⟩) (Kd.R_types HO_5.out BK941.out (by decide)) (fun _ hk => hk.2) (.slice none 0 0)) (fun _ hk => hk.2) (.slice Ao36 y938.length co36)) (fun _ h_ => h_.1))))) (Kd.R_lt (by (with_reducible repeat (first | apply Kd.R_alloc | apply Kd.R_drewN | apply Kd.R_drew)); exact (Kd.R_mono (Kd.R_far (p := ⟨gb941, 1, none⟩) (Kd.R_far (p := ⟨gb941, 0, none⟩) (Kd.R_types HO_7.out BK941.out (by decide)) (fun _ hk => hk.2) (.slice none 0 0)) (fun _ hk => hk.2) (.slice Ao36 y938.length co36)) (fun _ h_ => h_.1))))) (below_size (zB HB))); replace HO_3 := Aside0.mk (Kd.R_elder' (by (with_reducible repeat (first | apply Kd.R_alloc | apply Kd.R_drewN | apply Kd.R_drew)); exact (Kd.R_mono (Kd.R_far (p := ⟨gb941, 1, none⟩) (Kd.R_far (p := ⟨gb941, 0, none⟩) (Kd.R_types HO_3.out BK941.out (by decide)) (fun _ hk => hk.2) (.slice none 0 0)) (fun _ hk => hk.2) (.slice Ao36 y938.length co36)) (fun _ h_ => h_.1))) (Kd.R_base ho0) hb); replace HO_4 := Aside0.mk (Kd.R_elder' (by (with_reducible repeat (first | apply Kd.R_alloc | apply Kd.R_drewN | apply Kd.R_drew)); exact (Kd.R_mono (Kd.R_far (p := ⟨gb941, 1, none⟩) (Kd.R_far (p := ⟨gb941, 0, none⟩) (Kd.R_types HO_4.out BK941.out (by decide)) (fun _ hk => hk.2) (.slice none 0 0)) (fun _ hk => hk.2) (.slice Ao36 y938.length co36)) (fun _ h_ => h_.1))) (Kd.R_base ho0) hb); replace HO_5 := Aside0.mk (Kd.R_elder' (by (with_reducible repeat (first | apply Kd.R_alloc | apply Kd.R_drewN | apply Kd.R_drew)); exact (Kd.R_mono (Kd.R_far (p := ⟨gb941, 1, none⟩) (Kd.R_far (p := ⟨gb941, 0, none⟩) (Kd.R_types HO_5.out BK941.out (by decide)) (fun _ hk => hk.2) (.slice none 0 0)) (fun _ hk => hk.2) (.slice Ao36 y938.length co36)) (fun _ h_ => h_.1))) (Kd.R_base ho0) hb); replace HO_7 := Aside0.mk (Kd.R_elder' (by (with_reducible repeat (first | apply Kd.R_alloc | apply Kd.R_drewN | apply Kd.R_drew)); exact (Kd.R_mono (Kd.R_far (p := ⟨gb941, 1, none⟩) (Kd.R_far (p := ⟨gb941, 0, none⟩) (Kd.R_types HO_7.out BK941.out (by decide)) (fun _ hk => hk.2) (.slice none 0 0)) (fun _ hk => hk.2) (.slice Ao36 y938.length co36)) (fun _ h_ => h_.1))) (Kd.R_base ho0) hb); replace BK941 := Aside0.mk (blk_below (g := gb941) (o := .cells #[.slice none 0 0, .slice Ao36 y938.length co36] 26 (0, 0)) (by (with_reducible repeat (first | refine blk_drewN ?_ _ | refine blk_drew ?_ | refine blk_alloc ?_ _)); refine blk_put (cs := #[.slice none 0 0, .slice none 0 0]) ?_ 1 _ rfl; (with_reducible repeat (first | refine blk_drewN ?_ _ | refine blk_drew ?_ | refine blk_alloc ?_ _)); refine blk_put (cs := #[.slice none 0 0, .slice none 0 0]) ?_ 0 _ rfl; (with_reducible repeat (first | refine blk_drewN ?_ _ | refine blk_drew ?_ | refine blk_alloc ?_ _)); exact BK941.out) hb); replace HB := Aside0.mk (below_step (zB HB) hb); (try clear hb); (try clear hb2); (try clear hk); (try clear hi); (try clear ho0); obtain ⟨Ao40, co40, eo40⟩ := Kd.R_slice HO944.out; subst eo40) | ((with_reducible refine gate_callee (f := 36) rfl ?_); refine goesL_ (some 65) rfl rfl Try.func36 (by kernel_rfl) rfl #[.slice Ao8 t922.length co8, .slice Ao40 t942.length co40] rfl zl ?_; (with_reducible refine (impl_ThenTurn.calls kj5 _ _ t922 _ _ t942 t945 true _ ?side1 ?side2 ?side3 ?side4 A27.out).mono ?_); (case side1 => repeat (first | exact (Kd.R_reads' HO_3.out).2.2 | (with_reducible refine Kd.C_alloc ?_ _) | (with_reducible refine Kd.C_drewN ?_ _) | (with_reducible refine Kd.C_drew ?_))); (case side2 => exact (Kd.R_reads' HO_3.out).2.1); (case side3 => repeat (first | exact (Kd.R_reads' HO944.out).2.2 | (with_reducible refine Kd.C_alloc ?_ _) | (with_reducible refine Kd.C_drewN ?_ _) | (with_reducible refine Kd.C_drew ?_))); (case side4 => exact (Kd.R_reads' HO944.out).2.1); rintro e w41 ⟨v947, rfl, ho0, hb⟩; refine ⟨_, rfl, ?_⟩; replace HO940 := Aside0.mk (Kd.R_below (zo HO940) hb); have HO948 := Aside0.mk (Kd.R_lower (Kd.R_new' (Kd.R_new' (Kd.R_new' (Kd.R_new' (Kd.R_new' ho0 (Kd.R_lt (zo HO_3))) (Kd.R_lt (zo HO_4))) (Kd.R_lt (zo HO_5))) (Kd.R_lt (zo HO_7))) (Kd.R_lt (zo HO944))) (below_size (zB HB))); replace HO_3 := Aside0.mk (Kd.R_elder' (zo HO_3) (Kd.R_base ho0) hb); replace HO_4 := Aside0.mk (Kd.R_elder' (zo HO_4) (Kd.R_base ho0) hb); replace HO_5 := Aside0.mk (Kd.R_elder' (zo HO_5) (Kd.R_base ho0) hb); replace HO_7 := Aside0.mk (Kd.R_elder' (zo HO_7) (Kd.R_base ho0) hb); replace HO944 := Aside0.mk (Kd.R_elder' (zo HO944) (Kd.R_base ho0) hb); replace BK941 := Aside0.mk (blk_below (g := gb941) (o := .cells #[.slice none 0 0, .slice Ao36 y938.length co36] 26 (0, 0)) (zb BK941) hb); replace HB := Aside0.mk (below_step (zB HB) hb); (try clear hb); (try clear hb2); (try clear hk); (try clear hi); (try clear ho0)))
       replace HO_3 := Aside0.mk (Kd.R_drew HO_3.out); replace HO_4 := Aside0.mk (Kd.R_drew HO_4.out); replace HO_5 := Aside0.mk (Kd.R_drew HO_5.out); replace HO_7 := Aside0.mk (Kd.R_drew HO_7.out); replace HO940 := Aside0.mk (Kd.R_drew HO940.out); replace HO944 := Aside0.mk (Kd.R_drew HO944.out); replace HO948 := Aside0.mk (Kd.R_drew HO948.out); replace BK941 := Aside0.mk (blk_drew BK941.out); replace HB := Aside0.mk (below_drew1 HB.out); obtain ⟨Ao43, co43, eo43⟩ := Kd.R_slice HO_5.out
       (first | subst eo43 | (injection eo43 with f1_ f2_ f3_; have f4_ := f1_.symm; have f5_ := f3_.symm; clear f1_ f2_ f3_; subst f4_; subst f5_))
       refine start_ (n := 18) (S := fun w' => w'.cell? ⟨gb941, 0, none⟩ = some (.slice none 0 0) ∧ w'.cell? ⟨gb941, 1, none⟩ = some (.slice Ao36 y938.length co36)) (ds := []) #[false, false, false, false, false, false, false, false, false, false, false, false, false, false, false, false, false, false] (by kernel_rfl) rfl rfl ⟨(blk_cell BK941.out 0).trans rfl, (blk_cell BK941.out 1).trans rfl⟩ (fun hHeld => ?_); refine with_tabW laws_FnThenTurn.tab10 laws_FnThenTurn.bits10 (fun HT_ HW_ => ?_); generalize w41.drew = w42 at HO_3 HO_4 HO_5 HO_7 HO940 HO944 HO948 BK941 HB hHeld ⊢; refine pure_ (i := 0) (N := some 68) (v := ?_) (a' := ?_) #[true, false, false, false, false, false, false, false, false, false, false, false, false, false, false, false, false, false] rfl rfl (any_of HT_.out (by kernel_rfl)) (fun _ _ _ h => h) (Or.inl ⟨by rfl, ?_⟩) ?_ ?_; rotate_left
       ·intro w'; go_simp; with_reducible rfl
       rotate_left
       ·simp only [Act.put, List.setIfInBounds_toArray, List.set_cons_zero, List.set_cons_succ, i64_w, i32_w]; rfl
       refine pure_ (i := 3) (N := some 71) (v := ?_) (a' := ?_) #[true, false, false, true, false, false, false, false, false, false, false, false, false, false, false, false, false, false] rfl rfl (any_of HT_.out (by kernel_rfl)) (fun _ _ _ h => h) (Or.inl ⟨by rfl, ?_⟩) ?_ ?_; rotate_left
       ·intro w'; go_simp; with_reducible rfl
       rotate_left
       ·simp only [Act.put, List.setIfInBounds_toArray, List.set_cons_zero, List.set_cons_succ, i64_w, i32_w]; rfl
       refine pure_ (i := 4) (N := some 72) (v := ?_) (a' := ?_) #[true, false, false, true, true, false, false, false, false, false, false, false, false, false, false, false, false, false] rfl rfl (any_of HT_.out (by kernel_rfl)) (fun _ _ _ h => h) (Or.inl ⟨by rfl, ?_⟩) ?_ ?_; rotate_left
       ·intro w'; go_simp; with_reducible rfl
       rotate_left
       ·simp only [Act.put, List.setIfInBounds_toArray, List.set_cons_zero, List.set_cons_succ, i64_w, i32_w]; rfl
       refine take_ (i := 1) (N := some 69) (v := ?_) (a' := ?_) #[true, true, false, true, true, false, false, false, false, false, false, false, false, false, false, false, false, false] rfl rfl (take_ofW HT_.out HW_.out (by kernel_rfl)) (fun _ _ _ h => h) (Or.inl ⟨by rfl, ?_⟩) hHeld ?_ ?_; rotate_left
       ·rintro w' ⟨s0, s1⟩; go_simp; with_reducible rfl
       rotate_left
       ·simp only [Act.put, List.setIfInBounds_toArray, List.set_cons_zero, List.set_cons_succ, i64_w, i32_w]; rfl
       refine take_ (i := 5) (N := some 73) (v := ?_) (a' := ?_) #[true, true, false, true, true, true, false, false, false, false, false, false, false, false, false, false, false, false] rfl rfl (take_ofW HT_.out HW_.out (by kernel_rfl)) (fun _ _ _ h => h) (Or.inl ⟨by rfl, ?_⟩) hHeld ?_ ?_; rotate_left
       ·rintro w' ⟨s0, s1⟩; go_simp; with_reducible rfl
       rotate_left
       ·simp only [Act.put, List.setIfInBounds_toArray, List.set_cons_zero, List.set_cons_succ, i64_w, i32_w]; rfl
       refine one_ (i := 2) (N := some 70) #[true, true, true, true, true, true, false, false, false, false, false, false, false, false, false, false, false, false] rfl rfl (one_of HT_.out (by kernel_rfl)) (by decide) (fun K hK => ?_); refine goes_ Try.func43 (by kernel_rfl) rfl #[.slice Ao43 t928.length co43, .agg #[.slice none 0 0, .slice Ao36 y938.length co36]] (by rfl) rfl rfl zl ?_; refine (impl_TurnFlat.calls kj5 _ _ t928 _ _ ([] : List Int) _ _ y938 t949 t952 _ ?side1 ?side2 ?side3 ?side4 ?side5 ?side6 A28.out).mono ?_
       (case side1 => repeat (first | exact (Kd.R_reads' HO_5.out).2.2 | (with_reducible refine Kd.C_alloc ?_ _) | (with_reducible refine Kd.C_drewN ?_ _) | (with_reducible refine Kd.C_drew ?_)))
       (case side2 => exact (Kd.R_reads' HO_5.out).2.1)
       (case side3 => exact Kd.C_nil _ _)
       (case side4 => exact Nat.le_refl _)
       (case side5 => repeat (first | exact (Kd.R_reads' HO940.out).2.2 | (with_reducible refine Kd.C_alloc ?_ _) | (with_reducible refine Kd.C_drewN ?_ _) | (with_reducible refine Kd.C_drew ?_)))
       (case side6 => exact (Kd.R_reads' HO940.out).2.1)
       rintro e w44 ⟨v950, v953, rfl, ho0, ho1, hb⟩; refine ⟨_, rfl, ?_⟩; replace HO_3 := Aside0.mk (Kd.R_below (zo HO_3) hb); replace HO_4 := Aside0.mk (Kd.R_below (zo HO_4) hb); replace HO_5 := Aside0.mk (Kd.R_below (zo HO_5) hb); replace HO_7 := Aside0.mk (Kd.R_below (zo HO_7) hb); replace HO944 := Aside0.mk (Kd.R_below (zo HO944) hb); replace HO948 := Aside0.mk (Kd.R_below (zo HO948) hb); have HO951 := Aside0.mk (Kd.R_lower ho0 (below_size (zB HB))); have HO954 := Aside0.mk (Kd.R_lower (Kd.R_new' ho1 (Kd.R_lt (zo HO940))) (below_size (zB HB))); replace HO940 := Aside0.mk (Kd.R_elder' (zo HO940) (Kd.R_base ho1) hb); replace BK941 := Aside0.mk (blk_below (g := gb941) (o := .cells #[.slice none 0 0, .slice Ao36 y938.length co36] 26 (0, 0)) (zb BK941) hb); replace HB := Aside0.mk (below_step (zB HB) hb); (try clear hb); (try clear hb2); (try clear hk); (try clear hi); (try clear ho0); (try clear ho1); refine hK.out _ _ ⟨(blk_cell BK941.out 0).trans rfl, (blk_cell BK941.out 1).trans rfl⟩ (fun hHeld => ?_); clear hK K; refine norm_ (a' := ?_) ?_ ?_; rotate_left
       ·show Act.put _ (some 70) _ = _
        simp only [Act.put, List.setIfInBounds_toArray, List.set_cons_zero, List.set_cons_succ, i64_w, i32_w]; rfl
       refine one_ (i := 6) (N := some 74) #[true, true, true, true, true, true, true, false, false, false, false, false, false, false, false, false, false, false] rfl rfl (one_of HT_.out (by kernel_rfl)) (by decide) (fun K hK => ?_); refine goes_ Try.func43 (by kernel_rfl) rfl #[.slice Ao8 t922.length co8, .agg #[.slice none 0 0, .slice Ao36 y938.length co36]] (by rfl) rfl rfl zl ?_; refine (impl_TurnFlat.calls kj5 _ _ t922 _ _ ([] : List Int) _ _ y938 t955 t958 _ ?side1 ?side2 ?side3 ?side4 ?side5 ?side6 A29.out).mono ?_
       (case side1 => repeat (first | exact (Kd.R_reads' HO_3.out).2.2 | (with_reducible refine Kd.C_alloc ?_ _) | (with_reducible refine Kd.C_drewN ?_ _) | (with_reducible refine Kd.C_drew ?_)))
       (case side2 => exact (Kd.R_reads' HO_3.out).2.1)
       (case side3 => exact Kd.C_nil _ _)
       (case side4 => exact Nat.le_refl _)
       (case side5 => repeat (first | exact (Kd.R_reads' HO940.out).2.2 | (with_reducible refine Kd.C_alloc ?_ _) | (with_reducible refine Kd.C_drewN ?_ _) | (with_reducible refine Kd.C_drew ?_)))
       (case side6 => exact (Kd.R_reads' HO940.out).2.1)
       rintro e w45 ⟨v956, v959, rfl, ho0, ho1, hb⟩; refine ⟨_, rfl, ?_⟩; replace HO_3 := Aside0.mk (Kd.R_below (zo HO_3) hb); replace HO_4 := Aside0.mk (Kd.R_below (zo HO_4) hb); replace HO_5 := Aside0.mk (Kd.R_below (zo HO_5) hb); replace HO_7 := Aside0.mk (Kd.R_below (zo HO_7) hb); replace HO944 := Aside0.mk (Kd.R_below (zo HO944) hb); replace HO948 := Aside0.mk (Kd.R_below (zo HO948) hb); have HO957 := Aside0.mk (Kd.R_lower (Kd.R_new' ho0 (Kd.R_lt (zo HO951))) (below_size (zB HB))); replace HO951 := Aside0.mk (Kd.R_elder' (zo HO951) (Kd.R_base ho0) hb); have HO960 := Aside0.mk (Kd.R_lower (Kd.R_new' (Kd.R_new' ho1 (Kd.R_lt (zo HO940))) (Kd.R_lt (zo HO954))) (below_size (zB HB))); replace HO940 := Aside0.mk (Kd.R_elder' (zo HO940) (Kd.R_base ho1) hb); replace HO954 := Aside0.mk (Kd.R_elder' (zo HO954) (Kd.R_base ho1) hb); replace BK941 := Aside0.mk (blk_below (g := gb941) (o := .cells #[.slice none 0 0, .slice Ao36 y938.length co36] 26 (0, 0)) (zb BK941) hb); replace HB := Aside0.mk (below_step (zB HB) hb); (try clear hb); (try clear hb2); (try clear hk); (try clear hi); (try clear ho0); (try clear ho1); obtain ⟨Ao46, co46, eo46⟩ := Kd.R_slice HO957.out
       (first | subst eo46 | (injection eo46 with f1_ f2_ f3_; have f4_ := f1_.symm; have f5_ := f3_.symm; clear f1_ f2_ f3_; subst f4_; subst f5_))
       obtain ⟨Ao47, co47, eo47⟩ := Kd.R_slice HO960.out
       (first | subst eo47 | (injection eo47 with f1_ f2_ f3_; have f4_ := f1_.symm; have f5_ := f3_.symm; clear f1_ f2_ f3_; subst f4_; subst f5_))
       refine hK.out _ _ ⟨(blk_cell BK941.out 0).trans rfl, (blk_cell BK941.out 1).trans rfl⟩ (fun hHeld => ?_); clear hK K; refine norm_ (a' := ?_) ?_ ?_; rotate_left
       ·show Act.put _ (some 74) _ = _
        simp only [Act.put, List.setIfInBounds_toArray, List.set_cons_zero, List.set_cons_succ, i64_w, i32_w]; rfl
       refine one_ (i := 7) (N := some 75) #[true, true, true, true, true, true, true, true, false, false, false, false, false, false, false, false, false, false] rfl rfl (one_of HT_.out (by kernel_rfl)) (by decide) (fun K hK => ?_); refine goes_ Try.func43 (by kernel_rfl) rfl #[.slice Ao9 t923.length co9, .agg #[.slice Ao46 t955.length co46, .slice Ao47 t958.length co47]] (by rfl) rfl rfl zl ?_; with_reducible refine (impl_TurnFlat.calls kj5 _ _ t923 _ _ t955 _ _ t958 t961 t964 _ ?side1 ?side2 ?side3 ?side4 ?side5 ?side6 A30.out).mono ?_
       (case side1 => repeat (first | exact (Kd.R_reads' HO_4.out).2.2 | (with_reducible refine Kd.C_alloc ?_ _) | (with_reducible refine Kd.C_drewN ?_ _) | (with_reducible refine Kd.C_drew ?_)))
       (case side2 => exact (Kd.R_reads' HO_4.out).2.1)
       (case side3 => repeat (first | exact (Kd.R_reads' HO957.out).2.2 | (with_reducible refine Kd.C_alloc ?_ _) | (with_reducible refine Kd.C_drewN ?_ _) | (with_reducible refine Kd.C_drew ?_)))
       (case side4 => exact (Kd.R_reads' HO957.out).2.1)
       (case side5 => repeat (first | exact (Kd.R_reads' HO960.out).2.2 | (with_reducible refine Kd.C_alloc ?_ _) | (with_reducible refine Kd.C_drewN ?_ _) | (with_reducible refine Kd.C_drew ?_)))
       (case side6 => exact (Kd.R_reads' HO960.out).2.1)
       rintro e w48 ⟨v962, v965, rfl, ho0, ho1, hb⟩; refine ⟨_, rfl, ?_⟩; replace HO_3 := Aside0.mk (Kd.R_below (zo HO_3) hb); replace HO_4 := Aside0.mk (Kd.R_below (zo HO_4) hb); replace HO_5 := Aside0.mk (Kd.R_below (zo HO_5) hb); replace HO_7 := Aside0.mk (Kd.R_below (zo HO_7) hb); replace HO944 := Aside0.mk (Kd.R_below (zo HO944) hb); replace HO948 := Aside0.mk (Kd.R_below (zo HO948) hb); have HO963 := Aside0.mk (Kd.R_lower (Kd.R_new' (Kd.R_new' ho0 (Kd.R_lt (zo HO951))) (Kd.R_lt (zo HO957))) (below_size (zB HB))); replace HO951 := Aside0.mk (Kd.R_elder' (zo HO951) (Kd.R_base ho0) hb); replace HO957 := Aside0.mk (Kd.R_elder' (zo HO957) (Kd.R_base ho0) hb); have HO966 := Aside0.mk (Kd.R_lower (Kd.R_new' (Kd.R_new' (Kd.R_new' ho1 (Kd.R_lt (zo HO940))) (Kd.R_lt (zo HO954))) (Kd.R_lt (zo HO960))) (below_size (zB HB))); replace HO940 := Aside0.mk (Kd.R_elder' (zo HO940) (Kd.R_base ho1) hb); replace HO954 := Aside0.mk (Kd.R_elder' (zo HO954) (Kd.R_base ho1) hb); replace HO960 := Aside0.mk (Kd.R_elder' (zo HO960) (Kd.R_base ho1) hb); replace BK941 := Aside0.mk (blk_below (g := gb941) (o := .cells #[.slice none 0 0, .slice Ao36 y938.length co36] 26 (0, 0)) (zb BK941) hb); replace HB := Aside0.mk (below_step (zB HB) hb); (try clear hb); (try clear hb2); (try clear hk); (try clear hi); (try clear ho0); (try clear ho1); obtain ⟨Ao49, co49, eo49⟩ := Kd.R_slice HO951.out
       (first | subst eo49 | (injection eo49 with f1_ f2_ f3_; have f4_ := f1_.symm; have f5_ := f3_.symm; clear f1_ f2_ f3_; subst f4_; subst f5_))
       obtain ⟨Ao50, co50, eo50⟩ := Kd.R_slice HO954.out
       (first | subst eo50 | (injection eo50 with f1_ f2_ f3_; have f4_ := f1_.symm; have f5_ := f3_.symm; clear f1_ f2_ f3_; subst f4_; subst f5_))
       obtain ⟨Ao51, co51, eo51⟩ := Kd.R_slice HO963.out
       (first | subst eo51 | (injection eo51 with f1_ f2_ f3_; have f4_ := f1_.symm; have f5_ := f3_.symm; clear f1_ f2_ f3_; subst f4_; subst f5_))
       obtain ⟨Ao52, co52, eo52⟩ := Kd.R_slice HO966.out
       (first | subst eo52 | (injection eo52 with f1_ f2_ f3_; have f4_ := f1_.symm; have f5_ := f3_.symm; clear f1_ f2_ f3_; subst f4_; subst f5_))
       refine hK.out _ _ ⟨(blk_cell BK941.out 0).trans rfl, (blk_cell BK941.out 1).trans rfl⟩ (fun hHeld => ?_); clear hK K; refine norm_ (a' := ?_) ?_ ?_; rotate_left
       ·show Act.put _ (some 75) _ = _
        simp only [Act.put, List.setIfInBounds_toArray, List.set_cons_zero, List.set_cons_succ, i64_w, i32_w]; rfl
       refine one_ (i := 8) (N := some 76) #[true, true, true, true, true, true, true, true, true, false, false, false, false, false, false, false, false, false] rfl rfl (one_of HT_.out (by kernel_rfl)) (by decide) (fun K hK => ?_); refine goes_ Try.func15 (by kernel_rfl) rfl #[.agg #[.slice Ao49 t949.length co49, .slice Ao50 t952.length co50], .agg #[.slice Ao51 t961.length co51, .slice Ao52 t964.length co52]] (by rfl) rfl rfl zl ?_; with_reducible refine (laws_equalFlat.calls kj5 _ _ t949 _ _ t952 _ _ t961 _ _ t964 true _ ?side1 ?side2 ?side3 ?side4 ?side5 ?side6 ?side7 ?side8 A31.out).mono ?_
       (case side1 => repeat (first | exact (Kd.R_reads' HO951.out).2.2 | (with_reducible refine Kd.C_alloc ?_ _) | (with_reducible refine Kd.C_drewN ?_ _) | (with_reducible refine Kd.C_drew ?_)))
       (case side2 => exact (Kd.R_reads' HO951.out).2.1)
       (case side3 => repeat (first | exact (Kd.R_reads' HO954.out).2.2 | (with_reducible refine Kd.C_alloc ?_ _) | (with_reducible refine Kd.C_drewN ?_ _) | (with_reducible refine Kd.C_drew ?_)))
       (case side4 => exact (Kd.R_reads' HO954.out).2.1)
       (case side5 => repeat (first | exact (Kd.R_reads' HO963.out).2.2 | (with_reducible refine Kd.C_alloc ?_ _) | (with_reducible refine Kd.C_drewN ?_ _) | (with_reducible refine Kd.C_drew ?_)))
       (case side6 => exact (Kd.R_reads' HO963.out).2.1)
       (case side7 => repeat (first | exact (Kd.R_reads' HO966.out).2.2 | (with_reducible refine Kd.C_alloc ?_ _) | (with_reducible refine Kd.C_drewN ?_ _) | (with_reducible refine Kd.C_drew ?_)))
       (case side8 => exact (Kd.R_reads' HO966.out).2.1)
       rintro e w53 ⟨rfl, hb⟩; refine ⟨_, rfl, ?_⟩; replace HO_3 := Aside0.mk (Kd.R_below (zo HO_3) hb); replace HO_4 := Aside0.mk (Kd.R_below (zo HO_4) hb); replace HO_5 := Aside0.mk (Kd.R_below (zo HO_5) hb); replace HO_7 := Aside0.mk (Kd.R_below (zo HO_7) hb); replace HO940 := Aside0.mk (Kd.R_below (zo HO940) hb); replace HO944 := Aside0.mk (Kd.R_below (zo HO944) hb); replace HO948 := Aside0.mk (Kd.R_below (zo HO948) hb); replace HO951 := Aside0.mk (Kd.R_below (zo HO951) hb); replace HO954 := Aside0.mk (Kd.R_below (zo HO954) hb); replace HO957 := Aside0.mk (Kd.R_below (zo HO957) hb); replace HO960 := Aside0.mk (Kd.R_below (zo HO960) hb); replace HO963 := Aside0.mk (Kd.R_below (zo HO963) hb); replace HO966 := Aside0.mk (Kd.R_below (zo HO966) hb); replace BK941 := Aside0.mk (blk_below (g := gb941) (o := .cells #[.slice none 0 0, .slice Ao36 y938.length co36] 26 (0, 0)) (zb BK941) hb); replace HB := Aside0.mk (below_step (zB HB) hb); (try clear hb); (try clear hb2); (try clear hk); (try clear hi); obtain ⟨Ao54, co54, eo54⟩ := Kd.R_slice HO948.out
       (first | subst eo54 | (injection eo54 with f1_ f2_ f3_; have f4_ := f1_.symm; have f5_ := f3_.symm; clear f1_ f2_ f3_; subst f4_; subst f5_))
       refine hK.out _ _ ⟨(blk_cell BK941.out 0).trans rfl, (blk_cell BK941.out 1).trans rfl⟩ (fun hHeld => ?_); clear hK K; refine norm_ (a' := ?_) ?_ ?_; rotate_left
       ·show Act.put _ (some 76) _ = _
        simp only [Act.put, List.setIfInBounds_toArray, List.set_cons_zero, List.set_cons_succ, i64_w, i32_w]; rfl
       refine pure_ (i := 9) (N := some 77) (v := ?_) (a' := ?_) #[true, true, true, true, true, true, true, true, true, true, false, false, false, false, false, false, false, false] rfl rfl (any_of HT_.out (by kernel_rfl)) (fun _ _ _ h => h) (Or.inl ⟨by rfl, ?_⟩) ?_ ?_; rotate_left
       ·intro w'; go_simp; with_reducible rfl
       rotate_left
       ·simp only [Act.put, List.setIfInBounds_toArray, List.set_cons_zero, List.set_cons_succ, i64_w, i32_w]; rfl
       refine pure_ (i := 10) (N := some 78) (v := ?_) (a' := ?_) #[true, true, true, true, true, true, true, true, true, true, true, false, false, false, false, false, false, false] rfl rfl (any_of HT_.out (by kernel_rfl)) (fun _ _ _ h => h) (Or.inl ⟨by rfl, ?_⟩) ?_ ?_; rotate_left
       ·intro w'; go_simp; with_reducible rfl
       rotate_left
       ·simp only [Act.put, List.setIfInBounds_toArray, List.set_cons_zero, List.set_cons_succ, i64_w, i32_w]; rfl
       refine pure_ (i := 11) (N := some 79) (v := ?_) (a' := ?_) #[true, true, true, true, true, true, true, true, true, true, true, true, false, false, false, false, false, false] rfl rfl (any_of HT_.out (by kernel_rfl)) (fun _ _ _ h => h) (Or.inl ⟨by rfl, ?_⟩) ?_ ?_; rotate_left
       ·intro w'; go_simp; with_reducible rfl
       rotate_left
       ·simp only [Act.put, List.setIfInBounds_toArray, List.set_cons_zero, List.set_cons_succ, i64_w, i32_w]; rfl
       refine pure_ (i := 12) (N := some 80) (v := ?_) (a' := ?_) #[true, true, true, true, true, true, true, true, true, true, true, true, true, false, false, false, false, false] rfl rfl (any_of HT_.out (by kernel_rfl)) (fun _ _ _ h => h) (Or.inl ⟨by rfl, ?_⟩) ?_ ?_; rotate_left
       ·intro w'; go_simp; with_reducible rfl
       rotate_left
       ·simp only [Act.put, List.setIfInBounds_toArray, List.set_cons_zero, List.set_cons_succ, i64_w, i32_w]; rfl
       refine pure_ (i := 13) (N := some 81) (v := ?_) (a' := ?_) #[true, true, true, true, true, true, true, true, true, true, true, true, true, true, false, false, false, false] rfl rfl (any_of HT_.out (by kernel_rfl)) (fun _ _ _ h => h) (Or.inl ⟨by rfl, ?_⟩) ?_ ?_; rotate_left
       ·intro w'; go_simp; with_reducible rfl
       rotate_left
       ·simp only [Act.put, List.setIfInBounds_toArray, List.set_cons_zero, List.set_cons_succ, i64_w, i32_w]; rfl
       refine pure_ (i := 14) (N := some 82) (v := ?_) (a' := ?_) #[true, true, true, true, true, true, true, true, true, true, true, true, true, true, true, false, false, false] rfl rfl (any_of HT_.out (by kernel_rfl)) (fun _ _ _ h => h) (Or.inl ⟨by rfl, ?_⟩) ?_ ?_; rotate_left
       ·intro w'; go_simp; with_reducible rfl
       rotate_left
       ·simp only [Act.put, List.setIfInBounds_toArray, List.set_cons_zero, List.set_cons_succ, i64_w, i32_w]; rfl
       refine pure_ (i := 15) (N := some 83) (v := ?_) (a' := ?_) #[true, true, true, true, true, true, true, true, true, true, true, true, true, true, true, true, false, false] rfl rfl (any_of HT_.out (by kernel_rfl)) (fun _ _ _ h => h) (Or.inl ⟨by rfl, ?_⟩) ?_ ?_; rotate_left
       ·intro w'; go_simp; with_reducible rfl
       rotate_left
       ·simp only [Act.put, List.setIfInBounds_toArray, List.set_cons_zero, List.set_cons_succ, i64_w, i32_w]; rfl
       refine pure_ (i := 16) (N := some 84) (v := ?_) (a' := ?_) #[true, true, true, true, true, true, true, true, true, true, true, true, true, true, true, true, true, false] rfl rfl (any_of HT_.out (by kernel_rfl)) (fun _ _ _ h => h) (Or.inl ⟨by rfl, ?_⟩) ?_ ?_; rotate_left
       ·intro w'; go_simp; with_reducible rfl
       rotate_left
       ·simp only [Act.put, List.setIfInBounds_toArray, List.set_cons_zero, List.set_cons_succ, i64_w, i32_w]; rfl
       refine pure_ (i := 17) (N := some 2) (v := ?_) (a' := ?_) #[true, true, true, true, true, true, true, true, true, true, true, true, true, true, true, true, true, true] rfl rfl (any_of HT_.out (by kernel_rfl)) (fun _ _ _ h => h) (Or.inl ⟨by rfl, ?_⟩) ?_ ?_; rotate_left
       ·intro w'; go_simp; with_reducible rfl
       rotate_left
       ·simp only [Act.put, List.setIfInBounds_toArray, List.set_cons_zero, List.set_cons_succ, i64_w, i32_w]; rfl
       refine done_ (done_of HT_.out (by kernel_rfl)) ?_
       try go_wp2
       go_ret; exact ⟨by first | rfl | (simp [errW_none, errW_some] <;> rfl) | (simp [*, errW_none, errW_some] <;> rfl), zB HB⟩
      ·replace c33 := Bool.eq_false_iff.mpr c33; subst c33; rw [if_neg (show ¬ (false = true) by decide)] at H; obtain rfl := Option.some.inj H; exact absurd HR_.out (by decide)
     ·replace c32 := Bool.eq_false_iff.mpr c32; subst c32; rw [if_neg (show ¬ (false = true) by decide)] at H; obtain rfl := Option.some.inj H; exact absurd HR_.out (by decide)

/-- THE ONE PURE STATEMENT of laws_FnThenTurn: yours. -/
def laws_FnThenTurn.Pure : Prop := ∀ (l0 : List Int), l0.length ≤ maxLen → l0.length * 1 ≤ 140737488351232 → (∀ x ∈ l0, (Lit.int .u8 x).wf = true) → ∃ k, laws_FnThenTurn.f k l0 = some true
theorem laws_FnThenTurn.walk (P : laws_FnThenTurn.Pure) (a0 : Option Addr) (len0 cap0 : Nat) (z0 : List Int) (w : World) (w0 : (a0 = none ∧ len0 = 0 ∧ cap0 = 0 ∧ z0 = []) ∨ ∃ x, a0 = some x ∧ len0 ≤ cap0 ∧ cap0 ≤ maxLen ∧ z0.length = cap0 ∧ (∀ i, i < z0.length → w.cell? (x.add i) = some (.int .u8 (z0.getD i 0))) ∧ ∀ n ∈ z0, (Lit.int .u8 n).wf = true) (y0 : len0 * 1 ≤ 140737488351232) :
  Calls Try.prog 9 #[.slice a0 len0 cap0] w fun e w' => e = .returned (.bool true) ∧ Below w.heap.size w w' := by
 obtain ⟨l0, rfl, hr0, hm0, hw0, hc0⟩ := ReadsInt.ofRowC w0; obtain ⟨k, h⟩ := P l0 hm0 y0 hw0; refine (laws_FnThenTurn.calls k _ _ l0 true w (Kd.C_of_reads (d := (0 : Int)) (h1 := fun _ => rfl) hr0) hc0 h rfl).mono ?_; rintro e w' ⟨rfl, hd⟩; exact ⟨rfl, hd⟩

end Go.Proofs.Ytfcpbgedgedalaa.Q

namespace Go.Proofs.Ytfcpbgedgedalaa.Q
open Go.RowKit Go.Proofs.YtfcpbgedgedalaaL.PrintWords Go.Proofs.YtfcpbgedgedalaaL.PrintLast Go.Proofs.YtfcpbgedgedalaaL.PrintMore
attribute [local go_sem] max2_int min2_int max_two min_two max_three min_three max_four min_four   -- for this text's walks alone
set_option linter.unusedVariables false
set_option linter.unusedSimpArgs false

/-! ### spec_validPairs: function 108 -/
def spec_validPairs.l0 : Nat → List (S33) → Int → Option (Bool)
 | 0, _, _ => none
 | k + 1, x0, x3 => if x3 < (x0.length : Int) then (if 0 ≤ x3 then ((spec_validName.f k ((rd_T33 x0 x3).f0)).bind fun t353 => (if t353 = true then ((spec_validNumber.f ((rd_T33 x0 x3).f1)).bind fun t355 => (if t355 = true then (spec_validPairs.l0 k x0 (wrap64 (x3 + 1))) else (some false))) else (some false))) else (none)) else (some true)
def spec_validPairs.f (k : Nat) (l0 : List (S33)) : Option (Bool) := spec_validPairs.l0 k l0 0
theorem spec_validPairs.mono_l : ∀ k, (∀ y0 y1, LeO (spec_validPairs.l0 k y0 y1) (spec_validPairs.l0 (k + 1) y0 y1))
 | 0 => fun _ _ r h => by simp [spec_validPairs.l0] at h
 | k + 1 => by
  have ih0 := spec_validPairs.mono_l k
  ·intro y0 y1; unfold spec_validPairs.l0
   repeat' first
   | (with_reducible exact ih0 _ _)
   | (with_reducible exact spec_validName.mono _ _)
   | (with_reducible exact LeO.refl _)
   | (with_reducible exact LeO.none _)
   | (with_reducible refine LeO.ite ?_ ?_)
   | (with_reducible refine LeO.bind ?_ (fun _ => ?_))
   | exact ih0 _ _
   | exact spec_validName.mono _ _
   | exact LeO.none _
   | refine LeO.ite ?_ ?_
   | refine LeO.bind ?_ (fun _ => ?_)
theorem spec_validPairs.mono : ∀ a0 k, LeO (spec_validPairs.f k a0) (spec_validPairs.f (k + 1) a0) := by
 intro a0 k; have ih0 := spec_validPairs.mono_l k; unfold spec_validPairs.f
 repeat' first
   | (with_reducible exact ih0 _ _)
   | (with_reducible exact spec_validName.mono _ _)
   | (with_reducible exact LeO.refl _)
   | (with_reducible exact LeO.none _)
   | (with_reducible refine LeO.ite ?_ ?_)
   | (with_reducible refine LeO.bind ?_ (fun _ => ?_))
   | exact ih0 _ _
   | exact spec_validName.mono _ _
   | exact LeO.none _
   | refine LeO.ite ?_ ?_
   | refine LeO.bind ?_ (fun _ => ?_)
set_option maxHeartbeats 8000000 in
set_option maxRecDepth 100000 in
theorem spec_validPairs.calls (k : Nat) (A0 : Option Addr) (c0 : Nat) (l0 : List (S33)) (r : Bool) (w : World) (hr0 : Kd.C k33 w A0 l0.length l0) (hc0 : l0.length ≤ c0) (h : spec_validPairs.f k l0 = some r) :
  Calls Try.prog 108 #[.slice A0 l0.length c0] w fun e w' => e = .returned (.bool r) ∧ Drawn0 w w' := by
 have HR0 := Aside0.mk hr0; have HC0 := Aside0.mk hc0; clear hr0 hc0; have H : (spec_validPairs.l0 k l0 0) = some r := h; clear h; have H' := Aside0.mk H; clear H; go_enter Try.func108, Try.ntmps108; go_wp2; go_loopg [3] k (fun kq v3 w' => ∃ (x3_1 : Int), v3 = .int .i64 x3_1 ∧ Aside0 (spec_validPairs.l0 kq l0 x3_1 = some r) ∧ Aside0 (kq ≤ k) ∧ Drawn0 w w')
 case atStart => exact ⟨(0), zr, H', ⟨Nat.le_refl _⟩, by repeat (first | exact Drawn0.refl _ | apply Drawn0.step)⟩
 case round =>
  clear H'; (try clear c1); obtain ⟨x3_1, rfl, HA, HK1, ⟨m1, rfl⟩⟩ := hrel
  cases gk with
  | zero => exact absurd HA.out (by simp [spec_validPairs.l0])
  | succ k1 =>
   have H := HA.out; clear HA; simp only [spec_validPairs.l0] at H
   by_cases c2 : x3_1 < (l0.length : Int)
   ·rw [if_pos c2] at H; have c2b0 : decide (x3_1 < (l0.length : Int)) = true := decide_eq_true c2; clear c2
    by_cases c3 : 0 ≤ x3_1
    ·rw [if_pos c3] at H; have c3b0 : decide (0 ≤ x3_1) = true := decide_eq_true c3; clear c3; replace H := Option.bind_eq_some_iff.mp H; obtain ⟨t353, A40, H⟩ := H
     (try dsimp only at H)
     have A4 := Aside0.mk A40; clear A40
     by_cases c5 : t353 = true
     ·subst c5; rw [if_pos rfl] at H; replace H := Option.bind_eq_some_iff.mp H; obtain ⟨t355, A60, H⟩ := H
      (try dsimp only at H)
      have A6 := Aside0.mk A60; clear A60
      by_cases c7 : t355 = true
      ·subst c7; rw [if_pos rfl] at H; have H' := Aside0.mk H; clear H; have p352 : 0 ≤ (x3_1 : Int) := of_decide_eq_true za; have q352 : x3_1 < (l0.length : Int) := of_decide_eq_true za; obtain ⟨ad352, e352, hx352_0, hx352_1⟩ := at_T33 HR0.out x3_1 p352 q352
       cases e352
       replace p352 := eq_true p352; replace q352 := eq_true q352; go_wp2_with (first | ((with_reducible refine gate_callee (f := 129) rfl ?_); refine goesL_ (some 15) rfl rfl Try.func129 (by kernel_rfl) rfl #[.string ((rd_T33 l0 x3_1).f0)] rfl zl ?_; (with_reducible refine (spec_validName.calls k1 ((rd_T33 l0 x3_1).f0) true _ A4.out).mono ?_); rintro e w' ⟨rfl, ⟨nd, rfl⟩⟩; refine ⟨_, rfl, ?_⟩; have p354 : 0 ≤ (x3_1 : Int) := of_decide_eq_true za; have q354 : x3_1 < (l0.length : Int) := of_decide_eq_true za; obtain ⟨ad354, e354, hx354_0, hx354_1⟩ := at_T33 HR0.out x3_1 p354 q354; obtain rfl : ad352 = ad354 := (by injection e354); replace p354 := eq_true p354; replace q354 := eq_true q354) | (go_at_call 127; (with_reducible refine (spec_validNumber.calls ((rd_T33 l0 x3_1).f1) true _ A6.out).mono ?_); rintro e w' ⟨rfl, ⟨nd, rfl⟩⟩)); go_roundg k1
       case measure => have := HK1.out; omega
       case rel => exact ⟨(wrap64 (x3_1 + 1)), zr, H', ⟨by have := HK1.out; omega⟩, by repeat (first | exact Drawn0.refl _ | apply Drawn0.step)⟩
      ·replace c7 := Bool.eq_false_iff.mpr c7; subst c7; rw [if_neg (show ¬ (false = true) by decide)] at H; obtain rfl := Option.some.inj H; have p352 : 0 ≤ (x3_1 : Int) := of_decide_eq_true za; have q352 : x3_1 < (l0.length : Int) := of_decide_eq_true za; obtain ⟨ad352, e352, hx352_0, hx352_1⟩ := at_T33 HR0.out x3_1 p352 q352
       cases e352
       replace p352 := eq_true p352; replace q352 := eq_true q352; go_wp2_with (first | ((with_reducible refine gate_callee (f := 129) rfl ?_); refine goesL_ (some 15) rfl rfl Try.func129 (by kernel_rfl) rfl #[.string ((rd_T33 l0 x3_1).f0)] rfl zl ?_; (with_reducible refine (spec_validName.calls k1 ((rd_T33 l0 x3_1).f0) true _ A4.out).mono ?_); rintro e w' ⟨rfl, ⟨nd, rfl⟩⟩; refine ⟨_, rfl, ?_⟩; have p354 : 0 ≤ (x3_1 : Int) := of_decide_eq_true za; have q354 : x3_1 < (l0.length : Int) := of_decide_eq_true za; obtain ⟨ad354, e354, hx354_0, hx354_1⟩ := at_T33 HR0.out x3_1 p354 q354; obtain rfl : ad352 = ad354 := (by injection e354); replace p354 := eq_true p354; replace q354 := eq_true q354) | (go_at_call 127; (with_reducible refine (spec_validNumber.calls ((rd_T33 l0 x3_1).f1) false _ A6.out).mono ?_); rintro e w' ⟨rfl, ⟨nd, rfl⟩⟩)); go_ret; exact ⟨by first | rfl | (simp; done) | (simp [*]; done), by repeat (first | exact Drawn0.refl _ | apply Drawn0.step)⟩
     ·replace c5 := Bool.eq_false_iff.mpr c5; subst c5; rw [if_neg (show ¬ (false = true) by decide)] at H; obtain rfl := Option.some.inj H; have p352 : 0 ≤ (x3_1 : Int) := of_decide_eq_true za; have q352 : x3_1 < (l0.length : Int) := of_decide_eq_true za; obtain ⟨ad352, e352, hx352_0, hx352_1⟩ := at_T33 HR0.out x3_1 p352 q352
      cases e352
      replace p352 := eq_true p352; replace q352 := eq_true q352; go_wp2_with (first | ((with_reducible refine gate_callee (f := 129) rfl ?_); refine goesL_ (some 15) rfl rfl Try.func129 (by kernel_rfl) rfl #[.string ((rd_T33 l0 x3_1).f0)] rfl zl ?_; (with_reducible refine (spec_validName.calls k1 ((rd_T33 l0 x3_1).f0) false _ A4.out).mono ?_); rintro e w' ⟨rfl, ⟨nd, rfl⟩⟩; refine ⟨_, rfl, ?_⟩)); go_ret; exact ⟨by first | rfl | (simp; done) | (simp [*]; done), by repeat (first | exact Drawn0.refl _ | apply Drawn0.step)⟩
    ·rw [if_neg c3] at H; exact absurd H (by simp)
   ·rw [if_neg c2] at H; have c2b0 : decide (x3_1 < (l0.length : Int)) = false := decide_eq_false c2; clear c2; obtain rfl := Option.some.inj H; go_wp2; go_ret; exact ⟨by first | rfl | (simp; done) | (simp [*]; done), by repeat (first | exact Drawn0.refl _ | apply Drawn0.step)⟩

end Go.Proofs.Ytfcpbgedgedalaa.Q
