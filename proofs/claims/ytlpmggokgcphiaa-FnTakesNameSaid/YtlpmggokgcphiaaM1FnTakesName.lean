-- written by px.py and merge.py (programs of this claim's), over the kit's print. Not trusted: Lean checks it.
import Derived.Test.YtlpmggokgcphiaaQ0
import Derived.Test.YtlpmggokgcphiaaM0FnTakesName
namespace Go.Proofs.Ytlpmggokgcphiaa.Q
open Go.RowKit Go.Proofs.YtlpmggokgcphiaaL.PrintWords Go.Proofs.YtlpmggokgcphiaaL.PrintLast Go.Proofs.YtlpmggokgcphiaaL.PrintMore
attribute [local go_sem] max2_int min2_int max_two min_two max_three min_three max_four min_four   -- for this text's walks alone
set_option linter.unusedVariables false
set_option linter.unusedSimpArgs false

/-! ### impl_fit: function 92 -/
def impl_fit.f (k : Nat) (l0_0 : List (S33)) (l1_0 : List Int) (l1_1 : List (S130)) : Option (Bool) := (impl_ValidSignature.f k l0_0).bind fun t1121 => (if t1121 = true then ((impl_ValidFlat.f k l1_0 l1_1).bind fun t1122 => (some t1122)) else (some false))
theorem impl_fit.mono : ∀ a0 a1 a2 k, LeO (impl_fit.f k a0 a1 a2) (impl_fit.f (k + 1) a0 a1 a2) := by
 intro a0 a1 a2 k; unfold impl_fit.f
 repeat' first
   | (with_reducible exact impl_ValidFlat.mono _ _ _)
   | (with_reducible exact impl_ValidSignature.mono _ _)
   | (with_reducible exact LeO.refl _)
   | (with_reducible exact LeO.none _)
   | (with_reducible refine LeO.ite ?_ ?_)
   | (with_reducible refine LeO.bind ?_ (fun _ => ?_))
   | exact impl_ValidFlat.mono _ _ _
   | exact impl_ValidSignature.mono _ _
   | exact LeO.none _
   | refine LeO.ite ?_ ?_
   | refine LeO.bind ?_ (fun _ => ?_)
set_option maxHeartbeats 8000000 in
set_option maxRecDepth 100000 in
theorem impl_fit.calls (k : Nat) (A0_0 : Option Addr) (c0_0 : Nat) (l0_0 : List (S33)) (A1_0 : Option Addr) (c1_0 : Nat) (l1_0 : List Int) (A1_1 : Option Addr) (c1_1 : Nat) (l1_1 : List (S130)) (r : Bool) (w : World) (hr0_0 : Kd.C k33 w A0_0 l0_0.length l0_0) (hc0_0 : l0_0.length ≤ c0_0) (hr1_0 : Kd.C (Kd.int .i64) w A1_0 l1_0.length l1_0) (hc1_0 : l1_0.length ≤ c1_0) (hr1_1 : Kd.C k130 w A1_1 l1_1.length l1_1) (hc1_1 : l1_1.length ≤ c1_1) (h : impl_fit.f k l0_0 l1_0 l1_1 = some r) :
  Calls Try.prog 92 #[.agg #[.slice A0_0 l0_0.length c0_0], .agg #[.slice A1_0 l1_0.length c1_0, .slice A1_1 l1_1.length c1_1]] w fun e w' => e = .returned (.bool r) ∧ Below w.heap.size w w' := by
 have hu25 := Try.underlying25; have hu70 := Try.underlying70; have HR0_0 := Aside0.mk hr0_0; have HC0_0 := Aside0.mk hc0_0; clear hr0_0 hc0_0; have HR1_0 := Aside0.mk hr1_0; have HC1_0 := Aside0.mk hc1_0; clear hr1_0 hc1_0; have HR1_1 := Aside0.mk hr1_1; have HC1_1 := Aside0.mk hc1_1; clear hr1_1 hc1_1; have HB := Aside0.mk (Below.refl w.heap.size w); have H : ((impl_ValidSignature.f k l0_0).bind fun t1121 => (if t1121 = true then ((impl_ValidFlat.f k l1_0 l1_1).bind fun t1122 => (some t1122)) else (some false))) = some r := h; clear h; replace H := Option.bind_eq_some_iff.mp H; obtain ⟨t1121, A30, H⟩ := H
 (try dsimp only at H)
 have A3 := Aside0.mk A30; clear A30
 by_cases c4 : t1121 = true
 ·subst c4; rw [if_pos rfl] at H; replace H := Option.bind_eq_some_iff.mp H; obtain ⟨t1122, A50, H⟩ := H
  (try dsimp only at H)
  have A5 := Aside0.mk A50; clear A50; obtain rfl := Option.some.inj H; go_enter Try.func92, Try.ntmps92; go_wp2_with (first | ((with_reducible refine gate_dst (N := 2) rfl ?_); refine zx (N := 2) (cs := #[.slice A0_0 l0_0.length c0_0]) (t := 25) ?_; intro gb1119 hg w6 hbox hb; have BK1119 := Aside0.mk (hbox); have GW1119 := zg HB hg; have GE1119 := GW1119; replace HB := zh HB hb; clear hb hbox hg) | ((with_reducible refine gate_dst (N := 3) rfl ?_); refine zx (N := 3) (cs := #[.slice A1_0 l1_0.length c1_0, .slice A1_1 l1_1.length c1_1]) (t := 70) ?_; intro gb1120 hg w7 hbox hb; have BK1120 := Aside0.mk (hbox); have GW1120 := zg HB hg; have GE1120 := GW1120; replace HB := zh HB hb; obtain ⟨NB1119_1120, NB1120_1119⟩ := ze BK1119 hg; replace BK1119 := zc BK1119 hb; clear hb hbox hg; have hnb8 := NB1119_1120.out; have hnc8 := NB1120_1119.out; obtain ⟨hcz9_0, hfz9_0⟩ := zy1 BK1119) | ((with_reducible refine gate_callee (f := 20) rfl ?_); refine goesL_ (some 6) rfl rfl Try.func20 (by kernel_rfl) rfl #[.agg #[.slice A0_0 l0_0.length c0_0]] rfl zl ?_; (with_reducible refine (impl_ValidSignature.calls k _ _ l0_0 true _ ?side1 ?side2 A3.out).mono ?_); (case side1 => exact zC HR0_0 HB); (case side2 => exact HC0_0.out); rintro e w10 ⟨rfl, hb⟩; refine ⟨_, rfl, ?_⟩; replace BK1119 := zc BK1119 hb; replace BK1120 := zc BK1120 hb; replace HB := zh HB hb; (try clear hb); (try clear hb2); (try clear hk); (try clear hi); obtain ⟨hcz11_0, hcz11_1, hfz11_0, hfz11_1⟩ := zy2 BK1120) | (go_at_call 99; (with_reducible refine (impl_ValidFlat.calls k _ _ l1_0 _ _ l1_1 t1122 _ ?side1 ?side2 ?side3 ?side4 A5.out).mono ?_); (case side1 => exact zC HR1_0 HB); (case side2 => exact HC1_0.out); (case side3 => exact zC HR1_1 HB); (case side4 => exact HC1_1.out); rintro e w12 ⟨rfl, hb⟩; replace BK1119 := zc BK1119 hb; replace BK1120 := zc BK1120 hb; replace HB := zh HB hb; (try clear hb); (try clear hb2); (try clear hk); (try clear hi))); go_ret; exact ⟨zv, zB HB⟩
 ·replace c4 := Bool.eq_false_iff.mpr c4; subst c4; rw [if_neg (show ¬ (false = true) by decide)] at H; obtain rfl := Option.some.inj H; go_enter Try.func92, Try.ntmps92; go_wp2_with (first | ((with_reducible refine gate_dst (N := 2) rfl ?_); refine zx (N := 2) (cs := #[.slice A0_0 l0_0.length c0_0]) (t := 25) ?_; intro gb1119 hg w13 hbox hb; have BK1119 := Aside0.mk (hbox); have GW1119 := zg HB hg; have GE1119 := GW1119; replace HB := zh HB hb; clear hb hbox hg) | ((with_reducible refine gate_dst (N := 3) rfl ?_); refine zx (N := 3) (cs := #[.slice A1_0 l1_0.length c1_0, .slice A1_1 l1_1.length c1_1]) (t := 70) ?_; intro gb1120 hg w14 hbox hb; have BK1120 := Aside0.mk (hbox); have GW1120 := zg HB hg; have GE1120 := GW1120; replace HB := zh HB hb; obtain ⟨NB1119_1120, NB1120_1119⟩ := ze BK1119 hg; replace BK1119 := zc BK1119 hb; clear hb hbox hg; have hnb15 := NB1119_1120.out; have hnc15 := NB1120_1119.out; obtain ⟨hcz16_0, hfz16_0⟩ := zy1 BK1119) | ((with_reducible refine gate_callee (f := 20) rfl ?_); refine goesL_ (some 6) rfl rfl Try.func20 (by kernel_rfl) rfl #[.agg #[.slice A0_0 l0_0.length c0_0]] rfl zl ?_; (with_reducible refine (impl_ValidSignature.calls k _ _ l0_0 false _ ?side1 ?side2 A3.out).mono ?_); (case side1 => exact zC HR0_0 HB); (case side2 => exact HC0_0.out); rintro e w17 ⟨rfl, hb⟩; refine ⟨_, rfl, ?_⟩; replace BK1119 := zc BK1119 hb; replace BK1120 := zc BK1120 hb; replace HB := zh HB hb; (try clear hb); (try clear hb2); (try clear hk); (try clear hi))); go_ret; exact ⟨zv, zB HB⟩

/-! ### impl_Param_named: function 119 -/
def impl_Param_named.f (a0_0 : ByteArray) (a0_1 : Int) (a0_2 : Bool) (a0_3 : Int) : Option (Bool) := if a0_1 = 1 then (some true) else (some (a0_1 == 3))
set_option maxHeartbeats 8000000 in
set_option maxRecDepth 100000 in
theorem impl_Param_named.calls (a0_0 : ByteArray) (a0_1 : Int) (a0_2 : Bool) (a0_3 : Int) (r : Bool) (w : World) (h : impl_Param_named.f a0_0 a0_1 a0_2 a0_3 = some r) :
  Calls Try.prog 119 #[.agg #[.string a0_0, .int .i64 a0_1, .bool a0_2, .int .i64 a0_3]] w fun e w' => e = .returned (.bool r) ∧ Below w.heap.size w w' := by
 have hu33 := Try.underlying33; have HB := Aside0.mk (Below.refl w.heap.size w); have H : (if a0_1 = 1 then (some true) else (some (a0_1 == 3))) = some r := h; clear h
 by_cases c2 : a0_1 = 1
 ·rw [if_pos c2] at H; have c2b0 : (a0_1 == 1) = true := beq_iff_eq.mpr c2; have c2b1 : (a0_1 != 1) = false := bne_eq_false_iff_eq.mpr c2; clear c2; obtain rfl := Option.some.inj H; go_enter Try.func119, Try.ntmps119; go_wp2_with (first | ((with_reducible refine gate_dst (N := 1) rfl ?_); refine zx (N := 1) (cs := #[.string a0_0, .int .i64 a0_1, .bool a0_2, .int .i64 a0_3]) (t := 33) ?_; intro gb1123 hg w3 hbox hb; have BK1123 := Aside0.mk (hbox); have GW1123 := zg HB hg; have GE1123 := GW1123; replace HB := zh HB hb; clear hb hbox hg; obtain ⟨hcz4_0, hcz4_1, hcz4_2, hcz4_3, hfz4_0, hfz4_1, hfz4_2, hfz4_3⟩ := zy4 BK1123)); go_ret; exact ⟨zv, zB HB⟩
 ·rw [if_neg c2] at H; have c2b0 : (a0_1 == 1) = false := beq_eq_false_iff_ne.mpr c2; have c2b1 : (a0_1 != 1) = true := bne_iff_ne.mpr c2; obtain rfl := Option.some.inj H; go_enter Try.func119, Try.ntmps119; go_wp2_with (first | ((with_reducible refine gate_dst (N := 1) rfl ?_); refine zx (N := 1) (cs := #[.string a0_0, .int .i64 a0_1, .bool a0_2, .int .i64 a0_3]) (t := 33) ?_; intro gb1123 hg w5 hbox hb; have BK1123 := Aside0.mk (hbox); have GW1123 := zg HB hg; have GE1123 := GW1123; replace HB := zh HB hb; clear hb hbox hg; obtain ⟨hcz6_0, hcz6_1, hcz6_2, hcz6_3, hfz6_0, hfz6_1, hfz6_2, hfz6_3⟩ := zy4 BK1123)); go_ret; exact ⟨zv, zB HB⟩

set_option maxHeartbeats 8000000 in
set_option maxRecDepth 100000 in
theorem impl_Signature_takes.pred120 (w : World) :
  PxPred Try.prog 120 #[] (fun x : S33 => .agg #[.string x.f0, .int .i64 x.f1, .bool x.f2, .int .i64 x.f3]) (fun x : S33 => x.f1 == 4) w := by
 intro W x hb
 show Calls Try.prog 120 #[.agg #[.string x.f0, .int .i64 x.f1, .bool x.f2, .int .i64 x.f3]] W _
 have hu33 := Try.underlying33; go_enter Try.func120, Try.ntmps120; go_wp2; go_ret; exact ⟨rfl, px_alloc _ _⟩
theorem px_idx_lt {α : Type} (p : α → Bool) (l : List α) : pxIdx p l < l.length := by
 unfold pxIdx
 cases h : l.findIdx? p with
 | none => simp; omega
 | some i =>
  rw [List.findIdx?_eq_some_iff_getElem] at h; obtain ⟨hi, _⟩ := h; simp; omega
theorem impl_Param_named.eq (a : ByteArray) (b : Int) (c : Bool) (d : Int) : impl_Param_named.f a b c d = some (b == 1 || b == 3) := by
 unfold impl_Param_named.f
 by_cases h : b = 1
 ·simp [h]
 ·simp [h]
/-! ### impl_Signature_takes: function 94 (a contract of our own) -/
def impl_Signature_takes.f (l0_0 : List (S33)) (a1 : ByteArray) : Option (Int) := some (if 0 ≤ pxIdx (fun x : S33 => x.f0.toList == a1.toList) l0_0 then (if ((rd_T33 l0_0 (pxIdx (fun x : S33 => x.f0.toList == a1.toList) l0_0)).f1 == 1 || (rd_T33 l0_0 (pxIdx (fun x : S33 => x.f0.toList == a1.toList) l0_0)).f1 == 3) = true then pxIdx (fun x : S33 => x.f0.toList == a1.toList) l0_0 else pxIdx (fun x : S33 => x.f1 == 4) l0_0) else pxIdx (fun x : S33 => x.f1 == 4) l0_0)
set_option maxHeartbeats 8000000 in
set_option maxRecDepth 100000 in
theorem impl_Signature_takes.calls (A0_0 : Option Addr) (c0_0 : Nat) (l0_0 : List (S33)) (a1 : ByteArray) (r : Int) (w : World) (hr0_0 : Kd.C k33 w A0_0 l0_0.length l0_0) (hc0_0 : l0_0.length ≤ c0_0) (h : impl_Signature_takes.f l0_0 a1 = some r) :
  Calls Try.prog 94 #[.agg #[.slice A0_0 l0_0.length c0_0], .string a1] w fun e w' => e = .returned (.int .i64 r) ∧ Below w.heap.size w w' := by
 have HR := Aside0.mk hr0_0; have HC := Aside0.mk hc0_0; clear hr0_0 hc0_0; have h := Option.some.inj h; have H := Aside0.mk h; clear h; have hu25 := Try.underlying25; have eg := px_enters Try.func120 (by kernel_rfl) rfl; have hub := px_idx_lt (fun x : S33 => x.f0.toList == a1.toList) l0_0; go_enter Try.func94, Try.ntmps94; go_wp2_with fail; refine (impl_find.calls A0_0 c0_0 l0_0 a1 _ _ ?_ HC.out rfl).mono ?_
 ·exact Kd.C_below HR.out (px_alloc _ _)
 rintro e w1 ⟨rfl, hb1⟩; have hcl : w1.cell? ⟨w.heap.size, 0, none⟩ = some (.slice A0_0 l0_0.length c0_0) := (hb1.cell (p := ⟨w.heap.size, 0, none⟩) (by simp <;> omega)).trans (by go_simp); have HB := Aside0.mk (below_then (px_alloc _ _) (by simp) hb1); have HR1 := Aside0.mk (Kd.C_below HR.out HB.out); clear hb1; generalize pxIdx (fun x : S33 => x.f0.toList == a1.toList) l0_0 = at_ at *
 by_cases hat : 0 ≤ at_
 ·rw [if_pos hat] at H; have hat1 : at_ ≥ 0 := hat; have hat2 : decide (at_ ≥ 0) = true := decide_eq_true hat; obtain ⟨ad, e, hx0, hx1, hx2, hx3⟩ := at_T33 HR1.out at_ hat hub
  cases e
  generalize rd_T33 l0_0 at_ = y at *; have HN := Aside0.mk (impl_Param_named.eq y.f0 y.f1 y.f2 y.f3)
  cases hq : (y.f1 == 1 || y.f1 == 3)
  ·rw [hq, if_neg (by simp)] at H; rw [hq] at HN; have HQ := Aside0.mk hq; clear hq; go_wp2_with fail; refine (impl_Param_named.calls _ _ _ _ _ _ HN.out).mono ?_; rintro e w2 ⟨rfl, hb2⟩; have hcl2 : w2.cell? ⟨w.heap.size, 0, none⟩ = some (.slice (some ad) l0_0.length c0_0) := px_cell hb2 hcl; have HB2 := Aside0.mk (below_then HB.out (below_size HB.out) hb2); clear hb2; go_wp2_with fail; refine (ix103.calls (fun x : S33 => x.f1 == 4) 120 _ eg _ c0_0 l0_0 _ (impl_Signature_takes.pred120 _) (Kd.C_below HR.out HB2.out)).mono ?_; rintro e w3 ⟨rfl, hb3⟩; go_wp2; go_ret; exact ⟨by rw [← H.out]; rfl, below_then HB2.out (below_size HB2.out) hb3⟩
  ·rw [hq, if_pos rfl] at H; rw [hq] at HN; have HQ := Aside0.mk hq; clear hq; go_wp2_with fail; refine (impl_Param_named.calls _ _ _ _ _ _ HN.out).mono ?_; rintro e w2 ⟨rfl, hb2⟩; have HB2 := Aside0.mk (below_then HB.out (below_size HB.out) hb2); clear hb2; go_wp2; go_ret; exact ⟨by rw [← H.out]; rfl, HB2.out⟩
 ·rw [if_neg hat] at H; have hat1 : ¬ at_ ≥ 0 := hat; have hat2 : decide (at_ ≥ 0) = false := decide_eq_false hat; go_wp2_with fail; refine (ix103.calls (fun x : S33 => x.f1 == 4) 120 _ eg _ c0_0 l0_0 _ (impl_Signature_takes.pred120 _) (Kd.C_below HR.out HB.out)).mono ?_; rintro e w3 ⟨rfl, hb3⟩; go_wp2; go_ret; exact ⟨by rw [← H.out]; rfl, below_then HB.out (below_size HB.out) hb3⟩

/-! ### slices_Clip_int_int: function 129 (a contract of our own) -/
def slices_Clip_int_int.f (l0 : List (Int)) : Option (List (Int)) := some l0
set_option maxHeartbeats 8000000 in
set_option maxRecDepth 100000 in
theorem slices_Clip_int_int.calls (P0_ : Nat → Prop) (u9000_ : Value) (l0 : List (Int)) (r : List (Int)) (w0 w : World) (hB : Below w0.heap.size w0 w) (ho0 : Kd.R (Kd.int .i64) 3 w w0.heap.size P0_ u9000_ l0) (h : slices_Clip_int_int.f l0 = some r) :
  Calls Try.prog 129 #[u9000_] w fun e w' => ∃ v0_ : Value, e = .returned (v0_) ∧ Kd.R (Kd.int .i64) 3 w' w0.heap.size (fun k_ => (P0_ k_ ∨ w.heap.size ≤ k_)) v0_ r ∧ Below w0.heap.size w0 w' ∧ Kept w w' (fun k_ => P0_ k_) := by
 obtain rfl := Option.some.inj h; clear h; obtain ⟨A0, c0, rfl⟩ := Kd.R_slice ho0; obtain ⟨_, hl, hC⟩ := Kd.R_reads' ho0; have hbig : l0.length ≤ 9223372036854775807 := hC.2.1; have HO := Aside0.mk ho0; have HB := Aside0.mk hB; clear ho0 hB hC; go_enter Try.func129, Try.ntmps129; go_wp2; go_ret; exact ⟨_, rfl, Kd.R_mono (Kd.R_clip HO.out (Nat.le_refl _) hl) (fun _ h => .inl h), HB.out, Kept.refl _ _⟩

end Go.Proofs.Ytlpmggokgcphiaa.Q

namespace Go.Proofs.Ytlpmggokgcphiaa.Q
open Go.RowKit Go.Proofs.YtlpmggokgcphiaaL.PrintWords Go.Proofs.YtlpmggokgcphiaaL.PrintLast Go.Proofs.YtlpmggokgcphiaaL.PrintMore
attribute [local go_sem] max2_int min2_int max_two min_two max_three min_three max_four min_four   -- for this text's walks alone
set_option linter.unusedVariables false
set_option linter.unusedSimpArgs false

/-! ### slices.Clone at int: function 130 -/
set_option maxHeartbeats 8000000 in
set_option maxRecDepth 100000 in
theorem cl130.calls (A0 : Option Addr) (c0 : Nat) (l0 : List (Int)) (w : World) (hr0 : Kd.C (Kd.int .i64) w A0 l0.length l0) (hl : l0.length * 8 ≤ 140737488355328) :
  Calls Try.prog 130 #[.slice A0 l0.length c0] w fun e w' => ∃ v0_ : Value, e = .returned v0_ ∧ Kd.R (Kd.int .i64) 3 w' w.heap.size (fun _ => True) v0_ l0 ∧ Below w.heap.size w w' := by
 cases A0 with
 | none =>
  have h0 : l0 = [] := by
   rcases Nat.eq_zero_or_pos l0.length with h | h
   ·exact List.eq_nil_of_length_eq_zero h
   ·obtain ⟨ad, e, _⟩ := hr0.2.2 h; cases e
  subst h0; clear hr0; have hE := fun (W : World) => Go.Lib.run_eql_slice_nil (P := Try.prog) W 67 3 none 0 c0 0 0 Try.underlying67
  go_enter Try.func130, Try.ntmps130; go_wp2; go_ret; exact ⟨_, rfl, Kd.R_nil _ _ _ _ _, px_refl _⟩
 | some ad =>
  have HR := Aside0.mk hr0; have HL := Aside0.mk hl; clear hr0 hl; have hE := fun (W : World) => Go.Lib.run_eql_slice_nil (P := Try.prog) W 67 3 (some ad) l0.length c0 0 0 Try.underlying67
  go_enter Try.func130, Try.ntmps130; go_wp2_with (first | ((with_reducible refine gate_dst (N := 5) rfl ?_); refine Kd.R_lit (Kd.int .i64) w.heap.size 3 ?hg (N := 5) ?hd (xs := ([] : List (Int))) (inner := []) (ok := fun _ => True) (okp := fun _ => True) ?hr ?hp (fun _ hk => hk) trivial (Below.refl _ _) (Nat.le_refl _) (by simp) ?_; (case hd => rfl); (case hg => rfl); (case hr => first | (go_simp; done) | (go_simp; rfl)); (case hp => exact (Reps.none _ _)); intro v5 w5 ho5 hb5 hg_ hnew_; clear hg_ hnew_; have HO := Aside0.mk ho5; have HB := Aside0.mk hb5; clear ho5 hb5) | ((with_reducible refine gate_dst (N := 7) rfl ?_); refine Kd.R_append_rows (Kd.int .i64) (Rr := (Kd.int .i64).K w) (w0 := w) w.heap.size (by rfl) (.tmp 5) (.tmp 6) 67 3 (.int .i64 0) 8 rfl Try.underlying67 info3 rfl (by decide) (by omega) v5 ([] : List (Int)) l0 _ _ _ (fun _ => True) (fun _ => False) rfl rfl HO.out ?aR (fun _ _ h => h) (fun _ h => h.elim) (fun _ _ => trivial) HB.out (below_size HB.out) ?aL ?_; (case aR => exact ReadsRow.imp_ HR.out HB.out (fun _ _ h => h)); (case aL => simpa using HL.out); intro v7 w7 ho7 hb7 hg_ hnew_; clear hg_ hnew_; have HO7 := Aside0.mk ho7; have HB7 := Aside0.mk hb7; clear ho7 hb7)); go_ret; exact ⟨_, rfl, HO7.out, HB7.out⟩
/-! ### impl_clone_int: function 116 (a contract of our own) -/
def impl_clone_int.f (l0 : List Int) : Option (List Int) := if l0.length * 8 ≤ 140737488355328 then some l0 else none
set_option maxHeartbeats 8000000 in
set_option maxRecDepth 100000 in
theorem impl_clone_int.calls (A0 : Option Addr) (c0 : Nat) (l0 : List Int) (r : List Int) (w : World) (hr0 : Kd.C (Kd.int .i64) w A0 l0.length l0) (hc0 : l0.length ≤ c0) (h : impl_clone_int.f l0 = some r) :
  Calls Try.prog 116 #[.slice A0 l0.length c0] w fun e w' => ∃ v0_ : Value, e = .returned (v0_) ∧ Kd.R (Kd.int .i64) 3 w' w.heap.size (fun _ => True) v0_ r ∧ Below w.heap.size w w' := by
 have hl : l0.length * 8 ≤ 140737488355328 := by unfold impl_clone_int.f at h; split at h; assumption; cases h
 have hr : r = l0 := by unfold impl_clone_int.f at h; rw [if_pos hl] at h; exact (Option.some.inj h).symm
 subst hr; clear h; have HR := Aside0.mk hr0; have HL := Aside0.mk hl; clear hr0 hl hc0; go_enter Try.func116, Try.ntmps116; go_wp2_with fail; refine (cl130.calls _ _ _ _ HR.out HL.out).mono ?_; rintro e w1 ⟨v1, rfl, hv1, hb1⟩; have HO1 := Aside0.mk hv1; have HB1 := Aside0.mk hb1; clear hv1 hb1; go_wp2_with fail; refine (slices_Clip_int_int.calls (fun _ => True) _ _ r w _ HB1.out HO1.out rfl).mono ?_; rintro e w2 ⟨v2, rfl, hv2, hb2, hk2⟩; have HO2 := Aside0.mk hv2; have HB2 := Aside0.mk hb2; clear hv2 hb2 hk2; go_wp2; go_ret; exact ⟨_, rfl, Kd.R_mono HO2.out (fun _ _ => trivial), HB2.out⟩

/-! ### impl_Pair_117: function 117 (a contract of our own) -/
def impl_Pair_117.f (l0 : List (S130)) : Option (List (S130)) := some l0
set_option maxHeartbeats 8000000 in
set_option maxRecDepth 100000 in
theorem impl_Pair_117.calls (P0_ : Nat → Prop) (u9000_ : Value) (l0 : List (S130)) (r : List (S130)) (w0 w : World) (hB : Below w0.heap.size w0 w) (ho0 : Kd.R k130 130 w w0.heap.size P0_ u9000_ l0) (h : impl_Pair_117.f l0 = some r) :
  Calls Try.prog 117 #[u9000_] w fun e w' => ∃ v0_ : Value, e = .returned (v0_) ∧ Kd.R k130 130 w' w0.heap.size (fun k_ => (P0_ k_ ∨ w.heap.size ≤ k_)) v0_ r ∧ Below w0.heap.size w0 w' ∧ Kept w w' (fun k_ => P0_ k_) := by
 obtain rfl := Option.some.inj h; clear h; obtain ⟨A0, c0, rfl⟩ := Kd.R_slice ho0; obtain ⟨_, hl, hC⟩ := Kd.R_reads' ho0; have hbig : l0.length ≤ 9223372036854775807 := hC.2.1; have HO := Aside0.mk ho0; have HB := Aside0.mk hB; clear ho0 hB hC; go_enter Try.func117, Try.ntmps117; go_wp2; go_ret; exact ⟨_, rfl, Kd.R_mono (Kd.R_clip HO.out (Nat.le_refl _) hl) (fun _ h => .inl h), HB.out, Kept.refl _ _⟩

/-! ### impl_Problem: function 118 (a contract of our own) -/
def impl_Problem.f (l0 : List (S72)) : Option (List (S72)) := some l0
set_option maxHeartbeats 8000000 in
set_option maxRecDepth 100000 in
theorem impl_Problem.calls (P0_ : Nat → Prop) (u9000_ : Value) (l0 : List (S72)) (r : List (S72)) (w0 w : World) (hB : Below w0.heap.size w0 w) (ho0 : Kd.R k72 72 w w0.heap.size P0_ u9000_ l0) (h : impl_Problem.f l0 = some r) :
  Calls Try.prog 118 #[u9000_] w fun e w' => ∃ v0_ : Value, e = .returned (v0_) ∧ Kd.R k72 72 w' w0.heap.size (fun k_ => (P0_ k_ ∨ w.heap.size ≤ k_)) v0_ r ∧ Below w0.heap.size w0 w' ∧ Kept w w' (fun k_ => P0_ k_) := by
 obtain rfl := Option.some.inj h; clear h; obtain ⟨A0, c0, rfl⟩ := Kd.R_slice ho0; obtain ⟨_, hl, hC⟩ := Kd.R_reads' ho0; have hbig : l0.length ≤ 9223372036854775807 := hC.2.1; have HO := Aside0.mk ho0; have HB := Aside0.mk hB; clear ho0 hB hC; go_enter Try.func118, Try.ntmps118; go_wp2; go_ret; exact ⟨_, rfl, Kd.R_mono (Kd.R_clip HO.out (Nat.le_refl _) hl) (fun _ h => .inl h), HB.out, Kept.refl _ _⟩

end Go.Proofs.Ytlpmggokgcphiaa.Q
