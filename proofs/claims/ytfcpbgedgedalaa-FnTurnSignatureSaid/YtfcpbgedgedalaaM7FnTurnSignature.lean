-- written by px.py and merge.py (programs of this claim's), over the kit's print. Not trusted: Lean checks it.
import Derived.Test.YtfcpbgedgedalaaQ0
import Derived.Test.YtfcpbgedgedalaaM0FnTurnSignature
import Derived.Test.YtfcpbgedgedalaaM6FnTurnSignature
namespace Go.Proofs.Ytfcpbgedgedalaa.Q
open Go.RowKit Go.Proofs.YtfcpbgedgedalaaL.PrintWords Go.Proofs.YtfcpbgedgedalaaL.PrintLast Go.Proofs.YtfcpbgedgedalaaL.PrintMore
attribute [local go_sem] max2_int min2_int max_two min_two max_three min_three max_four min_four   -- for this text's walks alone
set_option linter.unusedVariables false
set_option linter.unusedSimpArgs false

/-! ### slices.Grow of nil at impl.Turn: function 131 -/
set_option maxHeartbeats 8000000 in
set_option maxRecDepth 100000 in
theorem gr131.calls (m : Int) (w : World) (h0 : 0 ≤ m) (hl : m.toNat * 32 ≤ 140737488355328) :
  Calls Try.prog 131 #[.slice none 0 0, .int .i64 m] w fun e w' => ∃ v0_ : Value, e = .returned v0_ ∧ Kd.R k107 107 w' w.heap.size (fun _ => True) v0_ [] ∧ Below w.heap.size w w' := by
 have HL := Aside0.mk hl
 have hm : m ≤ 140737488355328 := by omega
 clear hl
 have h1 : decide (m < 0) = false := by simp; omega
 by_cases hp : 0 < m
 ·go_enter Try.func131, Try.ntmps131
  go_wp2_with (first | ((with_reducible refine gate_dst (N := 22) rfl ?_); refine Kd.R_append_zeros k107 (w0 := w) w.heap.size (by rfl) (.tmp 20) (.tmp 21) 55 3 107 (.agg #[(.string ⟨#[]⟩), (.string ⟨#[]⟩)]) 32 rfl Try.underlying55 Try.underlying3 info107 rfl (by decide) (by decide) (.slice none 0 0) ([] : List (S107)) z107 m (fun _ => True) rfl rfl (k107_mkM _ _ _ z107) (fun _ _ => trivial) (Kd.R_nil _ _ _ _ _) h0 (px_refl _) (Nat.le_refl _) ?aL ?_; (case aL => simpa using HL.out); intro v7 w7 ho7 hb7 hg_ hnew_; clear hg_ hnew_; obtain ⟨A7, c7, rfl⟩ := Kd.R_slice ho7; have hn7 := (Kd.R_reads' ho7).2.1; have HO7 := Aside0.mk ho7; have HB7 := Aside0.mk hb7; clear ho7 hb7))
  go_ret
  exact ⟨_, rfl, by simpa using Kd.R_take (m := 0) HO7.out (Nat.zero_le _), HB7.out⟩
 ·have : m = 0 := by omega
  subst this
  go_enter Try.func131, Try.ntmps131
  go_wp2
  go_ret
  exact ⟨_, rfl, Kd.R_nil _ _ _ _ _, px_refl _⟩
/-! ### impl_Turn_82: function 82 (a contract of our own) -/
def impl_Turn_82.f (l0 : List (List (S107))) : Option ((List (S107))) := if l0.flatten.length * 32 ≤ 140737488355328 then some l0.flatten else none
set_option maxHeartbeats 8000000 in
set_option maxRecDepth 100000 in
theorem impl_Turn_82.calls (A0 : Option Addr) (c0 : Nat) (l0 : List (List (S107))) (r : List (S107)) (w : World) (hr0 : Kd.C (Kd.slice 107 k107) w A0 l0.length l0) (hc0 : l0.length ≤ c0) (h : impl_Turn_82.f l0 = some r) :
  Calls Try.prog 82 #[.slice A0 l0.length c0] w fun e w' => ∃ v0_ : Value, e = .returned (v0_) ∧ Kd.R k107 107 w' w.heap.size (fun _ => True) v0_ r ∧ Below w.heap.size w w' := by
 have hl : l0.flatten.length * 32 ≤ 140737488355328 := by unfold impl_Turn_82.f at h; split at h; assumption; cases h
 have hr : r = l0.flatten := by unfold impl_Turn_82.f at h; rw [if_pos hl] at h; exact (Option.some.inj h).symm
 subst hr
 clear h
 have HR := Aside0.mk hr0
 clear hr0
 have hbig : l0.length ≤ 9223372036854775807 := HR.out.2.1
 have hfb : l0.flatten.length ≤ 140737488355328 := by omega
 go_enter Try.func82, Try.ntmps82
 go_wp2
 go_loopg [3, 11] l0.length (fun gg v3 v11 wr => ∃ kk : Nat, kk ≤ l0.length ∧ l0.length - kk ≤ gg ∧ v3 = .int .i64 ((l0.take kk).flatten.length : Nat) ∧ v11 = .int .i64 kk ∧ Aside0 (Below w.heap.size w wr))
 case atStart => exact ⟨0, Nat.zero_le _, by omega, by simp, rfl, ⟨px_refl _⟩⟩
 case round =>
  obtain ⟨kk, hkk, hg, rfl, rfl, BW⟩ := hrel
  by_cases hlt : kk < l0.length
  ·have hltz : (kk : Int) < (l0.length : Int) := by omega
   have hz0 : (0 : Int) ≤ (kk : Int) := by omega
   obtain ⟨ad, A1, c1, e, hx0, hl1, hC1⟩ := at_L13 (Kd.C_below HR.out BW.out) (kk : Int) hz0 hltz
   simp only [Int.toNat_natCast] at hx0
   cases e
   have hft := px_flat_take l0 kk hlt []
   have hle := px_flat_le l0 (kk + 1)
   rw [hft, List.length_append] at hle
   rw [show rd_L13 l0 (kk : Int) = l0.getD kk [] from rfl] at hx0 hl1
   have HF := Aside0.mk (show (l0.take (kk + 1)).flatten.length = (l0.take kk).flatten.length + (l0.getD kk []).length by rw [hft, List.length_append])
   clear hft hC1
   generalize (l0.getD kk []).length = n1 at *
   generalize (l0.take kk).flatten.length = n0 at *
   have hb1 : (n0 : Int) + (n1 : Int) ≤ 140737488355328 := by omega
   have hb2 : decide ((n0 : Int) + (n1 : Int) < 0) = false := by simp; omega
   go_wp2
   go_roundg (l0.length - (kk + 1))
   case measure => omega
   case rel => exact ⟨kk + 1, by omega, by omega, by rw [HF.out]; simp, by go_num, BW⟩
  ·have : kk = l0.length := by omega
   subst this
   have HT := Aside0.mk (show (l0.take l0.length).flatten.length = l0.flatten.length by rw [List.take_length])
   rw [HT.out]
   generalize hfl : l0.flatten.length = fl at *
   have HFL := Aside0.mk hfl
   clear hfl
   have hltz : ¬ (l0.length : Int) < (l0.length : Int) := by omega
   go_wp2_with fail
   refine (gr131.calls (fl : Int) _ (by omega) (by simpa using hl)).mono ?_
   rintro e w1 ⟨v1, rfl, hv1, hb1⟩
   have HO1 := Aside0.mk hv1
   have HB1 := Aside0.mk (below_then BW.out BW.out.size hb1)
   have HO1' := Aside0.mk (Kd.R_lower HO1.out BW.out.size)
   clear hv1 hb1 HO1
   go_wp2
   go_loopg [6, 27] l0.length (fun gg v6 v27 wr => ∃ kk : Nat, kk ≤ l0.length ∧ l0.length - kk ≤ gg ∧ v27 = .int .i64 kk ∧ Aside0 (Kd.R k107 107 wr w.heap.size (fun _ => True) v6 (l0.take kk).flatten) ∧ Aside0 (Below w.heap.size w wr))
   case atStart => exact ⟨0, Nat.zero_le _, by omega, rfl, ⟨HO1'.out⟩, HB1⟩
   case round =>
    clear HO1' HB1 BW
    obtain ⟨kk, hkk, hg, rfl, HO, BW⟩ := hrel
    by_cases hlt : kk < l0.length
    ·have hltz : (kk : Int) < (l0.length : Int) := by omega
     have hz0 : (0 : Int) ≤ (kk : Int) := by omega
     obtain ⟨ad, A1, c1, e, hx0, hl1, hC1⟩ := at_L13 (Kd.C_below HR.out BW.out) (kk : Int) hz0 hltz
     simp only [Int.toNat_natCast] at hx0
     cases e
     have hft := px_flat_take l0 kk hlt []
     have hle := px_flat_le l0 (kk + 1)
     rw [hft, List.length_append] at hle
     rw [show rd_L13 l0 (kk : Int) = l0.getD kk [] from rfl] at hx0 hl1 hC1
     generalize l0.getD kk [] = y at *
     have HF := Aside0.mk hft
     have HLe := Aside0.mk hle
     have HC1 := Aside0.mk hC1
     clear hft hC1 hle
     have hFL := HFL.out
     clear HFL
     go_wp2_with (first | ((with_reducible refine gate_dst (N := 33) rfl ?_); refine Kd.R_append_rows k107 (Rr := k107.K wr) (w0 := w) w.heap.size (by rfl) (.tmp 31) (.tmp 32) 55 107 (.agg #[(.string ⟨#[]⟩), (.string ⟨#[]⟩)]) 32 rfl Try.underlying55 info107 rfl (by decide) (by omega) _ (l0.take kk).flatten y _ _ _ (fun _ => True) (fun _ => False) rfl rfl HO.out HC1.out (fun x cs h => by rw [k107_open h]; exact k107_mkM _ _ _ _) (fun _ h => h.elim) (fun _ _ => trivial) BW.out BW.out.size ?aL ?_; (case aL => have := HLe.out; omega); intro v7 w7 ho7 hb7 hg_ hnew_; clear hg_ hnew_; have HO7 := Aside0.mk ho7; have HB7 := Aside0.mk hb7; clear ho7 hb7))
     go_roundg (l0.length - (kk + 1))
     case measure => omega
     case rel => exact ⟨kk + 1, by omega, by omega, by go_num, ⟨by rw [HF.out]; exact HO7.out⟩, HB7⟩
    ·have : kk = l0.length := by omega
     subst this
     have hltz : ¬ (l0.length : Int) < (l0.length : Int) := by omega
     go_wp2
     go_ret
     exact ⟨_, rfl, by have h := HO.out; rwa [List.take_length] at h, BW.out⟩

/-! ### impl_turn: function 85 -/
def impl_turn.l0 : Nat → ByteArray → List (S107) → Int → Int → Option (ByteArray)
 | 0, _, _, _, _ => none
 | k + 1, x1, x7, x8, x9 => if x9 < x8 then (if 0 ≤ x9 then (if x9 < (x7.length : Int) then (if ((rd_T107 x7 x9).f0).toList = x1.toList then (some ((rd_T107 x7 x9).f1)) else (impl_turn.l0 k x1 x7 x8 (wrap64 (x9 + 1)))) else (none)) else (none)) else (some x1)
def impl_turn.f (k : Nat) (l0 : List (S107)) (a1 : ByteArray) : Option (ByteArray) := impl_turn.l0 k a1 l0 (l0.length : Int) 0
theorem impl_turn.mono_l : ∀ k, (∀ y0 y1 y2 y3, LeO (impl_turn.l0 k y0 y1 y2 y3) (impl_turn.l0 (k + 1) y0 y1 y2 y3))
 | 0 => fun _ _ _ _ r h => by simp [impl_turn.l0] at h
 | k + 1 => by
  have ih0 := impl_turn.mono_l k
  ·intro y0 y1 y2 y3
   unfold impl_turn.l0
   repeat' first
   | (with_reducible exact ih0 _ _ _ _)
   | (with_reducible exact LeO.refl _)
   | (with_reducible exact LeO.none _)
   | (with_reducible refine LeO.ite ?_ ?_)
   | (with_reducible refine LeO.bind ?_ (fun _ => ?_))
   | exact ih0 _ _ _ _
   | exact LeO.none _
   | refine LeO.ite ?_ ?_
   | refine LeO.bind ?_ (fun _ => ?_)
theorem impl_turn.mono : ∀ a0 a1 k, LeO (impl_turn.f k a0 a1) (impl_turn.f (k + 1) a0 a1) := by
 intro a0 a1 k
 have ih0 := impl_turn.mono_l k
 unfold impl_turn.f
 repeat' first
   | (with_reducible exact ih0 _ _ _ _)
   | (with_reducible exact LeO.refl _)
   | (with_reducible exact LeO.none _)
   | (with_reducible refine LeO.ite ?_ ?_)
   | (with_reducible refine LeO.bind ?_ (fun _ => ?_))
   | exact ih0 _ _ _ _
   | exact LeO.none _
   | refine LeO.ite ?_ ?_
   | refine LeO.bind ?_ (fun _ => ?_)
set_option maxHeartbeats 8000000 in
set_option maxRecDepth 100000 in
theorem impl_turn.calls (k : Nat) (A0 : Option Addr) (c0 : Nat) (l0 : List (S107)) (a1 : ByteArray) (r : ByteArray) (w : World) (hr0 : Kd.C k107 w A0 l0.length l0) (hc0 : l0.length ≤ c0) (h : impl_turn.f k l0 a1 = some r) :
  Calls Try.prog 85 #[.slice A0 l0.length c0, .string a1] w fun e w' => e = .returned (.string r) ∧ Below w.heap.size w w' := by
 have hu107 := Try.underlying107
 have HR0 := Aside0.mk hr0
 have HC0 := Aside0.mk hc0
 clear hr0 hc0
 have HB := Aside0.mk (Below.refl w.heap.size w)
 have H : (impl_turn.l0 k a1 l0 (l0.length : Int) 0) = some r := h
 clear h
 have H' := Aside0.mk H
 clear H
 go_enter Try.func85, Try.ntmps85
 go_wp2
 go_loopg [9] k (fun kq v9 w' => ∃ (x9_1 : Int), v9 = .int .i64 x9_1 ∧ Aside0 (impl_turn.l0 kq a1 l0 (l0.length : Int) x9_1 = some r) ∧ Aside0 (kq ≤ k) ∧ Aside0 (Below w.heap.size w w'))
 case atStart => exact ⟨(0), zr, H', ⟨Nat.le_refl _⟩, ⟨zB HB⟩⟩
 case round =>
  clear H'
  try clear p2
  obtain ⟨x9_1, rfl, HA, HK1, HB⟩ := hrel
  cases gk with
  | zero => exact absurd HA.out (by simp [impl_turn.l0])
  | succ k1 =>
   have H := HA.out
   clear HA
   simp only [impl_turn.l0] at H
   by_cases c3 : x9_1 < (l0.length : Int)
   ·rw [if_pos c3] at H
    have c3b0 : decide (x9_1 < (l0.length : Int)) = true := decide_eq_true c3
    clear c3
    by_cases c4 : 0 ≤ x9_1
    ·rw [if_pos c4] at H
     have c4b0 : decide (0 ≤ x9_1) = true := decide_eq_true c4
     clear c4
     by_cases c5 : x9_1 < (l0.length : Int)
     ·rw [if_pos c5] at H
      have c5b0 : decide (x9_1 < (l0.length : Int)) = true := decide_eq_true c5
      clear c5
      by_cases c6 : ((rd_T107 l0 x9_1).f0).toList = a1.toList
      ·rw [if_pos c6] at H
       have c6b0 : (((rd_T107 l0 x9_1).f0).toList == a1.toList) = true := beq_iff_eq.mpr c6
       have c6b1 : (((rd_T107 l0 x9_1).f0).toList != a1.toList) = false := bne_eq_false_iff_eq.mpr c6
       clear c6
       obtain rfl := Option.some.inj H
       have p752 : 0 ≤ (x9_1 : Int) := of_decide_eq_true za
       have q752 : x9_1 < (l0.length : Int) := of_decide_eq_true za
       obtain ⟨ad752, e752, hx752_0, hx752_1⟩ := at_T107 HR0.out x9_1 p752 q752
       cases e752
       replace hx752_0 := (HB.out.cell (World.block_lt_of_cell? w _ hx752_0)).trans hx752_0
       replace hx752_1 := (HB.out.cell (World.block_lt_of_cell? w _ hx752_1)).trans hx752_1
       replace p752 := eq_true p752
       replace q752 := eq_true q752
       go_wp2_with (first | ((with_reducible refine gate_dst (N := 6) rfl ?_); refine box_event ?hg (N := 6) ?hd (cs := #[.string (⟨#[]⟩ : ByteArray), .string (⟨#[]⟩ : ByteArray)]) (t := 107) ?hr ?_; (case hd => rfl); (case hg => rfl); (case hr => first | (go_simp; done) | (go_simp; rfl)); intro gb753 hg w7 hbox hb; have BK753 := Aside0.mk (hbox); have GW753 := Aside0.mk ((by rw [hg]; exact (below_size (zB HB)) : w.heap.size ≤ gb753)); have GE753 := Aside0.mk ((by rw [hg]; exact (below_size (zB HB)) : w.heap.size ≤ gb753)); replace HB := Aside0.mk (below_step (zB HB) hb); clear hb hbox hg; have hcz8_0 : w7.cell? ⟨gb753, 0, none⟩ = some (.string (⟨#[]⟩ : ByteArray)) := (blk_cell BK753.out 0).trans rfl; have hcz8_1 : w7.cell? ⟨gb753, 1, none⟩ = some (.string (⟨#[]⟩ : ByteArray)) := (blk_cell BK753.out 1).trans rfl; have hfz8_0 := blk_frozen BK753.out 0; have hfz8_1 := blk_frozen BK753.out 1))
       go_ret
       exact ⟨by first | rfl | (simp [errW_none, errW_some] <;> rfl) | (simp [*, errW_none, errW_some] <;> rfl), zB HB⟩
      ·rw [if_neg c6] at H
       have c6b0 : (((rd_T107 l0 x9_1).f0).toList == a1.toList) = false := beq_eq_false_iff_ne.mpr c6
       have c6b1 : (((rd_T107 l0 x9_1).f0).toList != a1.toList) = true := bne_iff_ne.mpr c6
       have H' := Aside0.mk H
       clear H
       have p752 : 0 ≤ (x9_1 : Int) := of_decide_eq_true za
       have q752 : x9_1 < (l0.length : Int) := of_decide_eq_true za
       obtain ⟨ad752, e752, hx752_0, hx752_1⟩ := at_T107 HR0.out x9_1 p752 q752
       cases e752
       replace hx752_0 := (HB.out.cell (World.block_lt_of_cell? w _ hx752_0)).trans hx752_0
       replace hx752_1 := (HB.out.cell (World.block_lt_of_cell? w _ hx752_1)).trans hx752_1
       replace p752 := eq_true p752
       replace q752 := eq_true q752
       go_wp2_with (first | ((with_reducible refine gate_dst (N := 6) rfl ?_); refine box_event ?hg (N := 6) ?hd (cs := #[.string (⟨#[]⟩ : ByteArray), .string (⟨#[]⟩ : ByteArray)]) (t := 107) ?hr ?_; (case hd => rfl); (case hg => rfl); (case hr => first | (go_simp; done) | (go_simp; rfl)); intro gb753 hg w9 hbox hb; have BK753 := Aside0.mk (hbox); have GW753 := Aside0.mk ((by rw [hg]; exact (below_size (zB HB)) : w.heap.size ≤ gb753)); have GE753 := Aside0.mk ((by rw [hg]; exact (below_size (zB HB)) : w.heap.size ≤ gb753)); replace HB := Aside0.mk (below_step (zB HB) hb); clear hb hbox hg; have hcz10_0 : w9.cell? ⟨gb753, 0, none⟩ = some (.string (⟨#[]⟩ : ByteArray)) := (blk_cell BK753.out 0).trans rfl; have hcz10_1 : w9.cell? ⟨gb753, 1, none⟩ = some (.string (⟨#[]⟩ : ByteArray)) := (blk_cell BK753.out 1).trans rfl; have hfz10_0 := blk_frozen BK753.out 0; have hfz10_1 := blk_frozen BK753.out 1))
       go_roundg k1
       case measure => have := HK1.out; omega
       case rel => exact ⟨(wrap64 (x9_1 + 1)), zr, H', ⟨by have := HK1.out; omega⟩, ⟨zB HB⟩⟩
     ·rw [if_neg c5] at H
      exact absurd H (by simp)
    ·rw [if_neg c4] at H
     exact absurd H (by simp)
   ·rw [if_neg c3] at H
    have c3b0 : decide (x9_1 < (l0.length : Int)) = false := decide_eq_false c3
    clear c3
    obtain rfl := Option.some.inj H
    go_wp2
    go_ret
    exact ⟨by first | rfl | (simp [errW_none, errW_some] <;> rfl) | (simp [*, errW_none, errW_some] <;> rfl), zB HB⟩

/-! ### impl_Turn_86: function 86 (a contract of our own) -/
def impl_Turn_86.f (l0 : List (S107)) : Option (List (S107)) := some l0
set_option maxHeartbeats 8000000 in
set_option maxRecDepth 100000 in
theorem impl_Turn_86.calls (P0_ : Nat → Prop) (u9000_ : Value) (l0 : List (S107)) (r : List (S107)) (w0 w : World) (hB : Below w0.heap.size w0 w) (ho0 : Kd.R k107 107 w w0.heap.size P0_ u9000_ l0) (h : impl_Turn_86.f l0 = some r) :
  Calls Try.prog 86 #[u9000_] w fun e w' => ∃ v0_ : Value, e = .returned (v0_) ∧ Kd.R k107 107 w' w0.heap.size (fun k_ => (P0_ k_ ∨ w.heap.size ≤ k_)) v0_ r ∧ Below w0.heap.size w0 w' ∧ Kept w w' (fun k_ => P0_ k_) := by
 obtain rfl := Option.some.inj h
 clear h
 obtain ⟨A0, c0, rfl⟩ := Kd.R_slice ho0
 obtain ⟨_, hl, hC⟩ := Kd.R_reads' ho0
 have hbig : l0.length ≤ 9223372036854775807 := hC.2.1
 have HO := Aside0.mk ho0
 have HB := Aside0.mk hB
 clear ho0 hB hC
 go_enter Try.func86, Try.ntmps86
 go_wp2
 go_ret
 exact ⟨_, rfl, Kd.R_mono (Kd.R_clip HO.out (Nat.le_refl _) hl) (fun _ h => .inl h), HB.out, Kept.refl _ _⟩

end Go.Proofs.Ytfcpbgedgedalaa.Q

namespace Go.Proofs.Ytfcpbgedgedalaa.Q
open Go.RowKit Go.Proofs.YtfcpbgedgedalaaL.PrintWords Go.Proofs.YtfcpbgedgedalaaL.PrintLast Go.Proofs.YtfcpbgedgedalaaL.PrintMore
attribute [local go_sem] max2_int min2_int max_two min_two max_three min_three max_four min_four   -- for this text's walks alone
set_option linter.unusedVariables false
set_option linter.unusedSimpArgs false

/-! ### impl_Param_148: function 148 (a contract of our own) -/
def impl_Param_148.f (l0 : List (S123)) : Option (List (S123)) := some l0
set_option maxHeartbeats 8000000 in
set_option maxRecDepth 100000 in
theorem impl_Param_148.calls (P0_ : Nat → Prop) (u9000_ : Value) (l0 : List (S123)) (r : List (S123)) (w0 w : World) (hB : Below w0.heap.size w0 w) (ho0 : Kd.R k123 123 w w0.heap.size P0_ u9000_ l0) (h : impl_Param_148.f l0 = some r) :
  Calls Try.prog 148 #[u9000_] w fun e w' => ∃ v0_ : Value, e = .returned (v0_) ∧ Kd.R k123 123 w' w0.heap.size (fun k_ => (P0_ k_ ∨ w.heap.size ≤ k_)) v0_ r ∧ Below w0.heap.size w0 w' ∧ Kept w w' (fun k_ => P0_ k_) := by
 obtain rfl := Option.some.inj h
 clear h
 obtain ⟨A0, c0, rfl⟩ := Kd.R_slice ho0
 obtain ⟨_, hl, hC⟩ := Kd.R_reads' ho0
 have hbig : l0.length ≤ 9223372036854775807 := hC.2.1
 have HO := Aside0.mk ho0
 have HB := Aside0.mk hB
 clear ho0 hB hC
 go_enter Try.func148, Try.ntmps148
 go_wp2
 go_ret
 exact ⟨_, rfl, Kd.R_mono (Kd.R_clip HO.out (Nat.le_refl _) hl) (fun _ h => .inl h), HB.out, Kept.refl _ _⟩

end Go.Proofs.Ytfcpbgedgedalaa.Q

namespace Go.Proofs.Ytfcpbgedgedalaa.Q
open Go.RowKit Go.Proofs.YtfcpbgedgedalaaL.PrintWords Go.Proofs.YtfcpbgedgedalaaL.PrintLast Go.Proofs.YtfcpbgedgedalaaL.PrintMore
attribute [local go_sem] max2_int min2_int max_two min_two max_three min_three max_four min_four   -- for this text's walks alone
set_option linter.unusedVariables false
set_option linter.unusedSimpArgs false

/-! ### slices.Clone at impl.Param: function 149 -/
set_option maxHeartbeats 8000000 in
set_option maxRecDepth 100000 in
theorem cl149.calls (A0 : Option Addr) (c0 : Nat) (l0 : List (S123)) (w : World) (hr0 : Kd.C k123 w A0 l0.length l0) (hl : l0.length * 40 ≤ 140737488355328) :
  Calls Try.prog 149 #[.slice A0 l0.length c0] w fun e w' => ∃ v0_ : Value, e = .returned v0_ ∧ Kd.R k123 123 w' w.heap.size (fun _ => True) v0_ l0 ∧ Below w.heap.size w w' := by
 cases A0 with
 | none =>
  have h0 : l0 = [] := by
   rcases Nat.eq_zero_or_pos l0.length with h | h
   ·exact List.eq_nil_of_length_eq_zero h
   ·obtain ⟨ad, e, _⟩ := hr0.2.2 h; cases e
  subst h0
  clear hr0
  have hE := fun (W : World) => Go.Lib.run_eql_slice_nil (P := Try.prog) W 69 123 none 0 c0 0 0 Try.underlying69
  go_enter Try.func149, Try.ntmps149
  go_wp2
  go_ret
  exact ⟨_, rfl, Kd.R_nil _ _ _ _ _, px_refl _⟩
 | some ad =>
  have HR := Aside0.mk hr0
  have HL := Aside0.mk hl
  clear hr0 hl
  have hE := fun (W : World) => Go.Lib.run_eql_slice_nil (P := Try.prog) W 69 123 (some ad) l0.length c0 0 0 Try.underlying69
  go_enter Try.func149, Try.ntmps149
  go_wp2_with (first | ((with_reducible refine gate_dst (N := 5) rfl ?_); refine Kd.R_lit k123 w.heap.size 123 ?hg (N := 5) ?hd (xs := ([] : List (S123))) (inner := []) (ok := fun _ => True) (okp := fun _ => True) ?hr ?hp (fun _ hk => hk) trivial (Below.refl _ _) (Nat.le_refl _) (by simp) ?_; (case hd => rfl); (case hg => rfl); (case hr => first | (go_simp; done) | (go_simp; rfl)); (case hp => exact (Reps.none _ _)); intro v5 w5 ho5 hb5 hg_ hnew_; clear hg_ hnew_; have HO := Aside0.mk ho5; have HB := Aside0.mk hb5; clear ho5 hb5) | ((with_reducible refine gate_dst (N := 7) rfl ?_); refine Kd.R_append_rows k123 (Rr := k123.K w) (w0 := w) w.heap.size (by rfl) (.tmp 5) (.tmp 6) 69 123 (.agg #[(.string ⟨#[]⟩), (.int .i64 0), (.bool false), (.int .i64 0)]) 40 rfl Try.underlying69 info123 rfl (by decide) (by omega) v5 ([] : List (S123)) l0 _ _ _ (fun _ => True) (fun _ => False) rfl rfl HO.out ?aR (fun x cs h => by rw [k123_open h]; exact k123_mkM _ _ _ _) (fun _ h => h.elim) (fun _ _ => trivial) HB.out (below_size HB.out) ?aL ?_; (case aR => exact ReadsRow.imp_ HR.out HB.out (fun _ _ h => h)); (case aL => simpa using HL.out); intro v7 w7 ho7 hb7 hg_ hnew_; clear hg_ hnew_; have HO7 := Aside0.mk ho7; have HB7 := Aside0.mk hb7; clear ho7 hb7))
  go_ret
  exact ⟨_, rfl, HO7.out, HB7.out⟩
/-! ### impl_Param_135: function 135 (a contract of our own) -/
def impl_Param_135.f (l0 : List (S123)) : Option ((List (S123))) := if l0.length * 40 ≤ 140737488355328 then some l0 else none
set_option maxHeartbeats 8000000 in
set_option maxRecDepth 100000 in
theorem impl_Param_135.calls (A0 : Option Addr) (c0 : Nat) (l0 : List (S123)) (r : List (S123)) (w : World) (hr0 : Kd.C k123 w A0 l0.length l0) (hc0 : l0.length ≤ c0) (h : impl_Param_135.f l0 = some r) :
  Calls Try.prog 135 #[.slice A0 l0.length c0] w fun e w' => ∃ v0_ : Value, e = .returned (v0_) ∧ Kd.R k123 123 w' w.heap.size (fun _ => True) v0_ r ∧ Below w.heap.size w w' := by
 have hl : l0.length * 40 ≤ 140737488355328 := by unfold impl_Param_135.f at h; split at h; assumption; cases h
 have hr : r = l0 := by unfold impl_Param_135.f at h; rw [if_pos hl] at h; exact (Option.some.inj h).symm
 subst hr
 clear h
 have HR := Aside0.mk hr0
 have HL := Aside0.mk hl
 clear hr0 hl hc0
 go_enter Try.func135, Try.ntmps135
 go_wp2_with fail
 refine (cl149.calls _ _ _ _ HR.out HL.out).mono ?_
 rintro e w1 ⟨v1, rfl, hv1, hb1⟩
 have HO1 := Aside0.mk hv1
 have HB1 := Aside0.mk hb1
 clear hv1 hb1
 go_wp2_with fail
 refine (impl_Param_148.calls (fun _ => True) _ _ r w _ HB1.out HO1.out rfl).mono ?_
 rintro e w2 ⟨v2, rfl, hv2, hb2, hk2⟩
 have HO2 := Aside0.mk hv2
 have HB2 := Aside0.mk hb2
 clear hv2 hb2 hk2
 go_wp2
 go_ret
 exact ⟨_, rfl, Kd.R_mono HO2.out (fun _ _ => trivial), HB2.out⟩

/-! ### impl_Signature_copyOf: function 97 -/
def impl_Signature_copyOf.f (l0_0 : List (S123)) : Option ((List (S123))) := (impl_Param_135.f l0_0).bind fun t1095 => (some t1095)
set_option maxHeartbeats 8000000 in
set_option maxRecDepth 100000 in
theorem impl_Signature_copyOf.calls (A0_0 : Option Addr) (c0_0 : Nat) (l0_0 : List (S123)) (r : List (S123)) (w : World) (hr0_0 : Kd.C k123 w A0_0 l0_0.length l0_0) (hc0_0 : l0_0.length ≤ c0_0) (h : impl_Signature_copyOf.f l0_0 = some r) :
  Calls Try.prog 97 #[.agg #[.slice A0_0 l0_0.length c0_0]] w fun e w' => ∃ v0_ : Value, e = .returned (.agg #[v0_]) ∧ Kd.R k123 123 w' w.heap.size (fun _ => True) v0_ r ∧ Below w.heap.size w w' := by
 have hu71 := Try.underlying71
 have HR0_0 := Aside0.mk hr0_0
 have HC0_0 := Aside0.mk hc0_0
 clear hr0_0 hc0_0
 have HB := Aside0.mk (Below.refl w.heap.size w)
 have H : ((impl_Param_135.f l0_0).bind fun t1095 => (some t1095)) = some r := h
 clear h
 replace H := Option.bind_eq_some_iff.mp H
 obtain ⟨t1095, A20, H⟩ := H
 (try dsimp only at H)
 have A2 := Aside0.mk A20
 clear A20
 obtain rfl := Option.some.inj H
 go_enter Try.func97, Try.ntmps97
 go_wp2_with (first | ((with_reducible refine gate_dst (N := 1) rfl ?_); refine box_event ?hg (N := 1) ?hd (cs := #[.slice A0_0 l0_0.length c0_0]) (t := 71) ?hr ?_; (case hd => rfl); (case hg => rfl); (case hr => first | (go_simp; done) | (go_simp; rfl)); intro gb1093 hg w3 hbox hb; have BK1093 := Aside0.mk (hbox); have GW1093 := Aside0.mk ((by rw [hg]; exact (below_size (zB HB)) : w.heap.size ≤ gb1093)); have GE1093 := Aside0.mk ((by rw [hg]; exact (below_size (zB HB)) : w.heap.size ≤ gb1093)); replace HB := Aside0.mk (below_step (zB HB) hb); clear hb hbox hg) | ((with_reducible refine gate_dst (N := 2) rfl ?_); refine box_event ?hg (N := 2) ?hd (cs := #[.slice none 0 0]) (t := 71) ?hr ?_; (case hd => rfl); (case hg => rfl); (case hr => first | (go_simp; done) | (go_simp; rfl)); intro gb1094 hg w4 hbox hb; have BK1094 := Aside0.mk (hbox); have GW1094 := Aside0.mk ((by rw [hg]; exact (below_size (zB HB)) : w.heap.size ≤ gb1094)); have GE1094 := Aside0.mk ((by rw [hg]; exact (below_size (zB HB)) : w.heap.size ≤ gb1094)); replace HB := Aside0.mk (below_step (zB HB) hb); have NB1093_1094 := Aside0.mk ((by rw [hg]; exact Nat.ne_of_lt (blk_lt (g := gb1093) (o := .cells #[.slice A0_0 l0_0.length c0_0] 71 (0, 0)) (zb BK1093)) : gb1093 ≠ gb1094)); have NB1094_1093 := Aside0.mk ((by rw [hg]; exact Nat.ne_of_gt (blk_lt (g := gb1093) (o := .cells #[.slice A0_0 l0_0.length c0_0] 71 (0, 0)) (zb BK1093)) : gb1094 ≠ gb1093)); replace BK1093 := Aside0.mk (blk_below (g := gb1093) (o := .cells #[.slice A0_0 l0_0.length c0_0] 71 (0, 0)) (zb BK1093) hb); clear hb hbox hg; have hnb5 := NB1093_1094.out; have hnc5 := NB1094_1093.out; have hcz6_0 : w4.cell? ⟨gb1093, 0, none⟩ = some (.slice A0_0 l0_0.length c0_0) := (blk_cell BK1093.out 0).trans rfl; have hfz6_0 := blk_frozen BK1093.out 0) | ((with_reducible refine gate_callee (f := 135) rfl ?_); refine goesL_ (some 5) rfl rfl Try.func135 (by kernel_rfl) rfl #[.slice A0_0 l0_0.length c0_0] rfl zl ?_; (with_reducible refine (impl_Param_135.calls _ _ l0_0 t1095 _ ?side1 ?side2 A2.out).mono ?_); (case side1 => repeat (first | exact (Kd.C_below HR0_0.out HB.out) | (with_reducible refine Kd.C_alloc ?_ _) | (with_reducible refine Kd.C_drewN ?_ _) | (with_reducible refine Kd.C_drew ?_))); (case side2 => exact HC0_0.out); rintro e w7 ⟨v1096, rfl, ho0, hb⟩; refine ⟨_, rfl, ?_⟩; have HO1097 := Aside0.mk (Kd.R_lower ho0 (below_size (zB HB))); replace BK1093 := Aside0.mk (blk_below (g := gb1093) (o := .cells #[.slice A0_0 l0_0.length c0_0] 71 (0, 0)) (zb BK1093) hb); replace BK1094 := Aside0.mk (blk_below (g := gb1094) (o := .cells #[.slice none 0 0] 71 (0, 0)) (zb BK1094) hb); replace HB := Aside0.mk (below_step (zB HB) hb); (try clear hb); (try clear hb2); (try clear hk); (try clear hi); (try clear ho0); obtain ⟨Ao8, co8, eo8⟩ := Kd.R_slice HO1097.out; subst eo8; have hcz9_0 : w7.cell? ⟨gb1094, 0, none⟩ = some (.slice none 0 0) := (blk_cell BK1094.out 0).trans rfl; have hfz9_0 := blk_frozen BK1094.out 0))
 refine bodyPost_ret (results_cell_row rfl _ _ gb1094 71 #[.slice Ao8 t1095.length co8] (0, 0) _ rfl (by (with_reducible repeat (first | refine blk_drewN ?_ _ | refine blk_drew ?_ | refine blk_alloc ?_ _)); refine blk_put (cs := #[.slice none 0 0]) ?_ 0 _ rfl; (with_reducible repeat (first | refine blk_drewN ?_ _ | refine blk_drew ?_ | refine blk_alloc ?_ _)); exact BK1094.out) Try.underlying71 rfl (by kernel_rfl)) rfl ?_
 exact ⟨_, by first | rfl | (simp [errW_none, errW_some] <;> rfl) | (simp [*, errW_none, errW_some] <;> rfl), by (with_reducible repeat (first | apply Kd.R_alloc | apply Kd.R_drewN | apply Kd.R_drew)); exact Kd.R_mono (Kd.R_far (p := ⟨gb1094, 0, none⟩) (Kd.R_types HO1097.out BK1094.out (by decide)) (fun _ hk => hk.2) (.slice Ao8 t1095.length co8)) (fun _ hk => trivial), zB HB⟩

end Go.Proofs.Ytfcpbgedgedalaa.Q

namespace Go.Proofs.Ytfcpbgedgedalaa.Q
open Go.RowKit Go.Proofs.YtfcpbgedgedalaaL.PrintWords Go.Proofs.YtfcpbgedgedalaaL.PrintLast Go.Proofs.YtfcpbgedgedalaaL.PrintMore
attribute [local go_sem] max2_int min2_int max_two min_two max_three min_three max_four min_four   -- for this text's walks alone
set_option linter.unusedVariables false
set_option linter.unusedSimpArgs false

/-! ### impl_TurnSignature: function 48 -/
mutual
def impl_TurnSignature.j0 : Nat → List (S107) → Bool → List (S123) → Option ((List (S123)))
 | 0, _, _, _ => none
 | k + 1, x0, x14, x1099000 => if x14 = true then (some ([] : List (S123))) else ((impl_Signature_copyOf.f x1099000).bind fun t1102 => (impl_TurnSignature.l0 k x0 (t1102.length : Int) 0 t1102))
def impl_TurnSignature.l0 : Nat → List (S107) → Int → Int → List (S123) → Option ((List (S123)))
 | 0, _, _, _, _ => none
 | k + 1, x0, x20, x21, x1106000 => if x21 < x20 then (if 0 ≤ x21 then (if x21 < (x1106000.length : Int) then ((impl_turn.f k x0 ((rd_T123 x1106000 x21).f0)).bind fun t1107 => (impl_TurnSignature.l0 k x0 x20 (wrap64 (x21 + 1)) (x1106000.set (x21 : Int).toNat (⟨t1107, (rd_T123 x1106000 x21).f1, (rd_T123 x1106000 x21).f2, (rd_T123 x1106000 x21).f3⟩ : S123)))) else (none)) else (none)) else (some x1106000)
end
def impl_TurnSignature.f (k : Nat) (l0 : List (S107)) (l1_0 : List (S123)) : Option ((List (S123))) := (impl_ValidTurns.f l0).bind fun t1100 => (if t1100 = true then ((impl_ValidSignature.f k l1_0).bind fun t1101 => (impl_TurnSignature.j0 k l0 (!t1101) l1_0)) else (impl_TurnSignature.j0 k l0 true l1_0))
theorem impl_TurnSignature.mono_l : ∀ k, (∀ y0 y1 y2, LeO (impl_TurnSignature.j0 k y0 y1 y2) (impl_TurnSignature.j0 (k + 1) y0 y1 y2)) ∧ (∀ y0 y1 y2 y3, LeO (impl_TurnSignature.l0 k y0 y1 y2 y3) (impl_TurnSignature.l0 (k + 1) y0 y1 y2 y3))
 | 0 => ⟨fun _ _ _ r h => by simp [impl_TurnSignature.j0] at h, fun _ _ _ _ r h => by simp [impl_TurnSignature.l0] at h⟩
 | k + 1 => by
  obtain ⟨ih0, ih1⟩ := impl_TurnSignature.mono_l k
  refine ⟨?_, ?_⟩
  all_goals intros
  all_goals (first | unfold impl_TurnSignature.j0 | unfold impl_TurnSignature.l0)
  all_goals repeat' first
   | (with_reducible exact ih0 _ _ _)
   | (with_reducible exact ih1 _ _ _ _)
   | (with_reducible exact impl_ValidSignature.mono _ _)
   | (with_reducible exact impl_turn.mono _ _ _)
   | (with_reducible exact LeO.refl _)
   | (with_reducible exact LeO.none _)
   | (with_reducible refine LeO.ite ?_ ?_)
   | (with_reducible refine LeO.bind ?_ (fun _ => ?_))
   | exact ih0 _ _ _
   | exact ih1 _ _ _ _
   | exact impl_ValidSignature.mono _ _
   | exact impl_turn.mono _ _ _
   | exact LeO.none _
   | refine LeO.ite ?_ ?_
   | refine LeO.bind ?_ (fun _ => ?_)
theorem impl_TurnSignature.mono : ∀ a0 a1 k, LeO (impl_TurnSignature.f k a0 a1) (impl_TurnSignature.f (k + 1) a0 a1) := by
 intro a0 a1 k
 obtain ⟨ih0, ih1⟩ := impl_TurnSignature.mono_l k
 unfold impl_TurnSignature.f
 repeat' first
   | (with_reducible exact ih0 _ _ _)
   | (with_reducible exact ih1 _ _ _ _)
   | (with_reducible exact impl_ValidSignature.mono _ _)
   | (with_reducible exact impl_turn.mono _ _ _)
   | (with_reducible exact LeO.refl _)
   | (with_reducible exact LeO.none _)
   | (with_reducible refine LeO.ite ?_ ?_)
   | (with_reducible refine LeO.bind ?_ (fun _ => ?_))
   | exact ih0 _ _ _
   | exact ih1 _ _ _ _
   | exact impl_ValidSignature.mono _ _
   | exact impl_turn.mono _ _ _
   | exact LeO.none _
   | refine LeO.ite ?_ ?_
   | refine LeO.bind ?_ (fun _ => ?_)
def impl_TurnSignature.T7 : Bool × List (List Nat × List Nat) := (true, [([], []), ([0], [0]), ([], []), ([], []), ([], []), ([4], [4]), ([], []), ([5, 6], [5, 6]), ([7], [7]), ([8], [8]), ([3, 9], [3, 9]), ([1, 2, 0, 1, 2, 3, 4, 5, 6, 7, 8, 9, 10], [1, 2]), ([11, 0, 1, 2, 3, 4, 5, 6, 7, 8, 9, 10], [11]), ([12, 10, 10, 0, 1, 2, 3, 4, 5, 6, 7, 8, 9, 10], [10, 12])])
def impl_TurnSignature.B7 : List Nat := [0, 1, 0, 0, 0, 16, 0, 112, 240, 496, 1016, 2047, 4095, 8191]
theorem impl_TurnSignature.tab7 : rtab .any (opsOf Try.f48 7) = impl_TurnSignature.T7 := by kernel_rfl
theorem impl_TurnSignature.bits7 : waitsOk impl_TurnSignature.T7.2 impl_TurnSignature.B7 = true := by kernel_rfl
set_option maxHeartbeats 8000000 in
set_option maxRecDepth 100000 in
theorem impl_TurnSignature.calls (k : Nat) (A0 : Option Addr) (c0 : Nat) (l0 : List (S107)) (A1_0 : Option Addr) (c1_0 : Nat) (l1_0 : List (S123)) (r : List (S123)) (w : World) (hr0 : Kd.C k107 w A0 l0.length l0) (hc0 : l0.length ≤ c0) (hr1_0 : Kd.C k123 w A1_0 l1_0.length l1_0) (hc1_0 : l1_0.length ≤ c1_0) (h : impl_TurnSignature.f k l0 l1_0 = some r) :
  Calls Try.prog 48 #[.slice A0 l0.length c0, .agg #[.slice A1_0 l1_0.length c1_0]] w fun e w' => ∃ v0_ : Value, e = .returned (.agg #[v0_]) ∧ Kd.R k123 123 w' w.heap.size (fun _ => True) v0_ r ∧ Below w.heap.size w w' := by
 have hu71 := Try.underlying71
 have HR0 := Aside0.mk hr0
 have HC0 := Aside0.mk hc0
 clear hr0 hc0
 have HR1_0 := Aside0.mk hr1_0
 have HC1_0 := Aside0.mk hc1_0
 clear hr1_0 hc1_0
 have HB := Aside0.mk (Below.refl w.heap.size w)
 have H : ((impl_ValidTurns.f l0).bind fun t1100 => (if t1100 = true then ((impl_ValidSignature.f k l1_0).bind fun t1101 => (impl_TurnSignature.j0 k l0 (!t1101) l1_0)) else (impl_TurnSignature.j0 k l0 true l1_0))) = some r := h
 clear h
 have HC3 := Aside0.mk H
 clear H
 go_enter Try.func48, Try.ntmps48
 go_upto_region 1 with (first | ((with_reducible refine gate_dst (N := 3) rfl ?_); refine box_event ?hg (N := 3) ?hd (cs := #[.slice A1_0 l1_0.length c1_0]) (t := 71) ?hr ?_; (case hd => rfl); (case hg => rfl); (case hr => first | (go_simp; done) | (go_simp; rfl)); intro gb1098 hg w4 hbox hb; have BK1098 := Aside0.mk (hbox); have GW1098 := Aside0.mk ((by rw [hg]; exact (below_size (zB HB)) : w.heap.size ≤ gb1098)); have GE1098 := Aside0.mk ((by rw [hg]; exact (below_size (zB HB)) : w.heap.size ≤ gb1098)); replace HB := Aside0.mk (below_step (zB HB) hb); clear hb hbox hg) | ((with_reducible refine gate_dst (N := 4) rfl ?_); refine box_event ?hg (N := 4) ?hd (cs := #[.slice none 0 0]) (t := 71) ?hr ?_; (case hd => rfl); (case hg => rfl); (case hr => first | (go_simp; done) | (go_simp; rfl)); intro gb1099 hg w5 hbox hb; have BK1099 := Aside0.mk (hbox); have GW1099 := Aside0.mk ((by rw [hg]; exact (below_size (zB HB)) : w.heap.size ≤ gb1099)); have GE1099 := Aside0.mk ((by rw [hg]; exact (below_size (zB HB)) : w.heap.size ≤ gb1099)); replace HB := Aside0.mk (below_step (zB HB) hb); have NB1098_1099 := Aside0.mk ((by rw [hg]; exact Nat.ne_of_lt (blk_lt (g := gb1098) (o := .cells #[.slice A1_0 l1_0.length c1_0] 71 (0, 0)) (zb BK1098)) : gb1098 ≠ gb1099)); have NB1099_1098 := Aside0.mk ((by rw [hg]; exact Nat.ne_of_gt (blk_lt (g := gb1098) (o := .cells #[.slice A1_0 l1_0.length c1_0] 71 (0, 0)) (zb BK1098)) : gb1099 ≠ gb1098)); replace BK1098 := Aside0.mk (blk_below (g := gb1098) (o := .cells #[.slice A1_0 l1_0.length c1_0] 71 (0, 0)) (zb BK1098) hb); clear hb hbox hg))
 (try simp only [Act.put, List.setIfInBounds_toArray, List.set_cons_zero, List.set_cons_succ])
 go_cut [14] (fun v14 wc => ∃ (kq : Nat) (x14_2 : Bool), v14 = .bool x14_2 ∧ Aside0 (impl_TurnSignature.j0 kq l0 x14_2 l1_0 = some r) ∧ Aside0 (kq ≤ k) ∧ Aside0 (wc.heap[gb1098]? = some (.cells #[(.slice A1_0 l1_0.length c1_0)] 71 (0, 0))) ∧ Aside0 (wc.heap[gb1099]? = some (.cells #[(.slice none 0 0)] 71 (0, 0))) ∧ Aside0 (Below w.heap.size w wc))
 case first =>
  have H := HC3.out
  clear HC3
  replace H := Option.bind_eq_some_iff.mp H
  obtain ⟨t1100, A60, H⟩ := H
  (try dsimp only at H)
  have A6 := Aside0.mk A60
  clear A60
  by_cases c7 : t1100 = true
  ·subst c7
   rw [if_pos rfl] at H
   replace H := Option.bind_eq_some_iff.mp H
   obtain ⟨t1101, A80, H⟩ := H
   (try dsimp only at H)
   have A8 := Aside0.mk A80
   clear A80
   have H' := Aside0.mk H
   clear H
   go_wp2_with (first | ((with_reducible refine gate_callee (f := 46) rfl ?_); refine goesL_ (some 8) rfl rfl Try.func46 (by kernel_rfl) rfl #[.slice A0 l0.length c0] rfl zl ?_; (with_reducible refine (impl_ValidTurns.calls _ _ l0 true _ ?side1 ?side2 A6.out).mono ?_); (case side1 => repeat (first | exact (Kd.C_below HR0.out HB.out) | (with_reducible refine Kd.C_alloc ?_ _) | (with_reducible refine Kd.C_drewN ?_ _) | (with_reducible refine Kd.C_drew ?_))); (case side2 => exact HC0.out); rintro e w9 ⟨rfl, hb⟩; refine ⟨_, rfl, ?_⟩; replace BK1098 := Aside0.mk (blk_below (g := gb1098) (o := .cells #[.slice A1_0 l1_0.length c1_0] 71 (0, 0)) (zb BK1098) hb); replace BK1099 := Aside0.mk (blk_below (g := gb1099) (o := .cells #[.slice none 0 0] 71 (0, 0)) (zb BK1099) hb); replace HB := Aside0.mk (below_step (zB HB) hb); (try clear hb); (try clear hb2); (try clear hk); (try clear hi); have hnb10 := NB1098_1099.out; have hnc10 := NB1099_1098.out; have hcz11_0 : w9.cell? ⟨gb1098, 0, none⟩ = some (.slice A1_0 l1_0.length c1_0) := (blk_cell BK1098.out 0).trans rfl; have hfz11_0 := blk_frozen BK1098.out 0) | (go_at_call 51; (with_reducible refine (impl_ValidSignature.calls k _ _ l1_0 t1101 _ ?side1 ?side2 A8.out).mono ?_); (case side1 => repeat (first | exact (Kd.C_below HR1_0.out HB.out) | (with_reducible refine Kd.C_alloc ?_ _) | (with_reducible refine Kd.C_drewN ?_ _) | (with_reducible refine Kd.C_drew ?_))); (case side2 => exact HC1_0.out); rintro e w12 ⟨rfl, hb⟩; replace BK1098 := Aside0.mk (blk_below (g := gb1098) (o := .cells #[.slice A1_0 l1_0.length c1_0] 71 (0, 0)) (zb BK1098) hb); replace BK1099 := Aside0.mk (blk_below (g := gb1099) (o := .cells #[.slice none 0 0] 71 (0, 0)) (zb BK1099) hb); replace HB := Aside0.mk (below_step (zB HB) hb); (try clear hb); (try clear hb2); (try clear hk); (try clear hi)))
   go_meet
   case rel => exact ⟨_, (!t1101), zr, H', ⟨by first | omega | exact Nat.le_refl _⟩, ⟨zb BK1098⟩, ⟨zb BK1099⟩, ⟨zB HB⟩⟩
  ·replace c7 := Bool.eq_false_iff.mpr c7
   subst c7
   rw [if_neg (show ¬ (false = true) by decide)] at H
   have H' := Aside0.mk H
   clear H
   go_wp2_with (first | ((with_reducible refine gate_callee (f := 46) rfl ?_); refine goesL_ (some 8) rfl rfl Try.func46 (by kernel_rfl) rfl #[.slice A0 l0.length c0] rfl zl ?_; (with_reducible refine (impl_ValidTurns.calls _ _ l0 false _ ?side1 ?side2 A6.out).mono ?_); (case side1 => repeat (first | exact (Kd.C_below HR0.out HB.out) | (with_reducible refine Kd.C_alloc ?_ _) | (with_reducible refine Kd.C_drewN ?_ _) | (with_reducible refine Kd.C_drew ?_))); (case side2 => exact HC0.out); rintro e w13 ⟨rfl, hb⟩; refine ⟨_, rfl, ?_⟩; replace BK1098 := Aside0.mk (blk_below (g := gb1098) (o := .cells #[.slice A1_0 l1_0.length c1_0] 71 (0, 0)) (zb BK1098) hb); replace BK1099 := Aside0.mk (blk_below (g := gb1099) (o := .cells #[.slice none 0 0] 71 (0, 0)) (zb BK1099) hb); replace HB := Aside0.mk (below_step (zB HB) hb); (try clear hb); (try clear hb2); (try clear hk); (try clear hi)))
   go_meet
   case rel => exact ⟨_, (true), zr, H', ⟨by first | omega | exact Nat.le_refl _⟩, ⟨zb BK1098⟩, ⟨zb BK1099⟩, ⟨zB HB⟩⟩
 case rest =>
  clear HC3
  try clear c1
  try clear p2
  try clear c4
  try clear c7
  try clear c10
  try clear hcz11_0
  try clear hfz11_0
  obtain ⟨kq, x14_2, rfl, HA, HJ2, BK1098, BK1099, HB⟩ := hcut
  cases kq with
  | zero => exact absurd HA.out (by simp [impl_TurnSignature.j0])
  | succ kj2 =>
   have H := HA.out
   clear HA
   simp only [impl_TurnSignature.j0] at H
   by_cases c14 : x14_2 = true
   ·subst c14
    rw [if_pos rfl] at H
    obtain rfl := Option.some.inj H
    have hnb15 := NB1099_1098.out
    have hnc15 := NB1098_1099.out
    have hcz16_0 : wc.cell? ⟨gb1099, 0, none⟩ = some (.slice none 0 0) := (blk_cell BK1099.out 0).trans rfl
    have hfz16_0 := blk_frozen BK1099.out 0
    go_wp2
    refine bodyPost_ret (results_cell_row rfl _ _ gb1099 71 #[.slice none 0 0] (0, 0) _ rfl (by (with_reducible repeat (first | refine blk_drewN ?_ _ | refine blk_drew ?_ | refine blk_alloc ?_ _)); refine blk_put (cs := #[.slice none 0 0]) ?_ 0 _ rfl; (with_reducible repeat (first | refine blk_drewN ?_ _ | refine blk_drew ?_ | refine blk_alloc ?_ _)); exact BK1099.out) Try.underlying71 rfl (by kernel_rfl)) rfl ?_
    exact ⟨_, by first | rfl | (simp [errW_none, errW_some] <;> rfl) | (simp [*, errW_none, errW_some] <;> rfl), by first | exact Kd.R_nil _ _ _ _ _ | exact Kd.N_nil _ _ _ _ _ | exact Kd.V_nil _ _ _ _ _ | exact Kd.Q_nil _ _ _ _ _ | exact Kd.S_nil _ _ _ _ _, zB HB⟩
   ·replace c14 := Bool.eq_false_iff.mpr c14
    subst c14
    rw [if_neg (show ¬ (false = true) by decide)] at H
    replace H := Option.bind_eq_some_iff.mp H
    obtain ⟨t1102, A170, H⟩ := H
    (try dsimp only at H)
    have A17 := Aside0.mk A170
    clear A170
    have H' := Aside0.mk H
    clear H
    have hnb18 := NB1098_1099.out
    have hnc18 := NB1099_1098.out
    have hcz19_0 : wc.cell? ⟨gb1098, 0, none⟩ = some (.slice A1_0 l1_0.length c1_0) := (blk_cell BK1098.out 0).trans rfl
    have hfz19_0 := blk_frozen BK1098.out 0
    go_wp2_with (first | ((with_reducible refine gate_callee (f := 97) rfl ?_); refine goesL_ (some 17) rfl rfl Try.func97 (by kernel_rfl) rfl #[.agg #[.slice A1_0 l1_0.length c1_0]] rfl zl ?_; (with_reducible refine (impl_Signature_copyOf.calls _ _ l1_0 t1102 _ ?side1 ?side2 A17.out).mono ?_); (case side1 => repeat (first | exact (Kd.C_below HR1_0.out HB.out) | (with_reducible refine Kd.C_alloc ?_ _) | (with_reducible refine Kd.C_drewN ?_ _) | (with_reducible refine Kd.C_drew ?_))); (case side2 => exact HC1_0.out); rintro e w20 ⟨v1103, rfl, ho0, hb⟩; refine ⟨_, rfl, ?_⟩; have HO1104 := Aside0.mk (Kd.R_lower ho0 (below_size (zB HB))); replace BK1098 := Aside0.mk (blk_below (g := gb1098) (o := .cells #[.slice A1_0 l1_0.length c1_0] 71 (0, 0)) (zb BK1098) hb); replace BK1099 := Aside0.mk (blk_below (g := gb1099) (o := .cells #[.slice none 0 0] 71 (0, 0)) (zb BK1099) hb); replace HB := Aside0.mk (below_step (zB HB) hb); (try clear hb); (try clear hb2); (try clear hk); (try clear hi); (try clear ho0)) | ((with_reducible refine gate_dst (N := 5) rfl ?_); refine box_event ?hg (N := 5) ?hd (cs := #[.slice none 0 0]) (t := 71) ?hr ?_; (case hd => rfl); (case hg => rfl); (case hr => first | (go_simp; done) | (go_simp; rfl)); intro gb1105 hg w21 hbox hb; replace HO1104 := Aside0.mk (Kd.R_below (zo HO1104) hb); have BK1105 := Aside0.mk (hbox); have GW1105 := Aside0.mk ((by rw [hg]; exact (below_size (zB HB)) : w.heap.size ≤ gb1105)); have GE1105 := Aside0.mk ((by rw [hg]; exact (below_size (zB HB)) : w.heap.size ≤ gb1105)); replace HB := Aside0.mk (below_step (zB HB) hb); have NB1098_1105 := Aside0.mk ((by rw [hg]; exact Nat.ne_of_lt (blk_lt (g := gb1098) (o := .cells #[.slice A1_0 l1_0.length c1_0] 71 (0, 0)) (zb BK1098)) : gb1098 ≠ gb1105)); have NB1105_1098 := Aside0.mk ((by rw [hg]; exact Nat.ne_of_gt (blk_lt (g := gb1098) (o := .cells #[.slice A1_0 l1_0.length c1_0] 71 (0, 0)) (zb BK1098)) : gb1105 ≠ gb1098)); replace BK1098 := Aside0.mk (blk_below (g := gb1098) (o := .cells #[.slice A1_0 l1_0.length c1_0] 71 (0, 0)) (zb BK1098) hb); have NB1099_1105 := Aside0.mk ((by rw [hg]; exact Nat.ne_of_lt (blk_lt (g := gb1099) (o := .cells #[.slice none 0 0] 71 (0, 0)) (zb BK1099)) : gb1099 ≠ gb1105)); have NB1105_1099 := Aside0.mk ((by rw [hg]; exact Nat.ne_of_gt (blk_lt (g := gb1099) (o := .cells #[.slice none 0 0] 71 (0, 0)) (zb BK1099)) : gb1105 ≠ gb1099)); replace BK1099 := Aside0.mk (blk_below (g := gb1099) (o := .cells #[.slice none 0 0] 71 (0, 0)) (zb BK1099) hb); clear hb hbox hg; obtain ⟨Ao22, co22, eo22⟩ := Kd.R_slice HO1104.out; subst eo22; have hnb23 := NB1105_1098.out; have hnc23 := NB1098_1105.out; have hnb24 := NB1105_1099.out; have hnc24 := NB1099_1105.out; have hcz25_0 : w21.cell? ⟨gb1105, 0, none⟩ = some (.slice none 0 0) := (blk_cell BK1105.out 0).trans rfl; have hfz25_0 := blk_frozen BK1105.out 0))
    go_loopg [21] kj2 (fun kq v21 w' => ∃ (x21_2 : Int) (x1106000_2 : List (S123)) (u1106000 : Value), v21 = .int .i64 x21_2 ∧ Aside0 (impl_TurnSignature.l0 kq l0 (t1102.length : Int) x21_2 x1106000_2 = some r) ∧ Aside0 (kq ≤ kj2) ∧ Aside0 (Kd.R k123 123 w' w.heap.size (fun _ => True) u1106000 x1106000_2) ∧ Aside0 (w'.heap[gb1098]? = some (.cells #[(.slice A1_0 l1_0.length c1_0)] 71 (0, 0))) ∧ Aside0 (w'.heap[gb1099]? = some (.cells #[(.slice none 0 0)] 71 (0, 0))) ∧ Aside0 (w'.heap[gb1105]? = some (.cells #[u1106000] 71 (0, 0))) ∧ Aside0 (Below w.heap.size w w'))
    case atStart => exact ⟨(0), (t1102), (.slice Ao22 t1102.length co22), zr, H', ⟨Nat.le_refl _⟩, ⟨by (with_reducible repeat (first | apply Kd.R_alloc | apply Kd.R_drewN | apply Kd.R_drew)); exact Kd.R_mono (Kd.R_far (p := ⟨gb1105, 0, none⟩) (Kd.R_types HO1104.out BK1105.out (by decide)) (fun _ hk => hk.2) (.slice Ao22 t1102.length co22)) (fun _ hk => trivial)⟩, ⟨zf BK1098⟩, ⟨zf BK1099⟩, ⟨by (with_reducible repeat (first | refine blk_drewN ?_ _ | refine blk_drew ?_ | refine blk_alloc ?_ _)); refine blk_put (cs := #[.slice none 0 0]) ?_ 0 _ rfl; (with_reducible repeat (first | refine blk_drewN ?_ _ | refine blk_drew ?_ | refine blk_alloc ?_ _)); exact BK1105.out⟩, ⟨zB HB⟩⟩
    case round =>
     clear H'
     try clear c1
     try clear c2
     try clear p2
     try clear c4
     try clear c7
     try clear c9
     try clear c10
     try clear c14
     try clear c15
     try clear c18
     try clear c23
     try clear c24
     try clear hcz11_0
     try clear hcz16_0
     try clear hcz19_0
     try clear hcz25_0
     try clear hfz11_0
     try clear hfz16_0
     try clear hfz19_0
     try clear hfz25_0
     try clear p2
     obtain ⟨x21_2, x1106000_2, u1106000, rfl, HA, HK2, HO_1106000, BK1098, BK1099, BK1105, HB⟩ := hrel
     cases gk with
     | zero => exact absurd HA.out (by simp [impl_TurnSignature.l0])
     | succ k2 =>
      have H := HA.out
      clear HA
      simp only [impl_TurnSignature.l0] at H
      by_cases c26 : x21_2 < (t1102.length : Int)
      ·rw [if_pos c26] at H
       have c26b0 : decide (x21_2 < (t1102.length : Int)) = true := decide_eq_true c26
       clear c26
       by_cases c27 : 0 ≤ x21_2
       ·rw [if_pos c27] at H
        have c27b0 : decide (0 ≤ x21_2) = true := decide_eq_true c27
        clear c27
        by_cases c28 : x21_2 < (x1106000_2.length : Int)
        ·rw [if_pos c28] at H
         have c28b0 : decide (x21_2 < (x1106000_2.length : Int)) = true := decide_eq_true c28
         clear c28
         replace H := Option.bind_eq_some_iff.mp H
         obtain ⟨t1107, A290, H⟩ := H
         (try dsimp only at H)
         have A29 := Aside0.mk A290
         clear A290
         obtain ⟨y1108, hy1108⟩ : ∃ y_ : List (S123), y_ = (x1106000_2.set (x21_2 : Int).toNat (⟨t1107, (rd_T123 x1106000_2 x21_2).f1, (rd_T123 x1106000_2 x21_2).f2, (rd_T123 x1106000_2 x21_2).f3⟩ : S123)) := ⟨_, rfl⟩
         replace H : (impl_TurnSignature.l0 k2 l0 (t1102.length : Int) (wrap64 (x21_2 + 1)) y1108) = some r := by first | (rw [hy1108]; with_reducible exact H) | (have H2_ := (Option.bind_some _ _).symm.trans H; rw [hy1108]; with_reducible exact H2_) | (have H2_ := (Option.bind_some _ _).symm.trans H; with_reducible exact H2_) | with_reducible exact H | (rw [hy1108]; exact H) | exact H
         have Ny1108 := Aside0.mk hy1108
         clear hy1108
         have H' := Aside0.mk H
         clear H
         try go_wp2
         replace HO_1106000 := Aside0.mk (Kd.R_drew HO_1106000.out)
         replace BK1098 := Aside0.mk (blk_drew BK1098.out)
         replace BK1099 := Aside0.mk (blk_drew BK1099.out)
         replace BK1105 := Aside0.mk (blk_drew BK1105.out)
         replace HB := Aside0.mk (below_drew1 HB.out)
         obtain ⟨Ao32, co32, eo32⟩ := Kd.R_slice HO_1106000.out
         (first | subst eo32 | (injection eo32 with f1_ f2_ f3_; have f4_ := f1_.symm; have f5_ := f3_.symm; clear f1_ f2_ f3_; subst f4_; subst f5_))
         have p1106 : 0 ≤ (x21_2 : Int) := of_decide_eq_true za
         have q1106 : x21_2 < (x1106000_2.length : Int) := of_decide_eq_true za
         obtain ⟨ad1106, e1106, hx1106_0, hx1106_1, hx1106_2, hx1106_3⟩ := at_T123 (Kd.R_reads' HO_1106000.out).2.2 x21_2 p1106 q1106
         cases e1106
         replace p1106 := eq_true p1106
         replace q1106 := eq_true q1106
         refine start_ (n := 14) (S := fun w' => w'.cell? ⟨gb1105, 0, none⟩ = some (.slice (some ad1106) x1106000_2.length co32) ∧ w'.cell? (ad1106.add ((x21_2).toNat * 4)) = some (.string ((rd_T123 x1106000_2 x21_2).f0)) ∧ w'.cell? ⟨(ad1106.add ((x21_2).toNat * 4)).block, (ad1106.add ((x21_2).toNat * 4)).off + 1, none⟩ = some (.int .i64 ((rd_T123 x1106000_2 x21_2).f1)) ∧ w'.cell? ⟨(ad1106.add ((x21_2).toNat * 4)).block, (ad1106.add ((x21_2).toNat * 4)).off + 2, none⟩ = some (.bool ((rd_T123 x1106000_2 x21_2).f2)) ∧ w'.cell? ⟨(ad1106.add ((x21_2).toNat * 4)).block, (ad1106.add ((x21_2).toNat * 4)).off + 3, none⟩ = some (.int .i64 ((rd_T123 x1106000_2 x21_2).f3))) (ds := [13]) #[false, false, false, false, false, false, false, false, false, false, false, false, false, false] (by kernel_rfl) rfl rfl ⟨(blk_cell BK1105.out 0).trans rfl, hx1106_0, hx1106_1, hx1106_2, hx1106_3⟩ (fun hHeld => ?_); refine with_tabW impl_TurnSignature.tab7 impl_TurnSignature.bits7 (fun HT_ HW_ => ?_)
         generalize wr.drew = w31 at HO_1106000 BK1098 BK1099 BK1105 HB hx1106_0 hx1106_1 hx1106_2 hx1106_3 hHeld ⊢
         refine pure_ (i := 0) (N := some 24) (v := ?_) (a' := ?_) #[true, false, false, false, false, false, false, false, false, false, false, false, false, false] rfl rfl (any_of HT_.out (by kernel_rfl)) (fun _ _ _ h => h) (Or.inl ⟨by rfl, ?_⟩) ?_ ?_
         rotate_left
         ·intro w'
          go_simp
          with_reducible rfl
         rotate_left
         ·simp only [Act.put, List.setIfInBounds_toArray, List.set_cons_zero, List.set_cons_succ, i64_w, i32_w]
          rfl
         refine pure_ (i := 2) (N := some 26) (v := ?_) (a' := ?_) #[true, false, true, false, false, false, false, false, false, false, false, false, false, false] rfl rfl (any_of HT_.out (by kernel_rfl)) (fun _ _ _ h => h) (Or.inl ⟨by rfl, ?_⟩) ?_ ?_
         rotate_left
         ·intro w'
          go_simp
          with_reducible rfl
         rotate_left
         ·simp only [Act.put, List.setIfInBounds_toArray, List.set_cons_zero, List.set_cons_succ, i64_w, i32_w]
          rfl
         refine pure_ (i := 3) (N := some 27) (v := ?_) (a' := ?_) #[true, false, true, true, false, false, false, false, false, false, false, false, false, false] rfl rfl (any_of HT_.out (by kernel_rfl)) (fun _ _ _ h => h) (Or.inl ⟨by rfl, ?_⟩) ?_ ?_
         rotate_left
         ·intro w'
          go_simp
          with_reducible rfl
         rotate_left
         ·simp only [Act.put, List.setIfInBounds_toArray, List.set_cons_zero, List.set_cons_succ, i64_w, i32_w]
          rfl
         refine pure_ (i := 4) (N := some 28) (v := ?_) (a' := ?_) #[true, false, true, true, true, false, false, false, false, false, false, false, false, false] rfl rfl (any_of HT_.out (by kernel_rfl)) (fun _ _ _ h => h) (Or.inl ⟨by rfl, ?_⟩) ?_ ?_
         rotate_left
         ·intro w'
          go_simp
          with_reducible rfl
         rotate_left
         ·simp only [Act.put, List.setIfInBounds_toArray, List.set_cons_zero, List.set_cons_succ, i64_w, i32_w]
          rfl
         refine pure_ (i := 6) (N := some 30) (v := ?_) (a' := ?_) #[true, false, true, true, true, false, true, false, false, false, false, false, false, false] rfl rfl (any_of HT_.out (by kernel_rfl)) (fun _ _ _ h => h) (Or.inl ⟨by rfl, ?_⟩) ?_ ?_
         rotate_left
         ·intro w'
          go_simp
          with_reducible rfl
         rotate_left
         ·simp only [Act.put, List.setIfInBounds_toArray, List.set_cons_zero, List.set_cons_succ, i64_w, i32_w]
          rfl
         refine take_ (i := 1) (N := some 25) (v := ?_) (a' := ?_) #[true, true, true, true, true, false, true, false, false, false, false, false, false, false] rfl rfl (take_ofW HT_.out HW_.out (by kernel_rfl)) (fun _ _ _ h => h) (Or.inl ⟨by rfl, ?_⟩) hHeld ?_ ?_
         rotate_left
         ·rintro w' ⟨s0, s1, s2, s3, s4⟩
          go_simp
          with_reducible rfl
         rotate_left
         ·simp only [Act.put, List.setIfInBounds_toArray, List.set_cons_zero, List.set_cons_succ, i64_w, i32_w]
          rfl
         refine take_ (i := 5) (N := some 29) (v := ?_) (a' := ?_) #[true, true, true, true, true, true, true, false, false, false, false, false, false, false] rfl rfl (take_ofW HT_.out HW_.out (by kernel_rfl)) (fun _ _ _ h => h) (Or.inl ⟨by rfl, ?_⟩) hHeld ?_ ?_
         rotate_left
         ·rintro w' ⟨s0, s1, s2, s3, s4⟩
          go_simp
          with_reducible rfl
         rotate_left
         ·simp only [Act.put, List.setIfInBounds_toArray, List.set_cons_zero, List.set_cons_succ, i64_w, i32_w]
          rfl
         refine pure_ (i := 7) (N := some 31) (v := ?_) (a' := ?_) #[true, true, true, true, true, true, true, true, false, false, false, false, false, false] rfl rfl (any_of HT_.out (by kernel_rfl)) (fun _ _ _ h => h) (Or.inl ⟨by rfl, ?_⟩) ?_ ?_
         rotate_left
         ·intro w'
          go_simp
          with_reducible rfl
         rotate_left
         ·simp only [Act.put, List.setIfInBounds_toArray, List.set_cons_zero, List.set_cons_succ, i64_w, i32_w]
          rfl
         refine pure_ (i := 8) (N := some 32) (v := ?_) (a' := ?_) #[true, true, true, true, true, true, true, true, true, false, false, false, false, false] rfl rfl (any_of HT_.out (by kernel_rfl)) (fun _ _ _ h => h) (Or.inl ⟨by rfl, ?_⟩) ?_ ?_
         rotate_left
         ·intro w'
          go_simp
          with_reducible rfl
         rotate_left
         ·simp only [Act.put, List.setIfInBounds_toArray, List.set_cons_zero, List.set_cons_succ, i64_w, i32_w]
          rfl
         refine take_ (i := 9) (N := some 33) (v := ?_) (a' := ?_) #[true, true, true, true, true, true, true, true, true, true, false, false, false, false] rfl rfl (take_ofW HT_.out HW_.out (by kernel_rfl)) (fun _ _ _ h => h) (Or.inl ⟨by rfl, ?_⟩) hHeld ?_ ?_
         rotate_left
         ·rintro w' ⟨s0, s1, s2, s3, s4⟩
          go_simp
          with_reducible rfl
         rotate_left
         ·simp only [Act.put, List.setIfInBounds_toArray, List.set_cons_zero, List.set_cons_succ, i64_w, i32_w]
          rfl
         refine one_ (i := 10) (N := some 34) #[true, true, true, true, true, true, true, true, true, true, true, false, false, false] rfl rfl (one_of HT_.out (by kernel_rfl)) (by decide) (fun K hK => ?_)
         refine goes_ Try.func85 (by kernel_rfl) rfl #[.slice A0 l0.length c0, .string ((rd_T123 x1106000_2 x21_2).f0)] (by rfl) rfl rfl zl ?_
         with_reducible refine (impl_turn.calls k2 _ _ l0 ((rd_T123 x1106000_2 x21_2).f0) t1107 _ ?side1 ?side2 A29.out).mono ?_
         (case side1 => repeat (first | exact (Kd.C_below HR0.out HB.out) | (with_reducible refine Kd.C_alloc ?_ _) | (with_reducible refine Kd.C_drewN ?_ _) | (with_reducible refine Kd.C_drew ?_)))
         (case side2 => exact HC0.out)
         rintro e w33 ⟨rfl, hb⟩
         have HS1_ := (hb.cell (World.block_lt_of_cell? _ _ (hHeld.2.1))).trans (hHeld.2.1)
         have HS2_ := (hb.cell (World.block_lt_of_cell? _ _ (hHeld.2.2.1))).trans (hHeld.2.2.1)
         have HS3_ := (hb.cell (World.block_lt_of_cell? _ _ (hHeld.2.2.2.1))).trans (hHeld.2.2.2.1)
         have HS4_ := (hb.cell (World.block_lt_of_cell? _ _ (hHeld.2.2.2.2))).trans (hHeld.2.2.2.2)
         refine ⟨_, rfl, ?_⟩
         replace HO_1106000 := Aside0.mk (Kd.R_below (zo HO_1106000) hb)
         replace BK1098 := Aside0.mk (blk_below (g := gb1098) (o := .cells #[.slice A1_0 l1_0.length c1_0] 71 (0, 0)) (zb BK1098) hb)
         replace BK1099 := Aside0.mk (blk_below (g := gb1099) (o := .cells #[.slice none 0 0] 71 (0, 0)) (zb BK1099) hb)
         replace BK1105 := Aside0.mk (blk_below (g := gb1105) (o := .cells #[.slice (some ad1106) x1106000_2.length co32] 71 (0, 0)) (zb BK1105) hb)
         replace HB := Aside0.mk (below_step (zB HB) hb)
         (try clear hb)
         (try clear hb2)
         (try clear hk)
         (try clear hi)
         have p30 : 0 ≤ (x21_2 : Int) := of_decide_eq_true za
         have q30 : (x21_2 : Int) < ((x1106000_2.length : Int) : Int) := of_decide_eq_true za
         obtain ⟨go30, co30, eo30, gb30, gl30, cl30, HG30⟩ := Kd.R_form HO_1106000.out (by omega)
         (first | cases eo30 | (injection eo30 with ea_ en_ ec_; (first | subst ea_ | (injection ea_ with ea_; subst ea_)); subst ec_; clear en_))
         have GB30 := Aside0.mk gb30
         have GG30 := Aside0.mk HG30
         clear gb30 gl30 HG30
         (first | simp only [add_plain] at hx1106_0 | skip)
         (first | simp only [add_plain] at hx1106_1 | skip)
         (first | simp only [add_plain] at hx1106_2 | skip)
         (first | simp only [add_plain] at hx1106_3 | skip)
         obtain ⟨ce30, hcl30, hM30, hcc30, hfr30⟩ := Kd.R_elem HO_1106000.out z123 (x21_2 : Int) p30 q30
         obtain rfl := k123_openM hM30
         have hx30_0 : World.cell? _ ⟨go30, (x21_2 : Int).toNat * 4, none⟩ = some (.string ((rd_T123 x1106000_2 x21_2).f0)) := hcc30 0 _ rfl
         have hx30_1 : World.cell? _ ⟨go30, (x21_2 : Int).toNat * 4 + 1, none⟩ = some (.int .i64 ((rd_T123 x1106000_2 x21_2).f1)) := hcc30 1 _ rfl
         have hx30_2 : World.cell? _ ⟨go30, (x21_2 : Int).toNat * 4 + 2, none⟩ = some (.bool ((rd_T123 x1106000_2 x21_2).f2)) := hcc30 2 _ rfl
         have hx30_3 : World.cell? _ ⟨go30, (x21_2 : Int).toNat * 4 + 3, none⟩ = some (.int .i64 ((rd_T123 x1106000_2 x21_2).f3)) := hcc30 3 _ rfl
         have hf30_0 : World.frozen? _ ⟨go30, (x21_2 : Int).toNat * 4, none⟩ = false := hfr30 0
         have hf30_1 : World.frozen? _ ⟨go30, (x21_2 : Int).toNat * 4 + 1, none⟩ = false := hfr30 1
         have hf30_2 : World.frozen? _ ⟨go30, (x21_2 : Int).toNat * 4 + 2, none⟩ = false := hfr30 2
         have hf30_3 : World.frozen? _ ⟨go30, (x21_2 : Int).toNat * 4 + 3, none⟩ = false := hfr30 3
         clear hcl30 hcc30 hfr30 hM30
         replace p30 := eq_true p30
         replace q30 := eq_true q30
         obtain ⟨ce34, hcl34, hM34, hcc34, hfr34⟩ := Kd.R_elem HO_1106000.out z123 (x21_2 : Int) (of_decide_eq_true za) (by have h_ : (x21_2 : Int) < ((x1106000_2.length : Int) : Int) := of_decide_eq_true za; first | exact h_ | (have e_ := (Kd.R_reads' HO_1106000.out).1; omega) | simpa using h_)
         obtain rfl := k123_openM hM34
         have HP34 := (Kd.R_seg HO_1106000.out (x21_2 : Int) (of_decide_eq_true za) (by have h_ : (x21_2 : Int) < ((x1106000_2.length : Int) : Int) := of_decide_eq_true za; first | exact h_ | (have e_ := (Kd.R_reads' HO_1106000.out).1; omega) | simpa using h_) (seg := [.string t1107]) (j := 0) hcl34 hcc34 (show 1 ≤ 4 from by decide) (x' := (⟨t1107, (rd_T123 x1106000_2 x21_2).f1, (rd_T123 x1106000_2 x21_2).f2, (rd_T123 x1106000_2 x21_2).f3⟩ : S123)) (k123_mkM _ _ _ (⟨t1107, (rd_T123 x1106000_2 x21_2).f1, (rd_T123 x1106000_2 x21_2).f2, (rd_T123 x1106000_2 x21_2).f3⟩ : S123) ) (fun _ hk => hk)).1
         rw [← Ny1108.out] at HP34
         have HQ34 := Aside0.mk HP34
         clear hcl34 hcc34 hfr34 hM34 HP34
         refine hK.out _ _ ⟨(blk_cell BK1105.out 0).trans rfl, HS1_, HS2_, HS3_, HS4_⟩ (fun hHeld => ?_)
         clear hK K
         refine norm_ (a' := ?_) ?_ ?_
         rotate_left
         ·show Act.put _ (some 34) _ = _
          simp only [Act.put, List.setIfInBounds_toArray, List.set_cons_zero, List.set_cons_succ, i64_w, i32_w]
          rfl
         refine pure_ (i := 11) (N := some 35) (v := ?_) (a' := ?_) #[true, true, true, true, true, true, true, true, true, true, true, true, false, false] rfl rfl (any_of HT_.out (by kernel_rfl)) (fun _ _ _ h => h) (Or.inl ⟨by rfl, ?_⟩) ?_ ?_
         rotate_left
         ·intro w'
          go_simp
          with_reducible rfl
         rotate_left
         ·simp only [Act.put, List.setIfInBounds_toArray, List.set_cons_zero, List.set_cons_succ, i64_w, i32_w]
          rfl
         refine pure_ (i := 12) (N := some 36) (v := ?_) (a' := ?_) #[true, true, true, true, true, true, true, true, true, true, true, true, true, false] rfl rfl (any_of HT_.out (by kernel_rfl)) (fun _ _ _ h => h) (Or.inl ⟨by rfl, ?_⟩) ?_ ?_
         rotate_left
         ·intro w'
          go_simp
          with_reducible rfl
         rotate_left
         ·simp only [Act.put, List.setIfInBounds_toArray, List.set_cons_zero, List.set_cons_succ, i64_w, i32_w]
          rfl
         refine last_ (i := 13) (N := none) #[true, true, true, true, true, true, true, true, true, true, true, true, true, true] rfl rfl (one_of HT_.out (by kernel_rfl)) (by decide) (fun K hK => ?_)
         refine skip_ (w1 := ?_) (by rfl) rfl ?_ ?_
         rotate_left
         ·go_simp
          rfl
         refine hK.out _ _ ?_
         clear hK K
         refine done_ (done_of HT_.out (by kernel_rfl)) ?_
         try go_wp2
         go_roundg k2
         case measure => have := HJ2.out; have := HK2.out; omega
         case rel => exact ⟨(wrap64 (x21_2 + 1)), (y1108), (.slice (some ⟨go30, 0, none⟩) x1106000_2.length co32), zr, H', ⟨by have := HJ2.out; have := HK2.out; omega⟩, ⟨zo HQ34⟩, ⟨by (with_reducible repeat (first | refine blk_drewN ?_ _ | refine blk_drew ?_ | refine blk_alloc ?_ _)); refine blk_far ?_ (by have h_ := Kd.R_ne HO_1106000.out BK1098.out (by decide); intro e_; exact h_ (by rw [e_]; rfl)) _; (with_reducible repeat (first | refine blk_drewN ?_ _ | refine blk_drew ?_ | refine blk_alloc ?_ _)); exact BK1098.out⟩, ⟨by (with_reducible repeat (first | refine blk_drewN ?_ _ | refine blk_drew ?_ | refine blk_alloc ?_ _)); refine blk_far ?_ (by have h_ := Kd.R_ne HO_1106000.out BK1099.out (by decide); intro e_; exact h_ (by rw [e_]; rfl)) _; (with_reducible repeat (first | refine blk_drewN ?_ _ | refine blk_drew ?_ | refine blk_alloc ?_ _)); exact BK1099.out⟩, ⟨by (with_reducible repeat (first | refine blk_drewN ?_ _ | refine blk_drew ?_ | refine blk_alloc ?_ _)); refine blk_far ?_ (by have h_ := Kd.R_ne HO_1106000.out BK1105.out (by decide); intro e_; exact h_ (by rw [e_]; rfl)) _; (with_reducible repeat (first | refine blk_drewN ?_ _ | refine blk_drew ?_ | refine blk_alloc ?_ _)); exact BK1105.out⟩, ⟨by repeat (first | (with_reducible first | exact HB.out | apply below_alloc | apply pw_below_drewN | apply below_drew1 | refine below_set ?_ GB30.out | refine below_set ?_ GE1098.out | refine below_set ?_ GE1099.out | refine below_set ?_ GE1105.out) | exact HB.out)⟩⟩
        ·rw [if_neg c28] at H
         exact absurd H (by simp)
       ·rw [if_neg c27] at H
        exact absurd H (by simp)
      ·rw [if_neg c26] at H
       have c26b0 : decide (x21_2 < (t1102.length : Int)) = false := decide_eq_false c26
       clear c26
       obtain rfl := Option.some.inj H
       have hnb35 := NB1105_1098.out
       have hnc35 := NB1098_1105.out
       have hnb36 := NB1105_1099.out
       have hnc36 := NB1099_1105.out
       have hcz37_0 : wr.cell? ⟨gb1105, 0, none⟩ = some (u1106000) := (blk_cell BK1105.out 0).trans rfl
       have hfz37_0 := blk_frozen BK1105.out 0
       obtain ⟨Ao38, co38, eo38⟩ := Kd.R_slice HO_1106000.out
       subst eo38
       have hnb39 := NB1099_1098.out
       have hnc39 := NB1098_1099.out
       have hcz40_0 : wr.cell? ⟨gb1099, 0, none⟩ = some (.slice none 0 0) := (blk_cell BK1099.out 0).trans rfl
       have hfz40_0 := blk_frozen BK1099.out 0
       go_wp2
       refine bodyPost_ret (results_cell_row rfl _ _ gb1099 71 #[.slice Ao38 x1106000_2.length co38] (0, 0) _ rfl (by (with_reducible repeat (first | refine blk_drewN ?_ _ | refine blk_drew ?_ | refine blk_alloc ?_ _)); refine blk_put (cs := #[.slice none 0 0]) ?_ 0 _ rfl; (with_reducible repeat (first | refine blk_drewN ?_ _ | refine blk_drew ?_ | refine blk_alloc ?_ _)); exact BK1099.out) Try.underlying71 rfl (by kernel_rfl)) rfl ?_
       exact ⟨_, by first | rfl | (simp [errW_none, errW_some] <;> rfl) | (simp [*, errW_none, errW_some] <;> rfl), by (with_reducible repeat (first | apply Kd.R_alloc | apply Kd.R_drewN | apply Kd.R_drew)); exact Kd.R_mono (Kd.R_far (p := ⟨gb1099, 0, none⟩) (Kd.R_types HO_1106000.out BK1099.out (by decide)) (fun _ hk => hk.2) (.slice Ao38 x1106000_2.length co38)) (fun _ hk => trivial), zB HB⟩

end Go.Proofs.Ytfcpbgedgedalaa.Q

namespace Go.Proofs.Ytfcpbgedgedalaa.Q
open Go.RowKit Go.Proofs.YtfcpbgedgedalaaL.PrintWords Go.Proofs.YtfcpbgedgedalaaL.PrintLast Go.Proofs.YtfcpbgedgedalaaL.PrintMore
attribute [local go_sem] max2_int min2_int max_two min_two max_three min_three max_four min_four   -- for this text's walks alone
set_option linter.unusedVariables false
set_option linter.unusedSimpArgs false

theorem eqA123 (d : Nat) (w : World) (x0 y0 : ByteArray) (x1 y1 : Int) (x2 y2 : Bool) (x3 y3 : Int) :
  (Op.equalIn (d + 2) 123 (.agg #[.string x0, .int .i64 x1, .bool x2, .int .i64 x3]) (.agg #[.string y0, .int .i64 y1, .bool y2, .int .i64 y3])).run Try.prog w = .ok (x0.toList == y0.toList && (x1 == y1 && (x2 == y2 && (x3 == y3)))) w := by
 refine eqA_of Try.underlying123 (by kernel_rfl) ?_
 refine eqf_cons (by rfl) (by go_simp; rfl) (by go_simp; rfl) (by go_simp) ?_
 refine eqf_cons (by rfl) (by go_simp; rfl) (by go_simp; rfl) (by go_simp) ?_
 refine eqf_cons (by rfl) (by go_simp; rfl) (by go_simp; rfl) (by go_simp) ?_
 exact eqf_last (by rfl) (by go_simp; rfl) (by go_simp; rfl) (by go_simp)
end Go.Proofs.Ytfcpbgedgedalaa.Q

namespace Go.Proofs.Ytfcpbgedgedalaa.Q
open Go.RowKit Go.Proofs.YtfcpbgedgedalaaL.PrintWords Go.Proofs.YtfcpbgedgedalaaL.PrintLast Go.Proofs.YtfcpbgedgedalaaL.PrintMore
attribute [local go_sem] max2_int min2_int max_two min_two max_three min_three max_four min_four   -- for this text's walks alone
set_option linter.unusedVariables false
set_option linter.unusedSimpArgs false

attribute [local go_sem high] eqA123
/-! ### laws_equalSignature: function 49 -/
def laws_equalSignature.l0 : Nat → Int → List (S123) → List (S123) → Option (Bool)
 | 0, _, _, _ => none
 | k + 1, x5, x1110000, x1111000 => if x5 < (x1110000.length : Int) then (if 0 ≤ x5 then (if x5 < (x1111000.length : Int) then (if (!((((rd_T123 x1110000 x5).f0).toList) == (((rd_T123 x1111000 x5).f0).toList)) || (!(((rd_T123 x1110000 x5).f1) == ((rd_T123 x1111000 x5).f1)) || (!(((rd_T123 x1110000 x5).f2) == ((rd_T123 x1111000 x5).f2)) || (!(((rd_T123 x1110000 x5).f3) == ((rd_T123 x1111000 x5).f3)))))) = true then (some false) else (laws_equalSignature.l0 k (wrap64 (x5 + 1)) x1110000 x1111000)) else (none)) else (none)) else (some true)
def laws_equalSignature.f (k : Nat) (l0_0 : List (S123)) (l1_0 : List (S123)) : Option (Bool) := if (l0_0.length : Int) = (l1_0.length : Int) then (laws_equalSignature.l0 k 0 l0_0 l1_0) else (some false)
theorem laws_equalSignature.mono_l : ∀ k, (∀ y0 y1 y2, LeO (laws_equalSignature.l0 k y0 y1 y2) (laws_equalSignature.l0 (k + 1) y0 y1 y2))
 | 0 => fun _ _ _ r h => by simp [laws_equalSignature.l0] at h
 | k + 1 => by
  have ih0 := laws_equalSignature.mono_l k
  ·intro y0 y1 y2
   unfold laws_equalSignature.l0
   repeat' first
   | (with_reducible exact ih0 _ _ _)
   | (with_reducible exact LeO.refl _)
   | (with_reducible exact LeO.none _)
   | (with_reducible refine LeO.ite ?_ ?_)
   | (with_reducible refine LeO.bind ?_ (fun _ => ?_))
   | exact ih0 _ _ _
   | exact LeO.none _
   | refine LeO.ite ?_ ?_
   | refine LeO.bind ?_ (fun _ => ?_)
theorem laws_equalSignature.mono : ∀ a0 a1 k, LeO (laws_equalSignature.f k a0 a1) (laws_equalSignature.f (k + 1) a0 a1) := by
 intro a0 a1 k
 have ih0 := laws_equalSignature.mono_l k
 unfold laws_equalSignature.f
 repeat' first
   | (with_reducible exact ih0 _ _ _)
   | (with_reducible exact LeO.refl _)
   | (with_reducible exact LeO.none _)
   | (with_reducible refine LeO.ite ?_ ?_)
   | (with_reducible refine LeO.bind ?_ (fun _ => ?_))
   | exact ih0 _ _ _
   | exact LeO.none _
   | refine LeO.ite ?_ ?_
   | refine LeO.bind ?_ (fun _ => ?_)
set_option maxHeartbeats 8000000 in
set_option maxRecDepth 100000 in
theorem laws_equalSignature.calls (k : Nat) (A0_0 : Option Addr) (c0_0 : Nat) (l0_0 : List (S123)) (A1_0 : Option Addr) (c1_0 : Nat) (l1_0 : List (S123)) (r : Bool) (w : World) (hr0_0 : Kd.C k123 w A0_0 l0_0.length l0_0) (hc0_0 : l0_0.length ≤ c0_0) (hr1_0 : Kd.C k123 w A1_0 l1_0.length l1_0) (hc1_0 : l1_0.length ≤ c1_0) (h : laws_equalSignature.f k l0_0 l1_0 = some r) :
  Calls Try.prog 49 #[.agg #[.slice A0_0 l0_0.length c0_0], .agg #[.slice A1_0 l1_0.length c1_0]] w fun e w' => e = .returned (.bool r) ∧ Below w.heap.size w w' := by
 have hu71 := Try.underlying71
 have hu123 := Try.underlying123
 have HR0_0 := Aside0.mk hr0_0
 have HC0_0 := Aside0.mk hc0_0
 clear hr0_0 hc0_0
 have HR1_0 := Aside0.mk hr1_0
 have HC1_0 := Aside0.mk hc1_0
 clear hr1_0 hc1_0
 have HB := Aside0.mk (Below.refl w.heap.size w)
 have H : (if (l0_0.length : Int) = (l1_0.length : Int) then (laws_equalSignature.l0 k 0 l0_0 l1_0) else (some false)) = some r := h
 clear h
 by_cases c3 : (l0_0.length : Int) = (l1_0.length : Int)
 ·rw [if_pos c3] at H
  have c3b0 : ((l0_0.length : Int) == (l1_0.length : Int)) = true := beq_iff_eq.mpr c3
  have c3b1 : ((l0_0.length : Int) != (l1_0.length : Int)) = false := bne_eq_false_iff_eq.mpr c3
  have c3b2 : (l0_0.length == l1_0.length) = true := by first | simpa using c3 | (simp at c3 ⊢; omega)
  clear c3
  have H' := Aside0.mk H
  clear H
  go_enter Try.func49, Try.ntmps49
  go_wp2_with (first | ((with_reducible refine gate_dst (N := 2) rfl ?_); refine box_event ?hg (N := 2) ?hd (cs := #[.slice A0_0 l0_0.length c0_0]) (t := 71) ?hr ?_; (case hd => rfl); (case hg => rfl); (case hr => first | (go_simp; done) | (go_simp; rfl)); intro gb1109 hg w4 hbox hb; have BK1109 := Aside0.mk (hbox); have GW1109 := Aside0.mk ((by rw [hg]; exact (below_size (zB HB)) : w.heap.size ≤ gb1109)); have GE1109 := Aside0.mk ((by rw [hg]; exact (below_size (zB HB)) : w.heap.size ≤ gb1109)); replace HB := Aside0.mk (below_step (zB HB) hb); clear hb hbox hg) | ((with_reducible refine gate_dst (N := 3) rfl ?_); refine box_event ?hg (N := 3) ?hd (cs := #[.slice A1_0 l1_0.length c1_0]) (t := 71) ?hr ?_; (case hd => rfl); (case hg => rfl); (case hr => first | (go_simp; done) | (go_simp; rfl)); intro gb1110 hg w5 hbox hb; have BK1110 := Aside0.mk (hbox); have GW1110 := Aside0.mk ((by rw [hg]; exact (below_size (zB HB)) : w.heap.size ≤ gb1110)); have GE1110 := Aside0.mk ((by rw [hg]; exact (below_size (zB HB)) : w.heap.size ≤ gb1110)); replace HB := Aside0.mk (below_step (zB HB) hb); have NB1109_1110 := Aside0.mk ((by rw [hg]; exact Nat.ne_of_lt (blk_lt (g := gb1109) (o := .cells #[.slice A0_0 l0_0.length c0_0] 71 (0, 0)) (zb BK1109)) : gb1109 ≠ gb1110)); have NB1110_1109 := Aside0.mk ((by rw [hg]; exact Nat.ne_of_gt (blk_lt (g := gb1109) (o := .cells #[.slice A0_0 l0_0.length c0_0] 71 (0, 0)) (zb BK1109)) : gb1110 ≠ gb1109)); replace BK1109 := Aside0.mk (blk_below (g := gb1109) (o := .cells #[.slice A0_0 l0_0.length c0_0] 71 (0, 0)) (zb BK1109) hb); clear hb hbox hg; have hnb6 := NB1109_1110.out; have hnc6 := NB1110_1109.out; have hcz7_0 : w5.cell? ⟨gb1109, 0, none⟩ = some (.slice A0_0 l0_0.length c0_0) := (blk_cell BK1109.out 0).trans rfl; have hfz7_0 := blk_frozen BK1109.out 0; have hcz8_0 : w5.cell? ⟨gb1110, 0, none⟩ = some (.slice A1_0 l1_0.length c1_0) := (blk_cell BK1110.out 0).trans rfl; have hfz8_0 := blk_frozen BK1110.out 0))
  repeat (go_quiet (first | ((with_reducible refine gate_dst (N := 2) rfl ?_); refine box_event ?hg (N := 2) ?hd (cs := #[.slice A0_0 l0_0.length c0_0]) (t := 71) ?hr ?_; (case hd => rfl); (case hg => rfl); (case hr => first | (go_simp; done) | (go_simp; rfl)); intro gb1109 hg w4 hbox hb; have BK1109 := Aside0.mk (hbox); have GW1109 := Aside0.mk ((by rw [hg]; exact (below_size (zB HB)) : w.heap.size ≤ gb1109)); have GE1109 := Aside0.mk ((by rw [hg]; exact (below_size (zB HB)) : w.heap.size ≤ gb1109)); replace HB := Aside0.mk (below_step (zB HB) hb); clear hb hbox hg) | ((with_reducible refine gate_dst (N := 3) rfl ?_); refine box_event ?hg (N := 3) ?hd (cs := #[.slice A1_0 l1_0.length c1_0]) (t := 71) ?hr ?_; (case hd => rfl); (case hg => rfl); (case hr => first | (go_simp; done) | (go_simp; rfl)); intro gb1110 hg w5 hbox hb; have BK1110 := Aside0.mk (hbox); have GW1110 := Aside0.mk ((by rw [hg]; exact (below_size (zB HB)) : w.heap.size ≤ gb1110)); have GE1110 := Aside0.mk ((by rw [hg]; exact (below_size (zB HB)) : w.heap.size ≤ gb1110)); replace HB := Aside0.mk (below_step (zB HB) hb); have NB1109_1110 := Aside0.mk ((by rw [hg]; exact Nat.ne_of_lt (blk_lt (g := gb1109) (o := .cells #[.slice A0_0 l0_0.length c0_0] 71 (0, 0)) (zb BK1109)) : gb1109 ≠ gb1110)); have NB1110_1109 := Aside0.mk ((by rw [hg]; exact Nat.ne_of_gt (blk_lt (g := gb1109) (o := .cells #[.slice A0_0 l0_0.length c0_0] 71 (0, 0)) (zb BK1109)) : gb1110 ≠ gb1109)); replace BK1109 := Aside0.mk (blk_below (g := gb1109) (o := .cells #[.slice A0_0 l0_0.length c0_0] 71 (0, 0)) (zb BK1109) hb); clear hb hbox hg; have hnb6 := NB1109_1110.out; have hnc6 := NB1110_1109.out; have hcz7_0 : w5.cell? ⟨gb1109, 0, none⟩ = some (.slice A0_0 l0_0.length c0_0) := (blk_cell BK1109.out 0).trans rfl; have hfz7_0 := blk_frozen BK1109.out 0; have hcz8_0 : w5.cell? ⟨gb1110, 0, none⟩ = some (.slice A1_0 l1_0.length c1_0) := (blk_cell BK1110.out 0).trans rfl; have hfz8_0 := blk_frozen BK1110.out 0)); try go_wp2_with (first | ((with_reducible refine gate_dst (N := 2) rfl ?_); refine box_event ?hg (N := 2) ?hd (cs := #[.slice A0_0 l0_0.length c0_0]) (t := 71) ?hr ?_; (case hd => rfl); (case hg => rfl); (case hr => first | (go_simp; done) | (go_simp; rfl)); intro gb1109 hg w4 hbox hb; have BK1109 := Aside0.mk (hbox); have GW1109 := Aside0.mk ((by rw [hg]; exact (below_size (zB HB)) : w.heap.size ≤ gb1109)); have GE1109 := Aside0.mk ((by rw [hg]; exact (below_size (zB HB)) : w.heap.size ≤ gb1109)); replace HB := Aside0.mk (below_step (zB HB) hb); clear hb hbox hg) | ((with_reducible refine gate_dst (N := 3) rfl ?_); refine box_event ?hg (N := 3) ?hd (cs := #[.slice A1_0 l1_0.length c1_0]) (t := 71) ?hr ?_; (case hd => rfl); (case hg => rfl); (case hr => first | (go_simp; done) | (go_simp; rfl)); intro gb1110 hg w5 hbox hb; have BK1110 := Aside0.mk (hbox); have GW1110 := Aside0.mk ((by rw [hg]; exact (below_size (zB HB)) : w.heap.size ≤ gb1110)); have GE1110 := Aside0.mk ((by rw [hg]; exact (below_size (zB HB)) : w.heap.size ≤ gb1110)); replace HB := Aside0.mk (below_step (zB HB) hb); have NB1109_1110 := Aside0.mk ((by rw [hg]; exact Nat.ne_of_lt (blk_lt (g := gb1109) (o := .cells #[.slice A0_0 l0_0.length c0_0] 71 (0, 0)) (zb BK1109)) : gb1109 ≠ gb1110)); have NB1110_1109 := Aside0.mk ((by rw [hg]; exact Nat.ne_of_gt (blk_lt (g := gb1109) (o := .cells #[.slice A0_0 l0_0.length c0_0] 71 (0, 0)) (zb BK1109)) : gb1110 ≠ gb1109)); replace BK1109 := Aside0.mk (blk_below (g := gb1109) (o := .cells #[.slice A0_0 l0_0.length c0_0] 71 (0, 0)) (zb BK1109) hb); clear hb hbox hg; have hnb6 := NB1109_1110.out; have hnc6 := NB1110_1109.out; have hcz7_0 : w5.cell? ⟨gb1109, 0, none⟩ = some (.slice A0_0 l0_0.length c0_0) := (blk_cell BK1109.out 0).trans rfl; have hfz7_0 := blk_frozen BK1109.out 0; have hcz8_0 : w5.cell? ⟨gb1110, 0, none⟩ = some (.slice A1_0 l1_0.length c1_0) := (blk_cell BK1110.out 0).trans rfl; have hfz8_0 := blk_frozen BK1110.out 0)))
  go_loopg [5] k (fun kq v5 w' => ∃ (x5_1 : Int), v5 = .int .i64 x5_1 ∧ Aside0 (laws_equalSignature.l0 kq x5_1 l0_0 l1_0 = some r) ∧ Aside0 (kq ≤ k) ∧ Aside0 (w'.heap[gb1109]? = some (.cells #[(.slice A0_0 l0_0.length c0_0)] 71 (0, 0))) ∧ Aside0 (w'.heap[gb1110]? = some (.cells #[(.slice A1_0 l1_0.length c1_0)] 71 (0, 0))) ∧ Aside0 (Below w.heap.size w w'))
  case atStart => exact ⟨(0), zr, H', ⟨Nat.le_refl _⟩, ⟨zb BK1109⟩, ⟨zb BK1110⟩, ⟨zB HB⟩⟩
  case round =>
   clear H'
   try clear c1
   try clear p2
   try clear c3
   try clear c3b0
   try clear c3b1
   try clear c3b2
   try clear c4
   try clear c6
   try clear hcz7_0
   try clear hcz8_0
   try clear hfz7_0
   try clear hfz8_0
   obtain ⟨x5_1, rfl, HA, HK1, BK1109, BK1110, HB⟩ := hrel
   cases gk with
   | zero => exact absurd HA.out (by simp [laws_equalSignature.l0])
   | succ k1 =>
    have H := HA.out
    clear HA
    simp only [laws_equalSignature.l0] at H
    by_cases c9 : x5_1 < (l0_0.length : Int)
    ·rw [if_pos c9] at H
     have c9b0 : decide (x5_1 < (l0_0.length : Int)) = true := decide_eq_true c9
     clear c9
     by_cases c10 : 0 ≤ x5_1
     ·rw [if_pos c10] at H
      have c10b0 : decide (0 ≤ x5_1) = true := decide_eq_true c10
      clear c10
      by_cases c11 : x5_1 < (l1_0.length : Int)
      ·rw [if_pos c11] at H
       have c11b0 : decide (x5_1 < (l1_0.length : Int)) = true := decide_eq_true c11
       clear c11
       by_cases c12 : (!((((rd_T123 l0_0 x5_1).f0).toList) == (((rd_T123 l1_0 x5_1).f0).toList)) || (!(((rd_T123 l0_0 x5_1).f1) == ((rd_T123 l1_0 x5_1).f1)) || (!(((rd_T123 l0_0 x5_1).f2) == ((rd_T123 l1_0 x5_1).f2)) || (!(((rd_T123 l0_0 x5_1).f3) == ((rd_T123 l1_0 x5_1).f3)))))) = true
       ·rw [if_pos c12] at H
        have c12b0 : (!((((rd_T123 l0_0 x5_1).f0).toList) == (((rd_T123 l1_0 x5_1).f0).toList)) || (!(((rd_T123 l0_0 x5_1).f1) == ((rd_T123 l1_0 x5_1).f1)) || (!(((rd_T123 l0_0 x5_1).f2) == ((rd_T123 l1_0 x5_1).f2)) || (!(((rd_T123 l0_0 x5_1).f3) == ((rd_T123 l1_0 x5_1).f3)))))) = true := c12
        clear c12
        obtain rfl := Option.some.inj H
        have hnb13 := NB1109_1110.out
        have hnc13 := NB1110_1109.out
        have hcz14_0 : wr.cell? ⟨gb1109, 0, none⟩ = some (.slice A0_0 l0_0.length c0_0) := (blk_cell BK1109.out 0).trans rfl
        have hfz14_0 := blk_frozen BK1109.out 0
        have p1111 : 0 ≤ (x5_1 : Int) := of_decide_eq_true za
        have q1111 : x5_1 < (l0_0.length : Int) := of_decide_eq_true za
        obtain ⟨ad1111, e1111, hx1111_0, hx1111_1, hx1111_2, hx1111_3⟩ := at_T123 HR0_0.out x5_1 p1111 q1111
        cases e1111
        replace hx1111_0 := (HB.out.cell (World.block_lt_of_cell? w _ hx1111_0)).trans hx1111_0
        replace hx1111_1 := (HB.out.cell (World.block_lt_of_cell? w _ hx1111_1)).trans hx1111_1
        replace hx1111_2 := (HB.out.cell (World.block_lt_of_cell? w _ hx1111_2)).trans hx1111_2
        replace hx1111_3 := (HB.out.cell (World.block_lt_of_cell? w _ hx1111_3)).trans hx1111_3
        replace p1111 := eq_true p1111
        replace q1111 := eq_true q1111
        have hcz15_0 : wr.cell? ⟨gb1110, 0, none⟩ = some (.slice A1_0 l1_0.length c1_0) := (blk_cell BK1110.out 0).trans rfl
        have hfz15_0 := blk_frozen BK1110.out 0
        have p1112 : 0 ≤ (x5_1 : Int) := of_decide_eq_true za
        have q1112 : x5_1 < (l1_0.length : Int) := of_decide_eq_true za
        obtain ⟨ad1112, e1112, hx1112_0, hx1112_1, hx1112_2, hx1112_3⟩ := at_T123 HR1_0.out x5_1 p1112 q1112
        cases e1112
        replace hx1112_0 := (HB.out.cell (World.block_lt_of_cell? w _ hx1112_0)).trans hx1112_0
        replace hx1112_1 := (HB.out.cell (World.block_lt_of_cell? w _ hx1112_1)).trans hx1112_1
        replace hx1112_2 := (HB.out.cell (World.block_lt_of_cell? w _ hx1112_2)).trans hx1112_2
        replace hx1112_3 := (HB.out.cell (World.block_lt_of_cell? w _ hx1112_3)).trans hx1112_3
        replace p1112 := eq_true p1112
        replace q1112 := eq_true q1112
        go_wp2
        repeat (go_quiet (fail); try go_wp2)
        go_ret
        exact ⟨by first | rfl | (simp [errW_none, errW_some] <;> rfl) | (simp [*, errW_none, errW_some] <;> rfl), zB HB⟩
       ·rw [if_neg c12] at H
        have c12b0 : (!((((rd_T123 l0_0 x5_1).f0).toList) == (((rd_T123 l1_0 x5_1).f0).toList)) || (!(((rd_T123 l0_0 x5_1).f1) == ((rd_T123 l1_0 x5_1).f1)) || (!(((rd_T123 l0_0 x5_1).f2) == ((rd_T123 l1_0 x5_1).f2)) || (!(((rd_T123 l0_0 x5_1).f3) == ((rd_T123 l1_0 x5_1).f3)))))) = false := by simpa using c12
        clear c12
        have H' := Aside0.mk H
        clear H
        have hnb16 := NB1109_1110.out
        have hnc16 := NB1110_1109.out
        have hcz17_0 : wr.cell? ⟨gb1109, 0, none⟩ = some (.slice A0_0 l0_0.length c0_0) := (blk_cell BK1109.out 0).trans rfl
        have hfz17_0 := blk_frozen BK1109.out 0
        have p1111 : 0 ≤ (x5_1 : Int) := of_decide_eq_true za
        have q1111 : x5_1 < (l0_0.length : Int) := of_decide_eq_true za
        obtain ⟨ad1111, e1111, hx1111_0, hx1111_1, hx1111_2, hx1111_3⟩ := at_T123 HR0_0.out x5_1 p1111 q1111
        cases e1111
        replace hx1111_0 := (HB.out.cell (World.block_lt_of_cell? w _ hx1111_0)).trans hx1111_0
        replace hx1111_1 := (HB.out.cell (World.block_lt_of_cell? w _ hx1111_1)).trans hx1111_1
        replace hx1111_2 := (HB.out.cell (World.block_lt_of_cell? w _ hx1111_2)).trans hx1111_2
        replace hx1111_3 := (HB.out.cell (World.block_lt_of_cell? w _ hx1111_3)).trans hx1111_3
        replace p1111 := eq_true p1111
        replace q1111 := eq_true q1111
        have hcz18_0 : wr.cell? ⟨gb1110, 0, none⟩ = some (.slice A1_0 l1_0.length c1_0) := (blk_cell BK1110.out 0).trans rfl
        have hfz18_0 := blk_frozen BK1110.out 0
        have p1112 : 0 ≤ (x5_1 : Int) := of_decide_eq_true za
        have q1112 : x5_1 < (l1_0.length : Int) := of_decide_eq_true za
        obtain ⟨ad1112, e1112, hx1112_0, hx1112_1, hx1112_2, hx1112_3⟩ := at_T123 HR1_0.out x5_1 p1112 q1112
        cases e1112
        replace hx1112_0 := (HB.out.cell (World.block_lt_of_cell? w _ hx1112_0)).trans hx1112_0
        replace hx1112_1 := (HB.out.cell (World.block_lt_of_cell? w _ hx1112_1)).trans hx1112_1
        replace hx1112_2 := (HB.out.cell (World.block_lt_of_cell? w _ hx1112_2)).trans hx1112_2
        replace hx1112_3 := (HB.out.cell (World.block_lt_of_cell? w _ hx1112_3)).trans hx1112_3
        replace p1112 := eq_true p1112
        replace q1112 := eq_true q1112
        go_wp2
        repeat (go_quiet (fail); try go_wp2)
        go_roundg k1
        case measure => have := HK1.out; omega
        case rel => exact ⟨(wrap64 (x5_1 + 1)), zr, H', ⟨by have := HK1.out; omega⟩, ⟨zb BK1109⟩, ⟨zb BK1110⟩, ⟨zB HB⟩⟩
      ·rw [if_neg c11] at H
       exact absurd H (by simp)
     ·rw [if_neg c10] at H
      exact absurd H (by simp)
    ·rw [if_neg c9] at H
     have c9b0 : decide (x5_1 < (l0_0.length : Int)) = false := decide_eq_false c9
     clear c9
     obtain rfl := Option.some.inj H
     have hnb19 := NB1109_1110.out
     have hnc19 := NB1110_1109.out
     have hcz20_0 : wr.cell? ⟨gb1109, 0, none⟩ = some (.slice A0_0 l0_0.length c0_0) := (blk_cell BK1109.out 0).trans rfl
     have hfz20_0 := blk_frozen BK1109.out 0
     go_wp2
     repeat (go_quiet (fail); try go_wp2)
     go_ret
     exact ⟨by first | rfl | (simp [errW_none, errW_some] <;> rfl) | (simp [*, errW_none, errW_some] <;> rfl), zB HB⟩
 ·rw [if_neg c3] at H
  have c3b0 : ((l0_0.length : Int) == (l1_0.length : Int)) = false := beq_eq_false_iff_ne.mpr c3
  have c3b1 : ((l0_0.length : Int) != (l1_0.length : Int)) = true := bne_iff_ne.mpr c3
  have c3b2 : (l0_0.length == l1_0.length) = false := by first | simpa using c3 | (simp at c3 ⊢; omega)
  obtain rfl := Option.some.inj H
  go_enter Try.func49, Try.ntmps49
  go_wp2_with (first | ((with_reducible refine gate_dst (N := 2) rfl ?_); refine box_event ?hg (N := 2) ?hd (cs := #[.slice A0_0 l0_0.length c0_0]) (t := 71) ?hr ?_; (case hd => rfl); (case hg => rfl); (case hr => first | (go_simp; done) | (go_simp; rfl)); intro gb1109 hg w21 hbox hb; have BK1109 := Aside0.mk (hbox); have GW1109 := Aside0.mk ((by rw [hg]; exact (below_size (zB HB)) : w.heap.size ≤ gb1109)); have GE1109 := Aside0.mk ((by rw [hg]; exact (below_size (zB HB)) : w.heap.size ≤ gb1109)); replace HB := Aside0.mk (below_step (zB HB) hb); clear hb hbox hg) | ((with_reducible refine gate_dst (N := 3) rfl ?_); refine box_event ?hg (N := 3) ?hd (cs := #[.slice A1_0 l1_0.length c1_0]) (t := 71) ?hr ?_; (case hd => rfl); (case hg => rfl); (case hr => first | (go_simp; done) | (go_simp; rfl)); intro gb1110 hg w22 hbox hb; have BK1110 := Aside0.mk (hbox); have GW1110 := Aside0.mk ((by rw [hg]; exact (below_size (zB HB)) : w.heap.size ≤ gb1110)); have GE1110 := Aside0.mk ((by rw [hg]; exact (below_size (zB HB)) : w.heap.size ≤ gb1110)); replace HB := Aside0.mk (below_step (zB HB) hb); have NB1109_1110 := Aside0.mk ((by rw [hg]; exact Nat.ne_of_lt (blk_lt (g := gb1109) (o := .cells #[.slice A0_0 l0_0.length c0_0] 71 (0, 0)) (zb BK1109)) : gb1109 ≠ gb1110)); have NB1110_1109 := Aside0.mk ((by rw [hg]; exact Nat.ne_of_gt (blk_lt (g := gb1109) (o := .cells #[.slice A0_0 l0_0.length c0_0] 71 (0, 0)) (zb BK1109)) : gb1110 ≠ gb1109)); replace BK1109 := Aside0.mk (blk_below (g := gb1109) (o := .cells #[.slice A0_0 l0_0.length c0_0] 71 (0, 0)) (zb BK1109) hb); clear hb hbox hg; have hnb23 := NB1109_1110.out; have hnc23 := NB1110_1109.out; have hcz24_0 : w22.cell? ⟨gb1109, 0, none⟩ = some (.slice A0_0 l0_0.length c0_0) := (blk_cell BK1109.out 0).trans rfl; have hfz24_0 := blk_frozen BK1109.out 0; have hcz25_0 : w22.cell? ⟨gb1110, 0, none⟩ = some (.slice A1_0 l1_0.length c1_0) := (blk_cell BK1110.out 0).trans rfl; have hfz25_0 := blk_frozen BK1110.out 0))
  repeat (go_quiet (first | ((with_reducible refine gate_dst (N := 2) rfl ?_); refine box_event ?hg (N := 2) ?hd (cs := #[.slice A0_0 l0_0.length c0_0]) (t := 71) ?hr ?_; (case hd => rfl); (case hg => rfl); (case hr => first | (go_simp; done) | (go_simp; rfl)); intro gb1109 hg w21 hbox hb; have BK1109 := Aside0.mk (hbox); have GW1109 := Aside0.mk ((by rw [hg]; exact (below_size (zB HB)) : w.heap.size ≤ gb1109)); have GE1109 := Aside0.mk ((by rw [hg]; exact (below_size (zB HB)) : w.heap.size ≤ gb1109)); replace HB := Aside0.mk (below_step (zB HB) hb); clear hb hbox hg) | ((with_reducible refine gate_dst (N := 3) rfl ?_); refine box_event ?hg (N := 3) ?hd (cs := #[.slice A1_0 l1_0.length c1_0]) (t := 71) ?hr ?_; (case hd => rfl); (case hg => rfl); (case hr => first | (go_simp; done) | (go_simp; rfl)); intro gb1110 hg w22 hbox hb; have BK1110 := Aside0.mk (hbox); have GW1110 := Aside0.mk ((by rw [hg]; exact (below_size (zB HB)) : w.heap.size ≤ gb1110)); have GE1110 := Aside0.mk ((by rw [hg]; exact (below_size (zB HB)) : w.heap.size ≤ gb1110)); replace HB := Aside0.mk (below_step (zB HB) hb); have NB1109_1110 := Aside0.mk ((by rw [hg]; exact Nat.ne_of_lt (blk_lt (g := gb1109) (o := .cells #[.slice A0_0 l0_0.length c0_0] 71 (0, 0)) (zb BK1109)) : gb1109 ≠ gb1110)); have NB1110_1109 := Aside0.mk ((by rw [hg]; exact Nat.ne_of_gt (blk_lt (g := gb1109) (o := .cells #[.slice A0_0 l0_0.length c0_0] 71 (0, 0)) (zb BK1109)) : gb1110 ≠ gb1109)); replace BK1109 := Aside0.mk (blk_below (g := gb1109) (o := .cells #[.slice A0_0 l0_0.length c0_0] 71 (0, 0)) (zb BK1109) hb); clear hb hbox hg; have hnb23 := NB1109_1110.out; have hnc23 := NB1110_1109.out; have hcz24_0 : w22.cell? ⟨gb1109, 0, none⟩ = some (.slice A0_0 l0_0.length c0_0) := (blk_cell BK1109.out 0).trans rfl; have hfz24_0 := blk_frozen BK1109.out 0; have hcz25_0 : w22.cell? ⟨gb1110, 0, none⟩ = some (.slice A1_0 l1_0.length c1_0) := (blk_cell BK1110.out 0).trans rfl; have hfz25_0 := blk_frozen BK1110.out 0)); try go_wp2_with (first | ((with_reducible refine gate_dst (N := 2) rfl ?_); refine box_event ?hg (N := 2) ?hd (cs := #[.slice A0_0 l0_0.length c0_0]) (t := 71) ?hr ?_; (case hd => rfl); (case hg => rfl); (case hr => first | (go_simp; done) | (go_simp; rfl)); intro gb1109 hg w21 hbox hb; have BK1109 := Aside0.mk (hbox); have GW1109 := Aside0.mk ((by rw [hg]; exact (below_size (zB HB)) : w.heap.size ≤ gb1109)); have GE1109 := Aside0.mk ((by rw [hg]; exact (below_size (zB HB)) : w.heap.size ≤ gb1109)); replace HB := Aside0.mk (below_step (zB HB) hb); clear hb hbox hg) | ((with_reducible refine gate_dst (N := 3) rfl ?_); refine box_event ?hg (N := 3) ?hd (cs := #[.slice A1_0 l1_0.length c1_0]) (t := 71) ?hr ?_; (case hd => rfl); (case hg => rfl); (case hr => first | (go_simp; done) | (go_simp; rfl)); intro gb1110 hg w22 hbox hb; have BK1110 := Aside0.mk (hbox); have GW1110 := Aside0.mk ((by rw [hg]; exact (below_size (zB HB)) : w.heap.size ≤ gb1110)); have GE1110 := Aside0.mk ((by rw [hg]; exact (below_size (zB HB)) : w.heap.size ≤ gb1110)); replace HB := Aside0.mk (below_step (zB HB) hb); have NB1109_1110 := Aside0.mk ((by rw [hg]; exact Nat.ne_of_lt (blk_lt (g := gb1109) (o := .cells #[.slice A0_0 l0_0.length c0_0] 71 (0, 0)) (zb BK1109)) : gb1109 ≠ gb1110)); have NB1110_1109 := Aside0.mk ((by rw [hg]; exact Nat.ne_of_gt (blk_lt (g := gb1109) (o := .cells #[.slice A0_0 l0_0.length c0_0] 71 (0, 0)) (zb BK1109)) : gb1110 ≠ gb1109)); replace BK1109 := Aside0.mk (blk_below (g := gb1109) (o := .cells #[.slice A0_0 l0_0.length c0_0] 71 (0, 0)) (zb BK1109) hb); clear hb hbox hg; have hnb23 := NB1109_1110.out; have hnc23 := NB1110_1109.out; have hcz24_0 : w22.cell? ⟨gb1109, 0, none⟩ = some (.slice A0_0 l0_0.length c0_0) := (blk_cell BK1109.out 0).trans rfl; have hfz24_0 := blk_frozen BK1109.out 0; have hcz25_0 : w22.cell? ⟨gb1110, 0, none⟩ = some (.slice A1_0 l1_0.length c1_0) := (blk_cell BK1110.out 0).trans rfl; have hfz25_0 := blk_frozen BK1110.out 0)))
  go_ret
  exact ⟨by first | rfl | (simp [errW_none, errW_some] <;> rfl) | (simp [*, errW_none, errW_some] <;> rfl), zB HB⟩

end Go.Proofs.Ytfcpbgedgedalaa.Q

namespace Go.Proofs.Ytfcpbgedgedalaa.Q
open Go.RowKit Go.Proofs.YtfcpbgedgedalaaL.PrintWords Go.Proofs.YtfcpbgedgedalaaL.PrintLast Go.Proofs.YtfcpbgedgedalaaL.PrintMore
attribute [local go_sem] max2_int min2_int max_two min_two max_three min_three max_four min_four   -- for this text's walks alone
set_option linter.unusedVariables false
set_option linter.unusedSimpArgs false

/-! ### spec_turnAt: function 130 -/
def spec_turnAt.l0 : Nat → List (S107) → ByteArray → Int → Option (Int)
 | 0, _, _, _ => none
 | k + 1, x0, x1, x5 => if x5 < (x0.length : Int) then (if 0 ≤ x5 then (if ((rd_T107 x0 x5).f0).toList = x1.toList then (some x5) else (spec_turnAt.l0 k x0 x1 (wrap64 (x5 + 1)))) else (none)) else (some (-1))
def spec_turnAt.f (k : Nat) (l0 : List (S107)) (a1 : ByteArray) : Option (Int) := spec_turnAt.l0 k l0 a1 0
theorem spec_turnAt.mono_l : ∀ k, (∀ y0 y1 y2, LeO (spec_turnAt.l0 k y0 y1 y2) (spec_turnAt.l0 (k + 1) y0 y1 y2))
 | 0 => fun _ _ _ r h => by simp [spec_turnAt.l0] at h
 | k + 1 => by
  have ih0 := spec_turnAt.mono_l k
  ·intro y0 y1 y2
   unfold spec_turnAt.l0
   repeat' first
   | (with_reducible exact ih0 _ _ _)
   | (with_reducible exact LeO.refl _)
   | (with_reducible exact LeO.none _)
   | (with_reducible refine LeO.ite ?_ ?_)
   | (with_reducible refine LeO.bind ?_ (fun _ => ?_))
   | exact ih0 _ _ _
   | exact LeO.none _
   | refine LeO.ite ?_ ?_
   | refine LeO.bind ?_ (fun _ => ?_)
theorem spec_turnAt.mono : ∀ a0 a1 k, LeO (spec_turnAt.f k a0 a1) (spec_turnAt.f (k + 1) a0 a1) := by
 intro a0 a1 k
 have ih0 := spec_turnAt.mono_l k
 unfold spec_turnAt.f
 repeat' first
   | (with_reducible exact ih0 _ _ _)
   | (with_reducible exact LeO.refl _)
   | (with_reducible exact LeO.none _)
   | (with_reducible refine LeO.ite ?_ ?_)
   | (with_reducible refine LeO.bind ?_ (fun _ => ?_))
   | exact ih0 _ _ _
   | exact LeO.none _
   | refine LeO.ite ?_ ?_
   | refine LeO.bind ?_ (fun _ => ?_)
set_option maxHeartbeats 8000000 in
set_option maxRecDepth 100000 in
theorem spec_turnAt.calls (k : Nat) (A0 : Option Addr) (c0 : Nat) (l0 : List (S107)) (a1 : ByteArray) (r : Int) (w : World) (hr0 : Kd.C k107 w A0 l0.length l0) (hc0 : l0.length ≤ c0) (h : spec_turnAt.f k l0 a1 = some r) :
  Calls Try.prog 130 #[.slice A0 l0.length c0, .string a1] w fun e w' => e = .returned (.int .i64 r) ∧ Drawn0 w w' := by
 have HR0 := Aside0.mk hr0
 have HC0 := Aside0.mk hc0
 clear hr0 hc0
 have H : (spec_turnAt.l0 k l0 a1 0) = some r := h
 clear h
 have H' := Aside0.mk H
 clear H
 go_enter Try.func130, Try.ntmps130
 go_wp2
 go_loopg [5] k (fun kq v5 w' => ∃ (x5_1 : Int), v5 = .int .i64 x5_1 ∧ Aside0 (spec_turnAt.l0 kq l0 a1 x5_1 = some r) ∧ Aside0 (kq ≤ k) ∧ Drawn0 w w')
 case atStart => exact ⟨(0), zr, H', ⟨Nat.le_refl _⟩, by repeat (first | exact Drawn0.refl _ | apply Drawn0.step)⟩
 case round =>
  clear H'
  try clear c1
  try clear p2
  obtain ⟨x5_1, rfl, HA, HK1, ⟨m1, rfl⟩⟩ := hrel
  cases gk with
  | zero => exact absurd HA.out (by simp [spec_turnAt.l0])
  | succ k1 =>
   have H := HA.out
   clear HA
   simp only [spec_turnAt.l0] at H
   by_cases c3 : x5_1 < (l0.length : Int)
   ·rw [if_pos c3] at H
    have c3b0 : decide (x5_1 < (l0.length : Int)) = true := decide_eq_true c3
    clear c3
    by_cases c4 : 0 ≤ x5_1
    ·rw [if_pos c4] at H
     have c4b0 : decide (0 ≤ x5_1) = true := decide_eq_true c4
     clear c4
     by_cases c5 : ((rd_T107 l0 x5_1).f0).toList = a1.toList
     ·rw [if_pos c5] at H
      have c5b0 : (((rd_T107 l0 x5_1).f0).toList == a1.toList) = true := beq_iff_eq.mpr c5
      have c5b1 : (((rd_T107 l0 x5_1).f0).toList != a1.toList) = false := bne_eq_false_iff_eq.mpr c5
      clear c5
      obtain rfl := Option.some.inj H
      have p699 : 0 ≤ (x5_1 : Int) := of_decide_eq_true za
      have q699 : x5_1 < (l0.length : Int) := of_decide_eq_true za
      obtain ⟨ad699, e699, hx699_0, hx699_1⟩ := at_T107 HR0.out x5_1 p699 q699
      cases e699
      replace p699 := eq_true p699
      replace q699 := eq_true q699
      go_wp2
      go_ret
      exact ⟨by first | rfl | (simp; done) | (simp [*]; done), by repeat (first | exact Drawn0.refl _ | apply Drawn0.step)⟩
     ·rw [if_neg c5] at H
      have c5b0 : (((rd_T107 l0 x5_1).f0).toList == a1.toList) = false := beq_eq_false_iff_ne.mpr c5
      have c5b1 : (((rd_T107 l0 x5_1).f0).toList != a1.toList) = true := bne_iff_ne.mpr c5
      have H' := Aside0.mk H
      clear H
      have p699 : 0 ≤ (x5_1 : Int) := of_decide_eq_true za
      have q699 : x5_1 < (l0.length : Int) := of_decide_eq_true za
      obtain ⟨ad699, e699, hx699_0, hx699_1⟩ := at_T107 HR0.out x5_1 p699 q699
      cases e699
      replace p699 := eq_true p699
      replace q699 := eq_true q699
      go_wp2
      go_roundg k1
      case measure => have := HK1.out; omega
      case rel => exact ⟨(wrap64 (x5_1 + 1)), zr, H', ⟨by have := HK1.out; omega⟩, by repeat (first | exact Drawn0.refl _ | apply Drawn0.step)⟩
    ·rw [if_neg c4] at H
     exact absurd H (by simp)
   ·rw [if_neg c3] at H
    have c3b0 : decide (x5_1 < (l0.length : Int)) = false := decide_eq_false c3
    clear c3
    obtain rfl := Option.some.inj H
    go_wp2
    go_ret
    exact ⟨by first | rfl | (simp; done) | (simp [*]; done), by repeat (first | exact Drawn0.refl _ | apply Drawn0.step)⟩

end Go.Proofs.Ytfcpbgedgedalaa.Q
