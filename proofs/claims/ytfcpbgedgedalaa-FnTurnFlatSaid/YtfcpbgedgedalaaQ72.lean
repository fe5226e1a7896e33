-- written by px.py (a program of this claim's), over the kit's print. Not trusted: Lean checks it.
import Derived.Test.YtfcpbgedgedalaaQ0
namespace Go.Proofs.Ytfcpbgedgedalaa.Q
open Go.RowKit Go.Proofs.YtfcpbgedgedalaaL.PrintWords Go.Proofs.YtfcpbgedgedalaaL.PrintLast Go.Proofs.YtfcpbgedgedalaaL.PrintMore
attribute [local go_sem] max2_int min2_int max_two min_two max_three min_three max_four min_four   -- for this text's walks alone
set_option linter.unusedVariables false
set_option linter.unusedSimpArgs false

/-! ### slices.Grow of nil at impl.Turn: function 131 -/
set_option maxHeartbeats 8000000 in
set_option maxRecDepth 100000 in
theorem gr131.calls (m : Int) (w : World) (h0 : 0 ≤ m) (hl : m.toNat * 32 ≤ 140737488355328) :
  Calls Try.prog 131 #[.slice none 0 0, .int .i64 m] w fun e w' => ∃ v0_ : Value, e = .returned v0_ ∧ Kd.R k107 107 w' w.heap.size (fun _ => True) v0_ [] ∧ Below w.heap.size w w' := by
 have HL := Aside0.mk hl
 have hm : m ≤ 140737488355328 := by omega
 clear hl
 have h1 : decide (m < 0) = false := by simp; omega
 by_cases hp : 0 < m
 ·go_enter Try.func131, Try.ntmps131
  go_wp2_with (first | ((with_reducible refine gate_dst (N := 22) rfl ?_); refine Kd.R_append_zeros k107 (w0 := w) w.heap.size (by rfl) (.tmp 20) (.tmp 21) 55 3 107 (.agg #[(.string ⟨#[]⟩), (.string ⟨#[]⟩)]) 32 rfl Try.underlying55 Try.underlying3 info107 rfl (by decide) (by decide) (.slice none 0 0) ([] : List (S107)) z107 m (fun _ => True) rfl rfl (k107_mkM _ _ _ z107) (fun _ _ => trivial) (Kd.R_nil _ _ _ _ _) h0 (px_refl _) (Nat.le_refl _) ?aL ?_; (case aL => simpa using HL.out); intro v7 w7 ho7 hb7 hg_ hnew_; clear hg_ hnew_; obtain ⟨A7, c7, rfl⟩ := Kd.R_slice ho7; have hn7 := (Kd.R_reads' ho7).2.1; have HO7 := Aside0.mk ho7; have HB7 := Aside0.mk hb7; clear ho7 hb7))
  go_ret
  exact ⟨_, rfl, by simpa using Kd.R_take (m := 0) HO7.out (Nat.zero_le _), HB7.out⟩
 ·have : m = 0 := by omega
  subst this
  go_enter Try.func131, Try.ntmps131
  go_wp2
  go_ret
  exact ⟨_, rfl, Kd.R_nil _ _ _ _ _, px_refl _⟩
/-! ### impl_Turn_82: function 82 (a contract of our own) -/
def impl_Turn_82.f (l0 : List (List (S107))) : Option ((List (S107))) := if l0.flatten.length * 32 ≤ 140737488355328 then some l0.flatten else none
set_option maxHeartbeats 8000000 in
set_option maxRecDepth 100000 in
theorem impl_Turn_82.calls (A0 : Option Addr) (c0 : Nat) (l0 : List (List (S107))) (r : List (S107)) (w : World) (hr0 : Kd.C (Kd.slice 107 k107) w A0 l0.length l0) (hc0 : l0.length ≤ c0) (h : impl_Turn_82.f l0 = some r) :
  Calls Try.prog 82 #[.slice A0 l0.length c0] w fun e w' => ∃ v0_ : Value, e = .returned (v0_) ∧ Kd.R k107 107 w' w.heap.size (fun _ => True) v0_ r ∧ Below w.heap.size w w' := by
 have hl : l0.flatten.length * 32 ≤ 140737488355328 := by unfold impl_Turn_82.f at h; split at h; assumption; cases h
 have hr : r = l0.flatten := by unfold impl_Turn_82.f at h; rw [if_pos hl] at h; exact (Option.some.inj h).symm
 subst hr
 clear h
 have HR := Aside0.mk hr0
 clear hr0
 have hbig : l0.length ≤ 9223372036854775807 := HR.out.2.1
 have hfb : l0.flatten.length ≤ 140737488355328 := by omega
 go_enter Try.func82, Try.ntmps82
 go_wp2
 go_loopg [3, 11] l0.length (fun gg v3 v11 wr => ∃ kk : Nat, kk ≤ l0.length ∧ l0.length - kk ≤ gg ∧ v3 = .int .i64 ((l0.take kk).flatten.length : Nat) ∧ v11 = .int .i64 kk ∧ Aside0 (Below w.heap.size w wr))
 case atStart => exact ⟨0, Nat.zero_le _, by omega, by simp, rfl, ⟨px_refl _⟩⟩
 case round =>
  obtain ⟨kk, hkk, hg, rfl, rfl, BW⟩ := hrel
  by_cases hlt : kk < l0.length
  ·have hltz : (kk : Int) < (l0.length : Int) := by omega
   have hz0 : (0 : Int) ≤ (kk : Int) := by omega
   obtain ⟨ad, A1, c1, e, hx0, hl1, hC1⟩ := at_L13 (Kd.C_below HR.out BW.out) (kk : Int) hz0 hltz
   simp only [Int.toNat_natCast] at hx0
   cases e
   have hft := px_flat_take l0 kk hlt []
   have hle := px_flat_le l0 (kk + 1)
   rw [hft, List.length_append] at hle
   rw [show rd_L13 l0 (kk : Int) = l0.getD kk [] from rfl] at hx0 hl1
   have HF := Aside0.mk (show (l0.take (kk + 1)).flatten.length = (l0.take kk).flatten.length + (l0.getD kk []).length by rw [hft, List.length_append])
   clear hft hC1
   generalize (l0.getD kk []).length = n1 at *
   generalize (l0.take kk).flatten.length = n0 at *
   have hb1 : (n0 : Int) + (n1 : Int) ≤ 140737488355328 := by omega
   have hb2 : decide ((n0 : Int) + (n1 : Int) < 0) = false := by simp; omega
   go_wp2
   go_roundg (l0.length - (kk + 1))
   case measure => omega
   case rel => exact ⟨kk + 1, by omega, by omega, by rw [HF.out]; simp, by go_num, BW⟩
  ·have : kk = l0.length := by omega
   subst this
   have HT := Aside0.mk (show (l0.take l0.length).flatten.length = l0.flatten.length by rw [List.take_length])
   rw [HT.out]
   generalize hfl : l0.flatten.length = fl at *
   have HFL := Aside0.mk hfl
   clear hfl
   have hltz : ¬ (l0.length : Int) < (l0.length : Int) := by omega
   go_wp2_with fail
   refine (gr131.calls (fl : Int) _ (by omega) (by simpa using hl)).mono ?_
   rintro e w1 ⟨v1, rfl, hv1, hb1⟩
   have HO1 := Aside0.mk hv1
   have HB1 := Aside0.mk (below_then BW.out BW.out.size hb1)
   have HO1' := Aside0.mk (Kd.R_lower HO1.out BW.out.size)
   clear hv1 hb1 HO1
   go_wp2
   go_loopg [6, 27] l0.length (fun gg v6 v27 wr => ∃ kk : Nat, kk ≤ l0.length ∧ l0.length - kk ≤ gg ∧ v27 = .int .i64 kk ∧ Aside0 (Kd.R k107 107 wr w.heap.size (fun _ => True) v6 (l0.take kk).flatten) ∧ Aside0 (Below w.heap.size w wr))
   case atStart => exact ⟨0, Nat.zero_le _, by omega, rfl, ⟨HO1'.out⟩, HB1⟩
   case round =>
    clear HO1' HB1 BW
    obtain ⟨kk, hkk, hg, rfl, HO, BW⟩ := hrel
    by_cases hlt : kk < l0.length
    ·have hltz : (kk : Int) < (l0.length : Int) := by omega
     have hz0 : (0 : Int) ≤ (kk : Int) := by omega
     obtain ⟨ad, A1, c1, e, hx0, hl1, hC1⟩ := at_L13 (Kd.C_below HR.out BW.out) (kk : Int) hz0 hltz
     simp only [Int.toNat_natCast] at hx0
     cases e
     have hft := px_flat_take l0 kk hlt []
     have hle := px_flat_le l0 (kk + 1)
     rw [hft, List.length_append] at hle
     rw [show rd_L13 l0 (kk : Int) = l0.getD kk [] from rfl] at hx0 hl1 hC1
     generalize l0.getD kk [] = y at *
     have HF := Aside0.mk hft
     have HLe := Aside0.mk hle
     have HC1 := Aside0.mk hC1
     clear hft hC1 hle
     have hFL := HFL.out
     clear HFL
     go_wp2_with (first | ((with_reducible refine gate_dst (N := 33) rfl ?_); refine Kd.R_append_rows k107 (Rr := k107.K wr) (w0 := w) w.heap.size (by rfl) (.tmp 31) (.tmp 32) 55 107 (.agg #[(.string ⟨#[]⟩), (.string ⟨#[]⟩)]) 32 rfl Try.underlying55 info107 rfl (by decide) (by omega) _ (l0.take kk).flatten y _ _ _ (fun _ => True) (fun _ => False) rfl rfl HO.out HC1.out (fun x cs h => by rw [k107_open h]; exact k107_mkM _ _ _ _) (fun _ h => h.elim) (fun _ _ => trivial) BW.out BW.out.size ?aL ?_; (case aL => have := HLe.out; omega); intro v7 w7 ho7 hb7 hg_ hnew_; clear hg_ hnew_; have HO7 := Aside0.mk ho7; have HB7 := Aside0.mk hb7; clear ho7 hb7))
     go_roundg (l0.length - (kk + 1))
     case measure => omega
     case rel => exact ⟨kk + 1, by omega, by omega, by go_num, ⟨by rw [HF.out]; exact HO7.out⟩, HB7⟩
    ·have : kk = l0.length := by omega
     subst this
     have hltz : ¬ (l0.length : Int) < (l0.length : Int) := by omega
     go_wp2
     go_ret
     exact ⟨_, rfl, by have h := HO.out; rwa [List.take_length] at h, BW.out⟩

/-! ### impl_turn: function 85 -/
def impl_turn.l0 : Nat → ByteArray → List (S107) → Int → Int → Option (ByteArray)
 | 0, _, _, _, _ => none
 | k + 1, x1, x7, x8, x9 => if x9 < x8 then (if 0 ≤ x9 then (if x9 < (x7.length : Int) then (if ((rd_T107 x7 x9).f0).toList = x1.toList then (some ((rd_T107 x7 x9).f1)) else (impl_turn.l0 k x1 x7 x8 (wrap64 (x9 + 1)))) else (none)) else (none)) else (some x1)
def impl_turn.f (k : Nat) (l0 : List (S107)) (a1 : ByteArray) : Option (ByteArray) := impl_turn.l0 k a1 l0 (l0.length : Int) 0
theorem impl_turn.mono_l : ∀ k, (∀ y0 y1 y2 y3, LeO (impl_turn.l0 k y0 y1 y2 y3) (impl_turn.l0 (k + 1) y0 y1 y2 y3))
 | 0 => fun _ _ _ _ r h => by simp [impl_turn.l0] at h
 | k + 1 => by
  have ih0 := impl_turn.mono_l k
  ·intro y0 y1 y2 y3
   unfold impl_turn.l0
   repeat' first
   | (with_reducible exact ih0 _ _ _ _)
   | (with_reducible exact LeO.refl _)
   | (with_reducible exact LeO.none _)
   | (with_reducible refine LeO.ite ?_ ?_)
   | (with_reducible refine LeO.bind ?_ (fun _ => ?_))
   | exact ih0 _ _ _ _
   | exact LeO.none _
   | refine LeO.ite ?_ ?_
   | refine LeO.bind ?_ (fun _ => ?_)
theorem impl_turn.mono : ∀ a0 a1 k, LeO (impl_turn.f k a0 a1) (impl_turn.f (k + 1) a0 a1) := by
 intro a0 a1 k
 have ih0 := impl_turn.mono_l k
 unfold impl_turn.f
 repeat' first
   | (with_reducible exact ih0 _ _ _ _)
   | (with_reducible exact LeO.refl _)
   | (with_reducible exact LeO.none _)
   | (with_reducible refine LeO.ite ?_ ?_)
   | (with_reducible refine LeO.bind ?_ (fun _ => ?_))
   | exact ih0 _ _ _ _
   | exact LeO.none _
   | refine LeO.ite ?_ ?_
   | refine LeO.bind ?_ (fun _ => ?_)
set_option maxHeartbeats 8000000 in
set_option maxRecDepth 100000 in
theorem impl_turn.calls (k : Nat) (A0 : Option Addr) (c0 : Nat) (l0 : List (S107)) (a1 : ByteArray) (r : ByteArray) (w : World) (hr0 : Kd.C k107 w A0 l0.length l0) (hc0 : l0.length ≤ c0) (h : impl_turn.f k l0 a1 = some r) :
  Calls Try.prog 85 #[.slice A0 l0.length c0, .string a1] w fun e w' => e = .returned (.string r) ∧ Below w.heap.size w w' := by
 have hu107 := Try.underlying107
 have HR0 := Aside0.mk hr0
 have HC0 := Aside0.mk hc0
 clear hr0 hc0
 have HB := Aside0.mk (Below.refl w.heap.size w)
 have H : (impl_turn.l0 k a1 l0 (l0.length : Int) 0) = some r := h
 clear h
 have H' := Aside0.mk H
 clear H
 go_enter Try.func85, Try.ntmps85
 go_wp2
 go_loopg [9] k (fun kq v9 w' => ∃ (x9_1 : Int), v9 = .int .i64 x9_1 ∧ Aside0 (impl_turn.l0 kq a1 l0 (l0.length : Int) x9_1 = some r) ∧ Aside0 (kq ≤ k) ∧ Aside0 (Below w.heap.size w w'))
 case atStart => exact ⟨(0), zr, H', ⟨Nat.le_refl _⟩, ⟨by repeat (first | (with_reducible first | exact HB.out | apply below_alloc | apply pw_below_drewN | apply below_drew1) | exact HB.out)⟩⟩
 case round =>
  clear H'
  try clear p2
  obtain ⟨x9_1, rfl, HA, HK1, HB⟩ := hrel
  cases gk with
  | zero => exact absurd HA.out (by simp [impl_turn.l0])
  | succ k1 =>
   have H := HA.out
   clear HA
   simp only [impl_turn.l0] at H
   by_cases c3 : x9_1 < (l0.length : Int)
   ·rw [if_pos c3] at H
    have c3b0 : decide (x9_1 < (l0.length : Int)) = true := decide_eq_true c3
    clear c3
    by_cases c4 : 0 ≤ x9_1
    ·rw [if_pos c4] at H
     have c4b0 : decide (0 ≤ x9_1) = true := decide_eq_true c4
     clear c4
     by_cases c5 : x9_1 < (l0.length : Int)
     ·rw [if_pos c5] at H
      have c5b0 : decide (x9_1 < (l0.length : Int)) = true := decide_eq_true c5
      clear c5
      by_cases c6 : ((rd_T107 l0 x9_1).f0).toList = a1.toList
      ·rw [if_pos c6] at H
       have c6b0 : (((rd_T107 l0 x9_1).f0).toList == a1.toList) = true := beq_iff_eq.mpr c6
       have c6b1 : (((rd_T107 l0 x9_1).f0).toList != a1.toList) = false := bne_eq_false_iff_eq.mpr c6
       clear c6
       obtain rfl := Option.some.inj H
       have p752 : 0 ≤ (x9_1 : Int) := of_decide_eq_true za
       have q752 : x9_1 < (l0.length : Int) := of_decide_eq_true za
       obtain ⟨ad752, e752, hx752_0, hx752_1⟩ := at_T107 HR0.out x9_1 p752 q752
       cases e752
       replace hx752_0 := (HB.out.cell (World.block_lt_of_cell? w _ hx752_0)).trans hx752_0
       replace hx752_1 := (HB.out.cell (World.block_lt_of_cell? w _ hx752_1)).trans hx752_1
       replace p752 := eq_true p752
       replace q752 := eq_true q752
       go_wp2_with (first | ((with_reducible refine gate_dst (N := 6) rfl ?_); refine box_event ?hg (N := 6) ?hd (cs := #[.string (⟨#[]⟩ : ByteArray), .string (⟨#[]⟩ : ByteArray)]) (t := 107) ?hr ?_; (case hd => rfl); (case hg => rfl); (case hr => first | (go_simp; done) | (go_simp; rfl)); intro gb753 hg w7 hbox hb; have n0_ := Aside0.mk (below_step (zB HB) hb); have n1_ := Aside0.mk (hbox); have n2_ := Aside0.mk ((by rw [hg]; exact (below_size (zB HB)) : w.heap.size ≤ gb753)); have n3_ := Aside0.mk ((by rw [hg]; exact (below_size (zB HB)) : w.heap.size ≤ gb753)); clear HB; have HB := n0_; have BK753 := n1_; have GW753 := n2_; have GE753 := n3_; clear n0_ n1_ n2_ n3_; clear hb hbox hg; have hcz8_0 : w7.cell? ⟨gb753, 0, none⟩ = some (.string (⟨#[]⟩ : ByteArray)) := (blk_cell BK753.out 0).trans rfl; have hcz8_1 : w7.cell? ⟨gb753, 1, none⟩ = some (.string (⟨#[]⟩ : ByteArray)) := (blk_cell BK753.out 1).trans rfl; have hfz8_0 := blk_frozen BK753.out 0; have hfz8_1 := blk_frozen BK753.out 1))
       go_ret
       exact ⟨by first | rfl | (simp [errW_none, errW_some] <;> rfl) | (simp [*, errW_none, errW_some] <;> rfl), by repeat (first | (with_reducible first | exact HB.out | apply below_alloc | apply pw_below_drewN | apply below_drew1 | refine below_set ?_ GE753.out) | exact HB.out)⟩
      ·rw [if_neg c6] at H
       have c6b0 : (((rd_T107 l0 x9_1).f0).toList == a1.toList) = false := beq_eq_false_iff_ne.mpr c6
       have c6b1 : (((rd_T107 l0 x9_1).f0).toList != a1.toList) = true := bne_iff_ne.mpr c6
       have H' := Aside0.mk H
       clear H
       have p752 : 0 ≤ (x9_1 : Int) := of_decide_eq_true za
       have q752 : x9_1 < (l0.length : Int) := of_decide_eq_true za
       obtain ⟨ad752, e752, hx752_0, hx752_1⟩ := at_T107 HR0.out x9_1 p752 q752
       cases e752
       replace hx752_0 := (HB.out.cell (World.block_lt_of_cell? w _ hx752_0)).trans hx752_0
       replace hx752_1 := (HB.out.cell (World.block_lt_of_cell? w _ hx752_1)).trans hx752_1
       replace p752 := eq_true p752
       replace q752 := eq_true q752
       go_wp2_with (first | ((with_reducible refine gate_dst (N := 6) rfl ?_); refine box_event ?hg (N := 6) ?hd (cs := #[.string (⟨#[]⟩ : ByteArray), .string (⟨#[]⟩ : ByteArray)]) (t := 107) ?hr ?_; (case hd => rfl); (case hg => rfl); (case hr => first | (go_simp; done) | (go_simp; rfl)); intro gb753 hg w9 hbox hb; have n0_ := Aside0.mk (below_step (zB HB) hb); have n1_ := Aside0.mk (hbox); have n2_ := Aside0.mk ((by rw [hg]; exact (below_size (zB HB)) : w.heap.size ≤ gb753)); have n3_ := Aside0.mk ((by rw [hg]; exact (below_size (zB HB)) : w.heap.size ≤ gb753)); clear HB; have HB := n0_; have BK753 := n1_; have GW753 := n2_; have GE753 := n3_; clear n0_ n1_ n2_ n3_; clear hb hbox hg; have hcz10_0 : w9.cell? ⟨gb753, 0, none⟩ = some (.string (⟨#[]⟩ : ByteArray)) := (blk_cell BK753.out 0).trans rfl; have hcz10_1 : w9.cell? ⟨gb753, 1, none⟩ = some (.string (⟨#[]⟩ : ByteArray)) := (blk_cell BK753.out 1).trans rfl; have hfz10_0 := blk_frozen BK753.out 0; have hfz10_1 := blk_frozen BK753.out 1))
       go_roundg k1
       case measure => have := HK1.out; omega
       case rel => exact ⟨(wrap64 (x9_1 + 1)), zr, H', ⟨by have := HK1.out; omega⟩, ⟨by repeat (first | (with_reducible first | exact HB.out | apply below_alloc | apply pw_below_drewN | apply below_drew1 | refine below_set ?_ GE753.out) | exact HB.out)⟩⟩
     ·rw [if_neg c5] at H
      exact absurd H (by simp)
    ·rw [if_neg c4] at H
     exact absurd H (by simp)
   ·rw [if_neg c3] at H
    have c3b0 : decide (x9_1 < (l0.length : Int)) = false := decide_eq_false c3
    clear c3
    obtain rfl := Option.some.inj H
    go_wp2
    go_ret
    exact ⟨by first | rfl | (simp [errW_none, errW_some] <;> rfl) | (simp [*, errW_none, errW_some] <;> rfl), by repeat (first | (with_reducible first | exact HB.out | apply below_alloc | apply pw_below_drewN | apply below_drew1) | exact HB.out)⟩

/-! ### impl_Turn_86: function 86 (a contract of our own) -/
def impl_Turn_86.f (l0 : List (S107)) : Option (List (S107)) := some l0
set_option maxHeartbeats 8000000 in
set_option maxRecDepth 100000 in
theorem impl_Turn_86.calls (P0_ : Nat → Prop) (u9000_ : Value) (l0 : List (S107)) (r : List (S107)) (w0 w : World) (hB : Below w0.heap.size w0 w) (ho0 : Kd.R k107 107 w w0.heap.size P0_ u9000_ l0) (h : impl_Turn_86.f l0 = some r) :
  Calls Try.prog 86 #[u9000_] w fun e w' => ∃ v0_ : Value, e = .returned (v0_) ∧ Kd.R k107 107 w' w0.heap.size (fun k_ => (P0_ k_ ∨ w.heap.size ≤ k_)) v0_ r ∧ Below w0.heap.size w0 w' ∧ Kept w w' (fun k_ => P0_ k_) := by
 obtain rfl := Option.some.inj h
 clear h
 obtain ⟨A0, c0, rfl⟩ := Kd.R_slice ho0
 obtain ⟨_, hl, hC⟩ := Kd.R_reads' ho0
 have hbig : l0.length ≤ 9223372036854775807 := hC.2.1
 have HO := Aside0.mk ho0
 have HB := Aside0.mk hB
 clear ho0 hB hC
 go_enter Try.func86, Try.ntmps86
 go_wp2
 go_ret
 exact ⟨_, rfl, Kd.R_mono (Kd.R_clip HO.out (Nat.le_refl _) hl) (fun _ h => .inl h), HB.out, Kept.refl _ _⟩

end Go.Proofs.Ytfcpbgedgedalaa.Q
