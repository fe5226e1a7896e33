-- written by px.py and merge.py (programs of this claim's), over the kit's print. Not trusted: Lean checks it.
import Derived.Test.YtkandhljbbolnaaQ0
namespace Go.Proofs.Ytkandhljbbolnaa.Q
open Go.RowKit Go.Proofs.YtkandhljbbolnaaL.PrintWords Go.Proofs.YtkandhljbbolnaaL.PrintLast Go.Proofs.YtkandhljbbolnaaL.PrintMore
attribute [local go_sem] max2_int min2_int max_two min_two max_three min_three max_four min_four   -- for this text's walks alone
set_option linter.unusedVariables false
set_option linter.unusedSimpArgs false

/-- A state of type 150 at block g of W; what its slices lead to came in by w0. -/
def IsS150 (w0 W : World) (g : Nat) (f0 : List Int) (f1 : Int) : Prop := ∃ A0 c0, W.heap[g]? = some (.cells #[.slice A0 f0.length c0, .int .i64 f1] 150 (0, 0)) ∧ w0.heap.size ≤ g ∧ Kd.C (Kd.int .u8) w0 A0 f0.length f0
theorem IsS150.grown {w0 W : World} {g : Nat} {f0 : List Int} {f1 : Int} {W1 : World} {row : Option Nat} (h : IsS150 w0 W g f0 f1) (hw : W.grownBy W1 row) (hne : some g ≠ row) : IsS150 w0 W1 g f0 f1 := by
 obtain ⟨A0, c0, hb, hg, hr0⟩ := h; exact ⟨A0, c0, blk_grown hb hw hne, hg, hr0⟩
theorem IsS150.own_neN {w0 W : World} {g : Nat} {f0 : List Int} {f1 : Int} {α : Type} {d : Kd α} {e : Nat} {base : Nat} {ok : Nat → Prop} {v : Value} {xs : List α} (h : IsS150 w0 W g f0 f1) (ho : Kd.N d e W base ok v xs) (ht : e ≠ 150) : some g ≠ v.ownBlock := by
 obtain ⟨A0, c0, hb, hg, hr0⟩ := h; exact Kd.N_ne ho hb ht
theorem IsS150.fresh {w0 W : World} {g : Nat} {f0 : List Int} {f1 : Int} (h : IsS150 w0 W g f0 f1) : ∀ k, W.heap.size ≤ k → k ≠ g := by
 obtain ⟨A0, c0, hb, hg, hr0⟩ := h; exact Kd.freshB hb
theorem IsS150.kept {w0 W : World} {g : Nat} {f0 : List Int} {f1 : Int} {W1 : World} {S : Nat → Prop} (h : IsS150 w0 W g f0 f1) (hk : Kept W W1 S) (hne : ¬ S g) : IsS150 w0 W1 g f0 f1 := by
 obtain ⟨A0, c0, hb, hg, hr0⟩ := h; exact ⟨A0, c0, blk_kept hb hk hne, hg, hr0⟩
theorem IsS150.below {w0 W : World} {g : Nat} {f0 : List Int} {f1 : Int} {W1 : World} (h : IsS150 w0 W g f0 f1) (hw : Below W.heap.size W W1) : IsS150 w0 W1 g f0 f1 := h.grown (grown_of_below hw none) (by simp)
theorem IsS150.alloc {w0 W : World} {g : Nat} {f0 : List Int} {f1 : Int} (h : IsS150 w0 W g f0 f1) (o : Obj) : IsS150 w0 (W.alloc o) g f0 f1 := h.below (below_alloc (Below.refl _ _) o)
theorem IsS150.drewN {w0 W : World} {g : Nat} {f0 : List Int} {f1 : Int} (h : IsS150 w0 W g f0 f1) (m : Nat) : IsS150 w0 (W.drewN m) g f0 f1 := h
theorem IsS150.drew {w0 W : World} {g : Nat} {f0 : List Int} {f1 : Int} (h : IsS150 w0 W g f0 f1) : IsS150 w0 W.drew g f0 f1 := h
theorem IsS150.at_ {w0 W : World} {g : Nat} {f0 : List Int} {f1 : Int} {w' : World} {m : Nat} (hq : W.drewN m = w') (h : IsS150 w0 W g f0 f1) : IsS150 w0 w' g f0 f1 := by subst hq; exact IsS150.drewN h m
theorem IsS150.apart {w0 W : World} {g : Nat} {f0 : List Int} {f1 : Int} {α : Type} {d : Kd α} {e : Nat} {base : Nat} {ok : Nat → Prop} {v : Value} {xs : List α} (h : IsS150 w0 W g f0 f1) (ho : d.R e W base ok v xs) (ht : ∀ q, q ∈ e :: d.E → q ≠ 150) : d.R e W base (fun k => ok k ∧ k ≠ g) v xs := by
 obtain ⟨A0, c0, hb, hg, hr0⟩ := h; exact Kd.R_types ho hb ht
theorem IsS150.own_ne {w0 W : World} {g : Nat} {f0 : List Int} {f1 : Int} {α : Type} {d : Kd α} {e : Nat} {base : Nat} {ok : Nat → Prop} {v : Value} {xs : List α} (h : IsS150 w0 W g f0 f1) (ho : d.R e W base ok v xs) (ht : e ≠ 150) : some g ≠ v.ownBlock := by
 obtain ⟨A0, c0, hb, hg, hr0⟩ := h; exact Kd.R_ne ho hb ht
theorem IsS150.apartQ {w0 W : World} {g : Nat} {f0 : List Int} {f1 : Int} {α : Type} {d : Kd α} {e : Nat} {base : Nat} {ok : Nat → Prop} {v : Value} {xs : List α} (h : IsS150 w0 W g f0 f1) (ho : d.Q e W base ok v xs) (ht : ∀ q, q ∈ e :: d.E → q ≠ 150) : d.Q e W base (fun k => ok k ∧ k ≠ g) v xs := by
 obtain ⟨A0, c0, hb, hg, hr0⟩ := h; exact Kd.Q_types ho hb ht
theorem IsS150.own_neQ {w0 W : World} {g : Nat} {f0 : List Int} {f1 : Int} {α : Type} {d : Kd α} {e : Nat} {base : Nat} {ok : Nat → Prop} {v : Value} {xs : List α} (h : IsS150 w0 W g f0 f1) (ho : d.Q e W base ok v xs) (ht : e ≠ 150) : some g ≠ v.ownBlock := by
 obtain ⟨A0, c0, hb, hg, hr0⟩ := h; exact Kd.Q_ne ho hb ht
theorem IsS150.apartS {w0 W : World} {g : Nat} {f0 : List Int} {f1 : Int} {α : Type} {d : Kd α} {e : Nat} {base : Nat} {ok : Nat → Prop} {v : Value} {xs : List α} (h : IsS150 w0 W g f0 f1) (ho : d.S e W base ok v xs) (ht : ∀ q, q ∈ e :: d.E → q ≠ 150) : d.S e W base (fun k => ok k ∧ k ≠ g) v xs := by
 obtain ⟨A0, c0, hb, hg, hr0⟩ := h; exact Kd.S_types ho hb ht
theorem IsS150.own_neS {w0 W : World} {g : Nat} {f0 : List Int} {f1 : Int} {α : Type} {d : Kd α} {e : Nat} {base : Nat} {ok : Nat → Prop} {v : Value} {xs : List α} (h : IsS150 w0 W g f0 f1) (ho : d.S e W base ok v xs) (ht : e ≠ 150) : some g ≠ v.ownBlock := by
 obtain ⟨A0, c0, hb, hg, hr0⟩ := h; exact Kd.S_ne ho hb ht
theorem IsS150.lt {w0 W : World} {g : Nat} {f0 : List Int} {f1 : Int} (h : IsS150 w0 W g f0 f1) : g < W.heap.size := by
 obtain ⟨A0, c0, hb, hg, hr0⟩ := h; exact blk_lt hb
theorem IsS150.ge {w0 W : World} {g : Nat} {f0 : List Int} {f1 : Int} (h : IsS150 w0 W g f0 f1) : w0.heap.size ≤ g := by
 obtain ⟨A0, c0, hb, hg, hr0⟩ := h; exact hg
theorem IsS150.ne_blk {w0 W : World} {g : Nat} {f0 : List Int} {f1 : Int} {a : Nat} {cs : Array Value} {t : TypeId} {fr : Nat × Nat} (h : IsS150 w0 W g f0 f1) (hb2 : W.heap[a]? = some (.cells cs t fr)) (ht : t ≠ 150) : g ≠ a := by
 obtain ⟨A0, c0, hb, hg, hr0⟩ := h; rintro rfl; rw [hb] at hb2
 injection hb2 with hb2
 injection hb2 with _ ht2
 exact ht ht2.symm
theorem IsS150.far {w0 W : World} {g : Nat} {f0 : List Int} {f1 : Int} {p : Addr} (h : IsS150 w0 W g f0 f1) (hne : g ≠ p.block) (u : Value) : IsS150 w0 (W.setCell p u) g f0 f1 := by
 obtain ⟨A0, c0, hb, hg, hr0⟩ := h; exact ⟨A0, c0, blk_far hb hne u, hg, hr0⟩
theorem cellS150_0 {W : World} {g : Nat} {A0 : Option Addr} {c0 : Nat} {f0 : List Int} {f1 : Int} (h : W.heap[g]? = some (.cells #[.slice A0 f0.length c0, .int .i64 f1] 150 (0, 0))) : W.cell? ⟨g, 0, none⟩ = some (.slice A0 f0.length c0) := (blk_cell h 0).trans rfl
theorem cellS150_1 {W : World} {g : Nat} {A0 : Option Addr} {c0 : Nat} {f0 : List Int} {f1 : Int} (h : W.heap[g]? = some (.cells #[.slice A0 f0.length c0, .int .i64 f1] 150 (0, 0))) : W.cell? ⟨g, 1, none⟩ = some (.int .i64 f1) := (blk_cell h 1).trans rfl
theorem IsS150.set_1 {w0 W : World} {g : Nat} {f0 : List Int} {f1 : Int} (h : IsS150 w0 W g f0 f1) (x : Int) : IsS150 w0 (W.setCell ⟨g, 1, none⟩ (.int .i64 x)) g f0 x := by
 obtain ⟨A0, c0, hb, hg, hr0⟩ := h; exact ⟨A0, c0, by simpa using blk_set hb 1 (.int .i64 x), hg, hr0⟩
theorem IsS150.new (w0 W : World) (A0 : Option Addr) (c0 : Nat) (f0 : List Int) (f1 : Int) (hB : Below w0.heap.size w0 W) (hr0 : Kd.C (Kd.int .u8) w0 A0 f0.length f0) : IsS150 w0 (W.alloc (.cells #[.slice A0 f0.length c0, .int .i64 f1] 150)) W.heap.size f0 f1 := ⟨A0, c0, by simpa using heap_alloc_new W _, hB.size, hr0⟩

theorem zi150_30 {w0 W W' : World} {g : Nat} {f0 f0' : List Int} {f1 f1' : Int} (h : Aside0 (IsS150 w0 W g f0 f1)) (i : IsS150 w0 W g f0 f1 → IsS150 w0 W' g f0' f1' := by intro hh_; repeat (first | (with_reducible first | exact hh_ | apply IsS150.alloc | apply IsS150.drewN | apply IsS150.drew | apply IsS150.set_1 | refine IsS150.far ?_ (Aside0.out (by assumption)) _) | exact hh_)) : IsS150 w0 W' g f0' f1' := i h.out
theorem zj150_30 {B : Nat} {w W W' : World} (h : Aside0 (Below B w W)) (i : Below B w W → Below B w W' := by intro hh_; repeat (first | (with_reducible first | exact hh_ | apply below_alloc | apply pw_below_drewN | apply below_drew1 | refine below_set ?_ (IsS150.ge (Aside0.out (by assumption))) | refine below_set ?_ (Aside0.out (by assumption))) | exact hh_)) : Below B w W' := i h.out
/-! ### spec_reader_pick: function 125 -/
def spec_reader_pick.j0 : Nat → Int → Bool → List Int → Int → Option (Int × Int)
 | 0, _, _, _, _ => none
 | k + 1, x1, x24, x1000, x1001 => if x24 = true then (some (0, x1001)) else (if (wrap64 (x1001 - 1)) < (x1000.length : Int) then (if 0 ≤ (wrap64 (x1001 - 1)) then (if x1 = 0 then (none) else (some (Int.tmod (wrap64 (rd x1000 (wrap64 (x1001 - 1)))) x1, x1001))) else (none)) else (if (x1000.length : Int) = 0 then (none) else (if 0 ≤ (Int.tmod (wrap64 (x1001 - 1)) (x1000.length : Int)) then (if (Int.tmod (wrap64 (x1001 - 1)) (x1000.length : Int)) < (x1000.length : Int) then (if 0 ≤ (Int.tmod (wrap64 ((wrap64 ((wrap64 (x1001 - 1)) * 7)) + 3)) (x1000.length : Int)) then (if (Int.tmod (wrap64 ((wrap64 ((wrap64 (x1001 - 1)) * 7)) + 3)) (x1000.length : Int)) < (x1000.length : Int) then (if x1 = 0 then (none) else (some (Int.tmod (Go.bits .xor .i64 (wrap64 ((wrap64 ((wrap64 ((wrap64 ((wrap64 (rd x1000 (Int.tmod (wrap64 (x1001 - 1)) (x1000.length : Int)))) * 131)) + (wrap64 ((wrap64 (rd x1000 (Int.tmod (wrap64 ((wrap64 ((wrap64 (x1001 - 1)) * 7)) + 3)) (x1000.length : Int)))) * 1117)))) + (wrap64 ((wrap64 (x1001 - 1)) * 29)))) + (wrap64 ((wrap64 (Int.tdiv (wrap64 (x1001 - 1)) (x1000.length : Int))) * 53)))) (wrap64 (Int.tdiv (wrap64 ((wrap64 ((wrap64 ((wrap64 ((wrap64 (rd x1000 (Int.tmod (wrap64 (x1001 - 1)) (x1000.length : Int)))) * 131)) + (wrap64 ((wrap64 (rd x1000 (Int.tmod (wrap64 ((wrap64 ((wrap64 (x1001 - 1)) * 7)) + 3)) (x1000.length : Int)))) * 1117)))) + (wrap64 ((wrap64 (x1001 - 1)) * 29)))) + (wrap64 ((wrap64 (Int.tdiv (wrap64 (x1001 - 1)) (x1000.length : Int))) * 53)))) 64))) x1, x1001))) else (none)) else (none)) else (none)) else (none))))
def spec_reader_pick.f (k : Nat) (s0_0 : List Int) (s0_1 : Int) (a1 : Int) : Option (Int × Int) := if a1 < 1 then (spec_reader_pick.j0 k a1 true s0_0 (wrap64 (s0_1 + 1))) else (spec_reader_pick.j0 k a1 ((s0_0.length : Int) == 0) s0_0 (wrap64 (s0_1 + 1)))
theorem spec_reader_pick.mono_l : ∀ k, (∀ y0 y1 y2 y3, LeO (spec_reader_pick.j0 k y0 y1 y2 y3) (spec_reader_pick.j0 (k + 1) y0 y1 y2 y3))
 | 0 => fun _ _ _ _ r h => by simp [spec_reader_pick.j0] at h
 | k + 1 => by
  have ih0 := spec_reader_pick.mono_l k
  ·intro y0 y1 y2 y3; unfold spec_reader_pick.j0
   repeat' first
   | (with_reducible exact ih0 _ _ _ _)
   | (with_reducible exact LeO.refl _)
   | (with_reducible exact LeO.none _)
   | (with_reducible refine LeO.ite ?_ ?_)
   | (with_reducible refine LeO.bind ?_ (fun _ => ?_))
   | exact ih0 _ _ _ _
   | exact LeO.none _
   | refine LeO.ite ?_ ?_
   | refine LeO.bind ?_ (fun _ => ?_)
theorem spec_reader_pick.mono : ∀ a0 a1 a2 k, LeO (spec_reader_pick.f k a0 a1 a2) (spec_reader_pick.f (k + 1) a0 a1 a2) := by
 intro a0 a1 a2 k; have ih0 := spec_reader_pick.mono_l k; unfold spec_reader_pick.f
 repeat' first
   | (with_reducible exact ih0 _ _ _ _)
   | (with_reducible exact LeO.refl _)
   | (with_reducible exact LeO.none _)
   | (with_reducible refine LeO.ite ?_ ?_)
   | (with_reducible refine LeO.bind ?_ (fun _ => ?_))
   | exact ih0 _ _ _ _
   | exact LeO.none _
   | refine LeO.ite ?_ ?_
   | refine LeO.bind ?_ (fun _ => ?_)
set_option maxHeartbeats 8000000 in
set_option maxRecDepth 100000 in
theorem spec_reader_pick.calls (k : Nat) (g : Nat) (s0_0 : List Int) (s0_1 : Int) (a1 : Int) (r1 : Int) (r2 : Int) (w0 w : World) (hI : IsS150 w0 w g s0_0 s0_1) (hB : Below w0.heap.size w0 w) (h : spec_reader_pick.f k s0_0 s0_1 a1 = some (r1, r2)) :
  Calls Try.prog 125 #[.pointer (some ⟨g, 0, none⟩), .int .i64 a1] w fun e w' => e = .returned (.int .i64 r1) ∧ IsS150 w0 w' g s0_0 r2 ∧ Below w0.heap.size w0 w' ∧ KeepBut w w' g none := by
 have HI0 := Aside0.mk hI; have HK := Aside0.mk (KeepBut.refl w g none); have HL := Aside0.mk hB.size; clear hI; have HW0 := Aside0.mk hB.size; have HB := Aside0.mk hB; clear hB; have H : (if a1 < 1 then (spec_reader_pick.j0 k a1 true s0_0 (wrap64 (s0_1 + 1))) else (spec_reader_pick.j0 k a1 ((s0_0.length : Int) == 0) s0_0 (wrap64 (s0_1 + 1)))) = some (r1, r2) := h; clear h; have HC3 := Aside0.mk H; clear H; obtain ⟨ASz4_0, cSz4_0, HGz4, hgz4, HSz4_0⟩ := HI0.out; have hcz4_0 := cellS150_0 HGz4; have hcz4_1 := cellS150_1 HGz4; have hfz4_1 := blk_frozen HGz4 1; clear HGz4 hgz4; go_enter Try.func125, Try.ntmps125; go_upto_region 2 with (fail)
 repeat (go_quiet (fail); go_upto_region 2 with (fail))
 go_cut [24] (fun v24 wc => ∃ (kq : Nat) (x24_2 : Bool), v24 = .bool x24_2 ∧ Aside0 (spec_reader_pick.j0 kq a1 x24_2 s0_0 (wrap64 (s0_1 + 1)) = some (r1, r2)) ∧ Aside0 (kq ≤ k) ∧ Aside0 (IsS150 w0 wc g s0_0 (wrap64 (s0_1 + 1))) ∧ Aside0 (KeepBut w wc g none) ∧ Aside0 (Below w0.heap.size w0 wc))
 case first =>
  have H := HC3.out; clear HC3
  by_cases c5 : a1 < 1
  ·rw [if_pos c5] at H; have c5b0 : decide (a1 < 1) = true := decide_eq_true c5; clear c5
   (first | rw [c5b0] | (simp only [i64_w, i32_w]; rw [c5b0]) | skip)
   have H' := Aside0.mk H; clear H; go_wp2
   repeat (go_quiet (fail); try go_wp2)
   go_meet
   case rel => exact ⟨_, (true), zr, H', ⟨by first | omega | exact Nat.le_refl _⟩, ⟨by repeat (first | (with_reducible first | exact HI0.out | apply IsS150.alloc | apply IsS150.drewN | apply IsS150.drew | apply IsS150.set_1) | exact HI0.out)⟩, ⟨zk HK⟩, ⟨zj150_30 HB⟩⟩
  ·rw [if_neg c5] at H; have c5b0 : decide (a1 < 1) = false := decide_eq_false c5; clear c5
   (first | rw [c5b0] | (simp only [i64_w, i32_w]; rw [c5b0]) | skip)
   have H' := Aside0.mk H; clear H; obtain ⟨ASz6_0, cSz6_0, HGz6, hgz6, HSz6_0⟩ := HI0.out; have hcz6_0 := cellS150_0 HGz6; have hcz6_1 := cellS150_1 HGz6; have hfz6_1 := blk_frozen HGz6 1; clear HGz6 hgz6; go_wp2
   repeat (go_quiet (fail); try go_wp2)
   go_meet
   case rel => exact ⟨_, (((s0_0.length : Int) == 0)), zr, H', ⟨by first | omega | exact Nat.le_refl _⟩, ⟨by repeat (first | (with_reducible first | exact HI0.out | apply IsS150.alloc | apply IsS150.drewN | apply IsS150.drew | apply IsS150.set_1) | exact HI0.out)⟩, ⟨zk HK⟩, ⟨zj150_30 HB⟩⟩
 case rest =>
  clear HC3; (try clear c1); (try clear p2); (try clear c5); (try clear c5b0); (try clear p6); (try clear hcz4_0); (try clear hcz4_1); (try clear hcz6_0); (try clear hcz6_1); (try clear hfz4_1); (try clear hfz6_1); obtain ⟨kq, x24_2, rfl, HA, HJ2, HI0, HK, HB⟩ := hcut
  cases kq with
  | zero => exact absurd HA.out (by simp [spec_reader_pick.j0])
  | succ kj2 =>
   have H := HA.out; clear HA; simp only [spec_reader_pick.j0] at H
   by_cases c7 : x24_2 = true
   ·subst c7; rw [if_pos rfl] at H; simp only [Option.some.injEq, Prod.mk.injEq] at H; obtain ⟨rfl, rfl⟩ := H; go_wp2
    repeat (go_quiet (fail); try go_wp2)
    go_ret; exact ⟨by first | rfl | (simp [errW_none, errW_some] <;> rfl) | (simp [*, errW_none, errW_some] <;> rfl), by repeat (first | (with_reducible first | exact HI0.out | apply IsS150.alloc | apply IsS150.drewN | apply IsS150.drew | apply IsS150.set_1) | exact HI0.out), by repeat (first | (with_reducible first | exact HB.out | apply below_alloc | apply pw_below_drewN | apply below_drew1 | refine below_set ?_ (IsS150.ge HI0.out)) | exact HB.out), zk HK⟩
   ·replace c7 := Bool.eq_false_iff.mpr c7; subst c7; rw [if_neg (show ¬ (false = true) by decide)] at H
    by_cases c8 : (wrap64 ((wrap64 (s0_1 + 1)) - 1)) < (s0_0.length : Int)
    ·rw [if_pos c8] at H; have c8b0 : decide ((wrap64 ((wrap64 (s0_1 + 1)) - 1)) < (s0_0.length : Int)) = true := decide_eq_true c8; clear c8; obtain ⟨ji9, hji9⟩ : ∃ j_ : Int, (wrap64 ((wrap64 (s0_1 + 1)) - 1)) = j_ := ⟨_, rfl⟩
     replace H : (if 0 ≤ (ji9) then (if a1 = 0 then (none) else (some (Int.tmod (wrap64 (rd s0_0 (ji9))) a1, (wrap64 (s0_1 + 1))))) else (none)) = some (r1, r2) := by first | (rw [hji9] at H; exact H) | (simp only [hji9] at H ⊢; exact H)
     (try rw [hji9] at c8b0)
     have hji9w : (IntKind.i64.wrap ((wrap64 (s0_1 + 1)) - 1)) = ji9 := (i64_w _).trans hji9
     by_cases c10 : 0 ≤ (ji9)
     ·rw [if_pos c10] at H; have c10b0 : decide (0 ≤ (ji9)) = true := decide_eq_true c10; clear c10
      by_cases c11 : a1 = 0
      ·rw [if_pos c11] at H; exact absurd H (by simp)
      ·rw [if_neg c11] at H; have c11b0 : (a1 == 0) = false := beq_eq_false_iff_ne.mpr c11; have c11b1 : (a1 != 0) = true := bne_iff_ne.mpr c11; simp only [Option.some.injEq, Prod.mk.injEq] at H; obtain ⟨rfl, rfl⟩ := H; obtain ⟨ASz12_0, cSz12_0, HGz12, hgz12, HSz12_0⟩ := HI0.out; have hcz12_0 := cellS150_0 HGz12; have hcz12_1 := cellS150_1 HGz12; have hfz12_1 := blk_frozen HGz12 1; clear HGz12 hgz12; have p266 : 0 ≤ ((ji9) : Int) := of_decide_eq_true za; have q266 : (ji9) < (s0_0.length : Int) := of_decide_eq_true za; obtain ⟨ad266, e266, hx266_0⟩ := Kd.at_int HSz12_0 (ji9) p266 q266
       cases e266
       replace hx266_0 := pw_cell_below HB.out hx266_0; replace p266 := eq_true p266; replace q266 := eq_true q266; go_wp2
       repeat (go_quiet (fail); try go_wp2)
       go_ret; exact ⟨by first | rfl | (simp [errW_none, errW_some] <;> rfl) | (simp only [← hji9]; first | rfl | (simp [errW_none, errW_some] <;> rfl)) | (simp [*, errW_none, errW_some] <;> rfl), by repeat (first | (with_reducible first | exact HI0.out | apply IsS150.alloc | apply IsS150.drewN | apply IsS150.drew | apply IsS150.set_1) | exact HI0.out), by repeat (first | (with_reducible first | exact HB.out | apply below_alloc | apply pw_below_drewN | apply below_drew1 | refine below_set ?_ (IsS150.ge HI0.out)) | exact HB.out), zk HK⟩
     ·rw [if_neg c10] at H; exact absurd H (by simp)
    ·rw [if_neg c8] at H; have c8b0 : decide ((wrap64 ((wrap64 (s0_1 + 1)) - 1)) < (s0_0.length : Int)) = false := decide_eq_false c8; clear c8
     by_cases c13 : (s0_0.length : Int) = 0
     ·rw [if_pos c13] at H; exact absurd H (by simp)
     ·rw [if_neg c13] at H; have c13b0 : ((s0_0.length : Int) == 0) = false := beq_eq_false_iff_ne.mpr c13; have c13b1 : ((s0_0.length : Int) != 0) = true := bne_iff_ne.mpr c13; have c13b2 : ¬ (s0_0 = []) := fun h_ => c13 (by rw [h_]; rfl)
      obtain ⟨ji14, hji14⟩ : ∃ j_ : Int, (Int.tmod (wrap64 ((wrap64 (s0_1 + 1)) - 1)) (s0_0.length : Int)) = j_ := ⟨_, rfl⟩
      replace H : (if 0 ≤ (ji14) then (if (ji14) < (s0_0.length : Int) then (if 0 ≤ (Int.tmod (wrap64 ((wrap64 ((wrap64 ((wrap64 (s0_1 + 1)) - 1)) * 7)) + 3)) (s0_0.length : Int)) then (if (Int.tmod (wrap64 ((wrap64 ((wrap64 ((wrap64 (s0_1 + 1)) - 1)) * 7)) + 3)) (s0_0.length : Int)) < (s0_0.length : Int) then (if a1 = 0 then (none) else (some (Int.tmod (Go.bits .xor .i64 (wrap64 ((wrap64 ((wrap64 ((wrap64 ((wrap64 (rd s0_0 (ji14))) * 131)) + (wrap64 ((wrap64 (rd s0_0 (Int.tmod (wrap64 ((wrap64 ((wrap64 ((wrap64 (s0_1 + 1)) - 1)) * 7)) + 3)) (s0_0.length : Int)))) * 1117)))) + (wrap64 ((wrap64 ((wrap64 (s0_1 + 1)) - 1)) * 29)))) + (wrap64 ((wrap64 (Int.tdiv (wrap64 ((wrap64 (s0_1 + 1)) - 1)) (s0_0.length : Int))) * 53)))) (wrap64 (Int.tdiv (wrap64 ((wrap64 ((wrap64 ((wrap64 ((wrap64 (rd s0_0 (ji14))) * 131)) + (wrap64 ((wrap64 (rd s0_0 (Int.tmod (wrap64 ((wrap64 ((wrap64 ((wrap64 (s0_1 + 1)) - 1)) * 7)) + 3)) (s0_0.length : Int)))) * 1117)))) + (wrap64 ((wrap64 ((wrap64 (s0_1 + 1)) - 1)) * 29)))) + (wrap64 ((wrap64 (Int.tdiv (wrap64 ((wrap64 (s0_1 + 1)) - 1)) (s0_0.length : Int))) * 53)))) 64))) a1, (wrap64 (s0_1 + 1))))) else (none)) else (none)) else (none)) else (none)) = some (r1, r2) := by first | (rw [hji14] at H; exact H) | (simp only [hji14] at H ⊢; exact H)
      by_cases c15 : 0 ≤ (ji14)
      ·rw [if_pos c15] at H; have c15b0 : decide (0 ≤ (ji14)) = true := decide_eq_true c15; clear c15
       by_cases c16 : (ji14) < (s0_0.length : Int)
       ·rw [if_pos c16] at H; have c16b0 : decide ((ji14) < (s0_0.length : Int)) = true := decide_eq_true c16; clear c16; obtain ⟨ji17, hji17⟩ : ∃ j_ : Int, (Int.tmod (wrap64 ((wrap64 ((wrap64 ((wrap64 (s0_1 + 1)) - 1)) * 7)) + 3)) (s0_0.length : Int)) = j_ := ⟨_, rfl⟩
        replace H : (if 0 ≤ (ji17) then (if (ji17) < (s0_0.length : Int) then (if a1 = 0 then (none) else (some (Int.tmod (Go.bits .xor .i64 (wrap64 ((wrap64 ((wrap64 ((wrap64 ((wrap64 (rd s0_0 (ji14))) * 131)) + (wrap64 ((wrap64 (rd s0_0 (ji17))) * 1117)))) + (wrap64 ((wrap64 ((wrap64 (s0_1 + 1)) - 1)) * 29)))) + (wrap64 ((wrap64 (Int.tdiv (wrap64 ((wrap64 (s0_1 + 1)) - 1)) (s0_0.length : Int))) * 53)))) (wrap64 (Int.tdiv (wrap64 ((wrap64 ((wrap64 ((wrap64 ((wrap64 (rd s0_0 (ji14))) * 131)) + (wrap64 ((wrap64 (rd s0_0 (ji17))) * 1117)))) + (wrap64 ((wrap64 ((wrap64 (s0_1 + 1)) - 1)) * 29)))) + (wrap64 ((wrap64 (Int.tdiv (wrap64 ((wrap64 (s0_1 + 1)) - 1)) (s0_0.length : Int))) * 53)))) 64))) a1, (wrap64 (s0_1 + 1))))) else (none)) else (none)) = some (r1, r2) := by first | (rw [hji17] at H; exact H) | (simp only [hji17] at H ⊢; exact H)
        by_cases c18 : 0 ≤ (ji17)
        ·rw [if_pos c18] at H; have c18b0 : decide (0 ≤ (ji17)) = true := decide_eq_true c18; clear c18
         by_cases c19 : (ji17) < (s0_0.length : Int)
         ·rw [if_pos c19] at H; have c19b0 : decide ((ji17) < (s0_0.length : Int)) = true := decide_eq_true c19; clear c19
          by_cases c20 : a1 = 0
          ·rw [if_pos c20] at H; exact absurd H (by simp)
          ·rw [if_neg c20] at H; have c20b0 : (a1 == 0) = false := beq_eq_false_iff_ne.mpr c20; have c20b1 : (a1 != 0) = true := bne_iff_ne.mpr c20; simp only [Option.some.injEq, Prod.mk.injEq] at H; obtain ⟨rfl, rfl⟩ := H; obtain ⟨ASz21_0, cSz21_0, HGz21, hgz21, HSz21_0⟩ := HI0.out; have hcz21_0 := cellS150_0 HGz21; have hcz21_1 := cellS150_1 HGz21; have hfz21_1 := blk_frozen HGz21 1; clear HGz21 hgz21; have p267 : 0 ≤ ((ji14) : Int) := of_decide_eq_true za; have q267 : (ji14) < (s0_0.length : Int) := of_decide_eq_true za; obtain ⟨ad267, e267, hx267_0⟩ := Kd.at_int HSz21_0 (ji14) p267 q267
           cases e267
           replace hx267_0 := pw_cell_below HB.out hx267_0; replace p267 := eq_true p267; replace q267 := eq_true q267; have p268 : 0 ≤ ((ji17) : Int) := of_decide_eq_true za; have q268 : (ji17) < (s0_0.length : Int) := of_decide_eq_true za; obtain ⟨ad268, e268, hx268_0⟩ := Kd.at_int HSz21_0 (ji17) p268 q268; obtain rfl : ad267 = ad268 := (by injection e268)
           replace hx268_0 := pw_cell_below HB.out hx268_0; replace p268 := eq_true p268; replace q268 := eq_true q268; go_wp2
           repeat (go_quiet (fail); try go_wp2)
           go_ret; exact ⟨by first | rfl | (simp [errW_none, errW_some] <;> rfl) | (simp only [← hji14, ← hji17]; first | rfl | (simp [errW_none, errW_some] <;> rfl)) | (simp [*, errW_none, errW_some] <;> rfl), by repeat (first | (with_reducible first | exact HI0.out | apply IsS150.alloc | apply IsS150.drewN | apply IsS150.drew | apply IsS150.set_1) | exact HI0.out), by repeat (first | (with_reducible first | exact HB.out | apply below_alloc | apply pw_below_drewN | apply below_drew1 | refine below_set ?_ (IsS150.ge HI0.out)) | exact HB.out), zk HK⟩
         ·rw [if_neg c19] at H; exact absurd H (by simp)
        ·rw [if_neg c18] at H; exact absurd H (by simp)
       ·rw [if_neg c16] at H; exact absurd H (by simp)
      ·rw [if_neg c15] at H; exact absurd H (by simp)

end Go.Proofs.Ytkandhljbbolnaa.Q

namespace Go.Proofs.Ytkandhljbbolnaa.Q
open Go.RowKit Go.Proofs.YtkandhljbbolnaaL.PrintWords Go.Proofs.YtkandhljbbolnaaL.PrintLast Go.Proofs.YtkandhljbbolnaaL.PrintMore
attribute [local go_sem] max2_int min2_int max_two min_two max_three min_three max_four min_four   -- for this text's walks alone
set_option linter.unusedVariables false
set_option linter.unusedSimpArgs false

theorem zi150_31 {w0 W W' : World} {g : Nat} {f0 f0' : List Int} {f1 f1' : Int} (h : Aside0 (IsS150 w0 W g f0 f1)) (i : IsS150 w0 W g f0 f1 → IsS150 w0 W' g f0' f1' := by intro hh_; repeat (first | (with_reducible first | exact hh_ | apply IsS150.alloc | apply IsS150.drewN | apply IsS150.drew | apply IsS150.set_1 | refine IsS150.far ?_ (Aside0.out (by assumption)) _) | exact hh_)) : IsS150 w0 W' g f0' f1' := i h.out
theorem zj150_31 {B : Nat} {w W W' : World} (h : Aside0 (Below B w W)) (i : Below B w W → Below B w W' := by intro hh_; repeat (first | (with_reducible first | exact hh_ | apply below_alloc | apply pw_below_drewN | apply below_drew1 | refine below_set ?_ (IsS150.ge (Aside0.out (by assumption))) | refine below_set ?_ (Aside0.out (by assumption))) | exact hh_)) : Below B w W' := i h.out
/-! ### spec_reader_one: function 126 -/
def spec_reader_one.f (k : Nat) (s0_0 : List Int) (s0_1 : Int) (l1 : List Int) : Option (Int × Int) := (spec_reader_pick.f k s0_0 s0_1 (l1.length : Int)).bind fun bt269 => (if 0 ≤ bt269.1 then (if bt269.1 < (l1.length : Int) then (some (rd l1 bt269.1, bt269.2)) else (none)) else (none))
theorem spec_reader_one.mono : ∀ a0 a1 a2 k, LeO (spec_reader_one.f k a0 a1 a2) (spec_reader_one.f (k + 1) a0 a1 a2) := by
 intro a0 a1 a2 k; unfold spec_reader_one.f
 repeat' first
   | (with_reducible exact spec_reader_pick.mono _ _ _ _)
   | (with_reducible exact LeO.refl _)
   | (with_reducible exact LeO.none _)
   | (with_reducible refine LeO.ite ?_ ?_)
   | (with_reducible refine LeO.bind ?_ (fun _ => ?_))
   | exact spec_reader_pick.mono _ _ _ _
   | exact LeO.none _
   | refine LeO.ite ?_ ?_
   | refine LeO.bind ?_ (fun _ => ?_)
set_option maxHeartbeats 8000000 in
set_option maxRecDepth 100000 in
theorem spec_reader_one.calls (k : Nat) (g : Nat) (s0_0 : List Int) (s0_1 : Int) (A1 : Option Addr) (c1 : Nat) (l1 : List Int) (r1 : Int) (r2 : Int) (w0 w : World) (hI : IsS150 w0 w g s0_0 s0_1) (hB : Below w0.heap.size w0 w) (hr1 : Kd.C (Kd.int .i64) w A1 l1.length l1) (hc1 : l1.length ≤ c1) (hf1 : ∀ ad, A1 = some ad → 0 < l1.length → ad.block ≠ g) (h : spec_reader_one.f k s0_0 s0_1 l1 = some (r1, r2)) :
  Calls Try.prog 126 #[.pointer (some ⟨g, 0, none⟩), .slice A1 l1.length c1] w fun e w' => e = .returned (.int .i64 r1) ∧ IsS150 w0 w' g s0_0 r2 ∧ Below w0.heap.size w0 w' ∧ KeepBut w w' g none := by
 have HR1 := Aside0.mk hr1; have HC1 := Aside0.mk hc1; clear hr1 hc1; have HI0 := Aside0.mk hI; have HK := Aside0.mk (KeepBut.refl w g none); have HL := Aside0.mk hB.size; clear hI; have HW0 := Aside0.mk hB.size; have HB := Aside0.mk hB; clear hB; have H : ((spec_reader_pick.f k s0_0 s0_1 (l1.length : Int)).bind fun bt269 => (if 0 ≤ bt269.1 then (if bt269.1 < (l1.length : Int) then (some (rd l1 bt269.1, bt269.2)) else (none)) else (none))) = some (r1, r2) := h; clear h; replace H := Option.bind_eq_some_iff.mp H; obtain ⟨⟨t269, t270⟩, A30, H⟩ := H
 (try dsimp only at H)
 have A3 := Aside0.mk A30; clear A30
 by_cases c4 : 0 ≤ t269
 ·rw [if_pos c4] at H; have c4b0 : decide (0 ≤ t269) = true := decide_eq_true c4; clear c4
  by_cases c5 : t269 < (l1.length : Int)
  ·rw [if_pos c5] at H; have c5b0 : decide (t269 < (l1.length : Int)) = true := decide_eq_true c5; clear c5; simp only [Option.some.injEq, Prod.mk.injEq] at H; obtain ⟨rfl, rfl⟩ := H; go_enter Try.func126, Try.ntmps126; go_wp2_with (first | ((with_reducible refine gate_callee (f := 125) rfl ?_); refine goesL_ (some 9) rfl rfl Try.func125 (by kernel_rfl) rfl #[.pointer (some ⟨g, 0, none⟩), .int .i64 (l1.length : Int)] rfl zl ?_; (with_reducible refine (spec_reader_pick.calls k g s0_0 s0_1 (l1.length : Int) t269 t270 w0 _ ?side1 ?side2 A3.out).mono ?_); (case side1 => exact zi150_31 HI0); (case side2 => exact zj150_31 HB); rintro e w6 ⟨rfl, hi, hb, hk⟩; refine ⟨_, rfl, ?_⟩; replace HK := Aside0.mk (KeepBut.trans (zk HK) hk (.inl rfl)); replace HB := Aside0.mk (hb); replace HI0 := Aside0.mk (hi); (try clear hb); (try clear hb2); (try clear hk); (try clear hi); have p271 : 0 ≤ (t269 : Int) := of_decide_eq_true za; have q271 : t269 < (l1.length : Int) := of_decide_eq_true za; obtain ⟨ad271, e271, hx271_0⟩ := Kd.at_int HR1.out t269 p271 q271; cases e271; replace hx271_0 := keep_cell HK.out hx271_0 (by first | (rw [add_block]; exact hf1 _ rfl (by omega)) | exact hf1 _ rfl (by omega) | exact hf1 ad271 rfl (by omega)); replace p271 := eq_true p271; replace q271 := eq_true q271)); go_ret; exact ⟨by first | rfl | (simp [errW_none, errW_some] <;> rfl) | (simp [*, errW_none, errW_some] <;> rfl), by repeat (first | (with_reducible first | exact HI0.out | apply IsS150.alloc | apply IsS150.drewN | apply IsS150.drew | apply IsS150.set_1) | exact HI0.out), by repeat (first | (with_reducible first | exact HB.out | apply below_alloc | apply pw_below_drewN | apply below_drew1 | refine below_set ?_ (IsS150.ge HI0.out)) | exact HB.out), zk HK⟩
  ·rw [if_neg c5] at H; exact absurd H (by simp)
 ·rw [if_neg c4] at H; exact absurd H (by simp)

/-! ### spec_aNumber: function 134 -/
def spec_aNumber.f (k : Nat) (s0_0 : List Int) (s0_1 : Int) : Option (Int × Int) := (spec_reader_one.f k s0_0 s0_1 (([1, 2, 3, 0, 5, (-1), 7, 99, (-99)] : List Int))).bind fun bt275 => (some (bt275.1, bt275.2))
theorem spec_aNumber.mono : ∀ a0 a1 k, LeO (spec_aNumber.f k a0 a1) (spec_aNumber.f (k + 1) a0 a1) := by
 intro a0 a1 k; unfold spec_aNumber.f
 repeat' first
   | (with_reducible exact spec_reader_one.mono _ _ _ _)
   | (with_reducible exact LeO.refl _)
   | (with_reducible exact LeO.none _)
   | (with_reducible refine LeO.ite ?_ ?_)
   | (with_reducible refine LeO.bind ?_ (fun _ => ?_))
   | exact spec_reader_one.mono _ _ _ _
   | exact LeO.none _
   | refine LeO.ite ?_ ?_
   | refine LeO.bind ?_ (fun _ => ?_)
set_option maxHeartbeats 8000000 in
set_option maxRecDepth 100000 in
theorem spec_aNumber.calls (k : Nat) (g : Nat) (s0_0 : List Int) (s0_1 : Int) (r1 : Int) (r2 : Int) (w0 w : World) (hI : IsS150 w0 w g s0_0 s0_1) (hB : Below w0.heap.size w0 w) (h : spec_aNumber.f k s0_0 s0_1 = some (r1, r2)) :
  Calls Try.prog 134 #[.pointer (some ⟨g, 0, none⟩)] w fun e w' => e = .returned (.int .i64 r1) ∧ IsS150 w0 w' g s0_0 r2 ∧ Below w0.heap.size w0 w' ∧ KeepBut w w' g none := by
 have HI0 := Aside0.mk hI; have HK := Aside0.mk (KeepBut.refl w g none); have HL := Aside0.mk hB.size; clear hI; have HW0 := Aside0.mk hB.size; have HB := Aside0.mk hB; clear hB; have H : ((spec_reader_one.f k s0_0 s0_1 (([1, 2, 3, 0, 5, (-1), 7, 99, (-99)] : List Int))).bind fun bt275 => (some (bt275.1, bt275.2))) = some (r1, r2) := h; clear h; obtain ⟨y272, hy272⟩ : ∃ y_ : List Int, y_ = (([1, 2, 3, 0, 5, (-1), 7, 99, (-99)] : List Int)) := ⟨_, rfl⟩
 replace H : ((spec_reader_one.f k s0_0 s0_1 y272).bind fun bt275 => (some (bt275.1, bt275.2))) = some (r1, r2) := by first | (rw [hy272]; with_reducible exact H) | (have H2_ := (Option.bind_some _ _).symm.trans H; rw [hy272]; with_reducible exact H2_) | (have H2_ := (Option.bind_some _ _).symm.trans H; with_reducible exact H2_) | with_reducible exact H | (rw [hy272]; exact H) | exact H
 have Ny272 := Aside0.mk hy272; clear hy272; replace H := Option.bind_eq_some_iff.mp H; obtain ⟨⟨t275, t276⟩, A20, H⟩ := H
 (try dsimp only at H)
 have A2 := Aside0.mk A20; clear A20; simp only [Option.some.injEq, Prod.mk.injEq] at H; obtain ⟨rfl, rfl⟩ := H; go_enter Try.func134, Try.ntmps134; go_wp2_with (first | ((with_reducible refine gate_dst (N := 4) rfl ?_); refine Kd.R_lit (Kd.int .i64) _ 3 ?hg (N := 4) ?hd (xs := ([1, 2, 3, 0, 5, (-1), 7, 99, (-99)] : List Int)) (inner := [.int .i64 1, .int .i64 2, .int .i64 3, .int .i64 0, .int .i64 5, .int .i64 (-1), .int .i64 7, .int .i64 99, .int .i64 (-99)]) (ok := fun _ => True) (okp := fun _ => True) ?hr ?hp (fun _ hk => hk) trivial (Below.refl _ _) (Nat.le_refl _) (by simp) ?_; (case hd => rfl); (case hg => rfl); (case hr => first | (go_simp; done) | (go_simp; rfl)); (case hp => exact (Reps.one (show Kd.M (Kd.int .i64) _ _ _ 1 [.int .i64 1] from rfl) (Reps.one (show Kd.M (Kd.int .i64) _ _ _ 2 [.int .i64 2] from rfl) (Reps.one (show Kd.M (Kd.int .i64) _ _ _ 3 [.int .i64 3] from rfl) (Reps.one (show Kd.M (Kd.int .i64) _ _ _ 0 [.int .i64 0] from rfl) (Reps.one (show Kd.M (Kd.int .i64) _ _ _ 5 [.int .i64 5] from rfl) (Reps.one (show Kd.M (Kd.int .i64) _ _ _ (-1) [.int .i64 (-1)] from rfl) (Reps.one (show Kd.M (Kd.int .i64) _ _ _ 7 [.int .i64 7] from rfl) (Reps.one (show Kd.M (Kd.int .i64) _ _ _ 99 [.int .i64 99] from rfl) (Reps.one (show Kd.M (Kd.int .i64) _ _ _ (-99) [.int .i64 (-99)] from rfl) (Reps.none _ _))))))))))); intro v273 w3 ho4 hb hg_ hnew_; clear hg_ hnew_; (first | rw [← Ny272.out] at ho4 | (simp only [Int.reduceToNat] at ho4; rw [← Ny272.out] at ho4)); have HO274 := Aside0.mk (Kd.R_lower ho4 (keep_size (w := w) (g := g) (row := none) (zk HK))); replace HK := Aside0.mk (KeepBut.trans (zk HK) (KeepBut.of_below hb g none) (.inl rfl)); replace HB := Aside0.mk (below_step (zj150_31 HB) hb); replace HI0 := Aside0.mk (IsS150.below (zi150_31 HI0) hb); clear hb ho4; obtain ⟨Ao5, co5, eo5⟩ := Kd.R_slice HO274.out; subst eo5) | ((with_reducible refine gate_callee (f := 126) rfl ?_); refine goesL_ (some 5) rfl rfl Try.func126 (by kernel_rfl) rfl #[.pointer (some ⟨g, 0, none⟩), .slice Ao5 y272.length co5] rfl zl ?_; (with_reducible refine (spec_reader_one.calls k g s0_0 s0_1 _ _ y272 t275 t276 w0 _ ?side1 ?side2 ?side3 ?side4 ?side5 A2.out).mono ?_); (case side1 => exact zi150_31 HI0); (case side2 => exact zj150_31 HB); (case side3 => repeat (first | exact (Kd.R_reads' HO274.out).2.2 | (with_reducible refine Kd.C_alloc ?_ _) | (with_reducible refine Kd.C_drewN ?_ _) | (with_reducible refine Kd.C_drew ?_))); (case side4 => exact (Kd.R_reads' HO274.out).2.1); (case side5 => exact far_slice (IsS150.own_ne HI0.out HO274.out (by decide))); rintro e w6 ⟨rfl, hi, hb, hk⟩; refine ⟨_, rfl, ?_⟩; replace HO274 := Aside0.mk (Kd.R_mono (Kd.R_keep (IsS150.apart (show IsS150 w0 _ g s0_0 s0_1 from zi150_31 HI0) (zo HO274) (by decide)) hk (fun _ h => h.2)) (fun _ h => h.1)); replace HK := Aside0.mk (KeepBut.trans (zk HK) hk (.inl rfl)); replace HB := Aside0.mk (hb); replace HI0 := Aside0.mk (hi); (try clear hb); (try clear hb2); (try clear hk); (try clear hi))); go_ret; exact ⟨by first | rfl | (simp [errW_none, errW_some] <;> rfl) | (simp [*, errW_none, errW_some] <;> rfl), by repeat (first | (with_reducible first | exact HI0.out | apply IsS150.alloc | apply IsS150.drewN | apply IsS150.drew | apply IsS150.set_1) | exact HI0.out), by repeat (first | (with_reducible first | exact HB.out | apply below_alloc | apply pw_below_drewN | apply below_drew1 | refine below_set ?_ (IsS150.ge HI0.out)) | exact HB.out), zk HK⟩

/-! ### spec_anyNumber: function 82 -/
def spec_anyNumber.f (k : Nat) (s0_0 : List Int) (s0_1 : Int) : Option (Int × Int) := (spec_reader_pick.f k s0_0 s0_1 16).bind fun bt277 => (if bt277.1 = 0 then ((spec_reader_one.f k s0_0 bt277.2 (([100, (-100)] : List Int))).bind fun bt282 => (some (bt282.1, bt282.2))) else ((spec_aNumber.f k s0_0 bt277.2).bind fun bt284 => (some (bt284.1, bt284.2))))
theorem spec_anyNumber.mono : ∀ a0 a1 k, LeO (spec_anyNumber.f k a0 a1) (spec_anyNumber.f (k + 1) a0 a1) := by
 intro a0 a1 k; unfold spec_anyNumber.f
 repeat' first
   | (with_reducible exact spec_aNumber.mono _ _ _)
   | (with_reducible exact spec_reader_one.mono _ _ _ _)
   | (with_reducible exact spec_reader_pick.mono _ _ _ _)
   | (with_reducible exact LeO.refl _)
   | (with_reducible exact LeO.none _)
   | (with_reducible refine LeO.ite ?_ ?_)
   | (with_reducible refine LeO.bind ?_ (fun _ => ?_))
   | exact spec_aNumber.mono _ _ _
   | exact spec_reader_one.mono _ _ _ _
   | exact spec_reader_pick.mono _ _ _ _
   | exact LeO.none _
   | refine LeO.ite ?_ ?_
   | refine LeO.bind ?_ (fun _ => ?_)
set_option maxHeartbeats 8000000 in
set_option maxRecDepth 100000 in
theorem spec_anyNumber.calls (k : Nat) (g : Nat) (s0_0 : List Int) (s0_1 : Int) (r1 : Int) (r2 : Int) (w0 w : World) (hI : IsS150 w0 w g s0_0 s0_1) (hB : Below w0.heap.size w0 w) (h : spec_anyNumber.f k s0_0 s0_1 = some (r1, r2)) :
  Calls Try.prog 82 #[.pointer (some ⟨g, 0, none⟩)] w fun e w' => e = .returned (.int .i64 r1) ∧ IsS150 w0 w' g s0_0 r2 ∧ Below w0.heap.size w0 w' ∧ KeepBut w w' g none := by
 have HI0 := Aside0.mk hI; have HK := Aside0.mk (KeepBut.refl w g none); have HL := Aside0.mk hB.size; clear hI; have HW0 := Aside0.mk hB.size; have HB := Aside0.mk hB; clear hB; have H : ((spec_reader_pick.f k s0_0 s0_1 16).bind fun bt277 => (if bt277.1 = 0 then ((spec_reader_one.f k s0_0 bt277.2 (([100, (-100)] : List Int))).bind fun bt282 => (some (bt282.1, bt282.2))) else ((spec_aNumber.f k s0_0 bt277.2).bind fun bt284 => (some (bt284.1, bt284.2))))) = some (r1, r2) := h; clear h; replace H := Option.bind_eq_some_iff.mp H; obtain ⟨⟨t277, t278⟩, A20, H⟩ := H
 (try dsimp only at H)
 have A2 := Aside0.mk A20; clear A20
 by_cases c3 : t277 = 0
 ·rw [if_pos c3] at H; have c3b0 : (t277 == 0) = true := beq_iff_eq.mpr c3; have c3b1 : (t277 != 0) = false := bne_eq_false_iff_eq.mpr c3; clear c3; obtain ⟨y279, hy279⟩ : ∃ y_ : List Int, y_ = (([100, (-100)] : List Int)) := ⟨_, rfl⟩
  replace H : ((spec_reader_one.f k s0_0 t278 y279).bind fun bt282 => (some (bt282.1, bt282.2))) = some (r1, r2) := by first | (rw [hy279]; with_reducible exact H) | (have H2_ := (Option.bind_some _ _).symm.trans H; rw [hy279]; with_reducible exact H2_) | (have H2_ := (Option.bind_some _ _).symm.trans H; with_reducible exact H2_) | with_reducible exact H | (rw [hy279]; exact H) | exact H
  have Ny279 := Aside0.mk hy279; clear hy279; replace H := Option.bind_eq_some_iff.mp H; obtain ⟨⟨t282, t283⟩, A40, H⟩ := H
  (try dsimp only at H)
  have A4 := Aside0.mk A40; clear A40; simp only [Option.some.injEq, Prod.mk.injEq] at H; obtain ⟨rfl, rfl⟩ := H; go_enter Try.func82, Try.ntmps82; go_wp2_with (first | ((with_reducible refine gate_callee (f := 125) rfl ?_); refine goesL_ (some 4) rfl rfl Try.func125 (by kernel_rfl) rfl #[.pointer (some ⟨g, 0, none⟩), .int .i64 16] rfl zl ?_; (with_reducible refine (spec_reader_pick.calls k g s0_0 s0_1 16 t277 t278 w0 _ ?side1 ?side2 A2.out).mono ?_); (case side1 => exact zi150_31 HI0); (case side2 => exact zj150_31 HB); rintro e w5 ⟨rfl, hi, hb, hk⟩; refine ⟨_, rfl, ?_⟩; replace HK := Aside0.mk (KeepBut.trans (zk HK) hk (.inl rfl)); replace HB := Aside0.mk (hb); replace HI0 := Aside0.mk (hi); (try clear hb); (try clear hb2); (try clear hk); (try clear hi)) | ((with_reducible refine gate_dst (N := 7) rfl ?_); refine Kd.R_lit (Kd.int .i64) _ 3 ?hg (N := 7) ?hd (xs := ([100, (-100)] : List Int)) (inner := [.int .i64 100, .int .i64 (-100)]) (ok := fun _ => True) (okp := fun _ => True) ?hr ?hp (fun _ hk => hk) trivial (Below.refl _ _) (Nat.le_refl _) (by simp) ?_; (case hd => rfl); (case hg => rfl); (case hr => first | (go_simp; done) | (go_simp; rfl)); (case hp => exact (Reps.one (show Kd.M (Kd.int .i64) _ _ _ 100 [.int .i64 100] from rfl) (Reps.one (show Kd.M (Kd.int .i64) _ _ _ (-100) [.int .i64 (-100)] from rfl) (Reps.none _ _)))); intro v280 w6 ho7 hb hg_ hnew_; clear hg_ hnew_; (first | rw [← Ny279.out] at ho7 | (simp only [Int.reduceToNat] at ho7; rw [← Ny279.out] at ho7)); have HO281 := Aside0.mk (Kd.R_lower ho7 (keep_size (w := w) (g := g) (row := none) (zk HK))); replace HK := Aside0.mk (KeepBut.trans (zk HK) (KeepBut.of_below hb g none) (.inl rfl)); replace HB := Aside0.mk (below_step (zj150_31 HB) hb); replace HI0 := Aside0.mk (IsS150.below (zi150_31 HI0) hb); clear hb ho7; obtain ⟨Ao8, co8, eo8⟩ := Kd.R_slice HO281.out; subst eo8) | ((with_reducible refine gate_callee (f := 126) rfl ?_); refine goesL_ (some 8) rfl rfl Try.func126 (by kernel_rfl) rfl #[.pointer (some ⟨g, 0, none⟩), .slice Ao8 y279.length co8] rfl zl ?_; (with_reducible refine (spec_reader_one.calls k g s0_0 t278 _ _ y279 t282 t283 w0 _ ?side1 ?side2 ?side3 ?side4 ?side5 A4.out).mono ?_); (case side1 => exact zi150_31 HI0); (case side2 => exact zj150_31 HB); (case side3 => repeat (first | exact (Kd.R_reads' HO281.out).2.2 | (with_reducible refine Kd.C_alloc ?_ _) | (with_reducible refine Kd.C_drewN ?_ _) | (with_reducible refine Kd.C_drew ?_))); (case side4 => exact (Kd.R_reads' HO281.out).2.1); (case side5 => exact far_slice (IsS150.own_ne HI0.out HO281.out (by decide))); rintro e w9 ⟨rfl, hi, hb, hk⟩; refine ⟨_, rfl, ?_⟩; replace HO281 := Aside0.mk (Kd.R_mono (Kd.R_keep (IsS150.apart (show IsS150 w0 _ g s0_0 t278 from zi150_31 HI0) (zo HO281) (by decide)) hk (fun _ h => h.2)) (fun _ h => h.1)); replace HK := Aside0.mk (KeepBut.trans (zk HK) hk (.inl rfl)); replace HB := Aside0.mk (hb); replace HI0 := Aside0.mk (hi); (try clear hb); (try clear hb2); (try clear hk); (try clear hi))); go_ret; exact ⟨by first | rfl | (simp [errW_none, errW_some] <;> rfl) | (simp [*, errW_none, errW_some] <;> rfl), by repeat (first | (with_reducible first | exact HI0.out | apply IsS150.alloc | apply IsS150.drewN | apply IsS150.drew | apply IsS150.set_1) | exact HI0.out), by repeat (first | (with_reducible first | exact HB.out | apply below_alloc | apply pw_below_drewN | apply below_drew1 | refine below_set ?_ (IsS150.ge HI0.out)) | exact HB.out), zk HK⟩
 ·rw [if_neg c3] at H; have c3b0 : (t277 == 0) = false := beq_eq_false_iff_ne.mpr c3; have c3b1 : (t277 != 0) = true := bne_iff_ne.mpr c3; replace H := Option.bind_eq_some_iff.mp H; obtain ⟨⟨t284, t285⟩, A100, H⟩ := H
  (try dsimp only at H)
  have A10 := Aside0.mk A100; clear A100; simp only [Option.some.injEq, Prod.mk.injEq] at H; obtain ⟨rfl, rfl⟩ := H; go_enter Try.func82, Try.ntmps82; go_wp2_with (first | ((with_reducible refine gate_callee (f := 125) rfl ?_); refine goesL_ (some 4) rfl rfl Try.func125 (by kernel_rfl) rfl #[.pointer (some ⟨g, 0, none⟩), .int .i64 16] rfl zl ?_; (with_reducible refine (spec_reader_pick.calls k g s0_0 s0_1 16 t277 t278 w0 _ ?side1 ?side2 A2.out).mono ?_); (case side1 => exact zi150_31 HI0); (case side2 => exact zj150_31 HB); rintro e w11 ⟨rfl, hi, hb, hk⟩; refine ⟨_, rfl, ?_⟩; replace HK := Aside0.mk (KeepBut.trans (zk HK) hk (.inl rfl)); replace HB := Aside0.mk (hb); replace HI0 := Aside0.mk (hi); (try clear hb); (try clear hb2); (try clear hk); (try clear hi)) | ((with_reducible refine gate_callee (f := 134) rfl ?_); refine goesL_ (some 10) rfl rfl Try.func134 (by kernel_rfl) rfl #[.pointer (some ⟨g, 0, none⟩)] rfl zl ?_; (with_reducible refine (spec_aNumber.calls k g s0_0 t278 t284 t285 w0 _ ?side1 ?side2 A10.out).mono ?_); (case side1 => exact zi150_31 HI0); (case side2 => exact zj150_31 HB); rintro e w12 ⟨rfl, hi, hb, hk⟩; refine ⟨_, rfl, ?_⟩; replace HK := Aside0.mk (KeepBut.trans (zk HK) hk (.inl rfl)); replace HB := Aside0.mk (hb); replace HI0 := Aside0.mk (hi); (try clear hb); (try clear hb2); (try clear hk); (try clear hi))); go_ret; exact ⟨by first | rfl | (simp [errW_none, errW_some] <;> rfl) | (simp [*, errW_none, errW_some] <;> rfl), by repeat (first | (with_reducible first | exact HI0.out | apply IsS150.alloc | apply IsS150.drewN | apply IsS150.drew | apply IsS150.set_1) | exact HI0.out), by repeat (first | (with_reducible first | exact HB.out | apply below_alloc | apply pw_below_drewN | apply below_drew1 | refine below_set ?_ (IsS150.ge HI0.out)) | exact HB.out), zk HK⟩

/-! ### spec_reader_of: function 141 -/
def spec_reader_of.f (k : Nat) (s0_0 : List Int) (s0_1 : Int) (l1 : List ByteArray) : Option (ByteArray × Int) := (spec_reader_pick.f k s0_0 s0_1 (l1.length : Int)).bind fun bt286 => (if 0 ≤ bt286.1 then (if bt286.1 < (l1.length : Int) then (some (rdOf ByteArray.empty l1 bt286.1, bt286.2)) else (none)) else (none))
theorem spec_reader_of.mono : ∀ a0 a1 a2 k, LeO (spec_reader_of.f k a0 a1 a2) (spec_reader_of.f (k + 1) a0 a1 a2) := by
 intro a0 a1 a2 k; unfold spec_reader_of.f
 repeat' first
   | (with_reducible exact spec_reader_pick.mono _ _ _ _)
   | (with_reducible exact LeO.refl _)
   | (with_reducible exact LeO.none _)
   | (with_reducible refine LeO.ite ?_ ?_)
   | (with_reducible refine LeO.bind ?_ (fun _ => ?_))
   | exact spec_reader_pick.mono _ _ _ _
   | exact LeO.none _
   | refine LeO.ite ?_ ?_
   | refine LeO.bind ?_ (fun _ => ?_)
set_option maxHeartbeats 8000000 in
set_option maxRecDepth 100000 in
theorem spec_reader_of.calls (k : Nat) (g : Nat) (s0_0 : List Int) (s0_1 : Int) (A1 : Option Addr) (c1 : Nat) (l1 : List ByteArray) (r1 : ByteArray) (r2 : Int) (w0 w : World) (hI : IsS150 w0 w g s0_0 s0_1) (hB : Below w0.heap.size w0 w) (hr1 : Kd.C Kd.string w A1 l1.length l1) (hc1 : l1.length ≤ c1) (hf1 : ∀ ad, A1 = some ad → 0 < l1.length → ad.block ≠ g) (h : spec_reader_of.f k s0_0 s0_1 l1 = some (r1, r2)) :
  Calls Try.prog 141 #[.pointer (some ⟨g, 0, none⟩), .slice A1 l1.length c1] w fun e w' => e = .returned (.string r1) ∧ IsS150 w0 w' g s0_0 r2 ∧ Below w0.heap.size w0 w' ∧ KeepBut w w' g none := by
 have HR1 := Aside0.mk hr1; have HC1 := Aside0.mk hc1; clear hr1 hc1; have HI0 := Aside0.mk hI; have HK := Aside0.mk (KeepBut.refl w g none); have HL := Aside0.mk hB.size; clear hI; have HW0 := Aside0.mk hB.size; have HB := Aside0.mk hB; clear hB; have H : ((spec_reader_pick.f k s0_0 s0_1 (l1.length : Int)).bind fun bt286 => (if 0 ≤ bt286.1 then (if bt286.1 < (l1.length : Int) then (some (rdOf ByteArray.empty l1 bt286.1, bt286.2)) else (none)) else (none))) = some (r1, r2) := h; clear h; replace H := Option.bind_eq_some_iff.mp H; obtain ⟨⟨t286, t287⟩, A30, H⟩ := H
 (try dsimp only at H)
 have A3 := Aside0.mk A30; clear A30
 by_cases c4 : 0 ≤ t286
 ·rw [if_pos c4] at H; have c4b0 : decide (0 ≤ t286) = true := decide_eq_true c4; clear c4
  by_cases c5 : t286 < (l1.length : Int)
  ·rw [if_pos c5] at H; have c5b0 : decide (t286 < (l1.length : Int)) = true := decide_eq_true c5; clear c5; simp only [Option.some.injEq, Prod.mk.injEq] at H; obtain ⟨rfl, rfl⟩ := H; go_enter Try.func141, Try.ntmps141; go_wp2_with (first | ((with_reducible refine gate_callee (f := 125) rfl ?_); refine goesL_ (some 9) rfl rfl Try.func125 (by kernel_rfl) rfl #[.pointer (some ⟨g, 0, none⟩), .int .i64 (l1.length : Int)] rfl zl ?_; (with_reducible refine (spec_reader_pick.calls k g s0_0 s0_1 (l1.length : Int) t286 t287 w0 _ ?side1 ?side2 A3.out).mono ?_); (case side1 => exact zi150_31 HI0); (case side2 => exact zj150_31 HB); rintro e w6 ⟨rfl, hi, hb, hk⟩; refine ⟨_, rfl, ?_⟩; replace HK := Aside0.mk (KeepBut.trans (zk HK) hk (.inl rfl)); replace HB := Aside0.mk (hb); replace HI0 := Aside0.mk (hi); (try clear hb); (try clear hb2); (try clear hk); (try clear hi); have p288 : 0 ≤ (t286 : Int) := of_decide_eq_true za; have q288 : t286 < (l1.length : Int) := of_decide_eq_true za; obtain ⟨ad288, e288, hx288_0⟩ := Kd.at_string HR1.out t286 p288 q288; cases e288; replace hx288_0 := keep_cell HK.out hx288_0 (by first | (rw [add_block]; exact hf1 _ rfl (by omega)) | exact hf1 _ rfl (by omega) | exact hf1 ad288 rfl (by omega)); replace p288 := eq_true p288; replace q288 := eq_true q288)); go_ret; exact ⟨by first | rfl | (simp [errW_none, errW_some] <;> rfl) | (simp [*, errW_none, errW_some] <;> rfl), by repeat (first | (with_reducible first | exact HI0.out | apply IsS150.alloc | apply IsS150.drewN | apply IsS150.drew | apply IsS150.set_1) | exact HI0.out), by repeat (first | (with_reducible first | exact HB.out | apply below_alloc | apply pw_below_drewN | apply below_drew1 | refine below_set ?_ (IsS150.ge HI0.out)) | exact HB.out), zk HK⟩
  ·rw [if_neg c5] at H; exact absurd H (by simp)
 ·rw [if_neg c4] at H; exact absurd H (by simp)

end Go.Proofs.Ytkandhljbbolnaa.Q

namespace Go.Proofs.Ytkandhljbbolnaa.Q
open Go.RowKit Go.Proofs.YtkandhljbbolnaaL.PrintWords Go.Proofs.YtkandhljbbolnaaL.PrintLast Go.Proofs.YtkandhljbbolnaaL.PrintMore
attribute [local go_sem] max2_int min2_int max_two min_two max_three min_three max_four min_four   -- for this text's walks alone
set_option linter.unusedVariables false
set_option linter.unusedSimpArgs false

/-! ### spec_pairAt: function 107 -/
def spec_pairAt.l0 : Nat → List (S94) → ByteArray → Int → Option (Int)
 | 0, _, _, _ => none
 | k + 1, x0, x1, x5 => if x5 < (x0.length : Int) then (if 0 ≤ x5 then (if ((rd_T94 x0 x5).f0).toList = x1.toList then (some x5) else (spec_pairAt.l0 k x0 x1 (wrap64 (x5 + 1)))) else (none)) else (some (-1))
def spec_pairAt.f (k : Nat) (l0 : List (S94)) (a1 : ByteArray) : Option (Int) := spec_pairAt.l0 k l0 a1 0
theorem spec_pairAt.mono_l : ∀ k, (∀ y0 y1 y2, LeO (spec_pairAt.l0 k y0 y1 y2) (spec_pairAt.l0 (k + 1) y0 y1 y2))
 | 0 => fun _ _ _ r h => by simp [spec_pairAt.l0] at h
 | k + 1 => by
  have ih0 := spec_pairAt.mono_l k
  ·intro y0 y1 y2; unfold spec_pairAt.l0
   repeat' first
   | (with_reducible exact ih0 _ _ _)
   | (with_reducible exact LeO.refl _)
   | (with_reducible exact LeO.none _)
   | (with_reducible refine LeO.ite ?_ ?_)
   | (with_reducible refine LeO.bind ?_ (fun _ => ?_))
   | exact ih0 _ _ _
   | exact LeO.none _
   | refine LeO.ite ?_ ?_
   | refine LeO.bind ?_ (fun _ => ?_)
theorem spec_pairAt.mono : ∀ a0 a1 k, LeO (spec_pairAt.f k a0 a1) (spec_pairAt.f (k + 1) a0 a1) := by
 intro a0 a1 k; have ih0 := spec_pairAt.mono_l k; unfold spec_pairAt.f
 repeat' first
   | (with_reducible exact ih0 _ _ _)
   | (with_reducible exact LeO.refl _)
   | (with_reducible exact LeO.none _)
   | (with_reducible refine LeO.ite ?_ ?_)
   | (with_reducible refine LeO.bind ?_ (fun _ => ?_))
   | exact ih0 _ _ _
   | exact LeO.none _
   | refine LeO.ite ?_ ?_
   | refine LeO.bind ?_ (fun _ => ?_)
set_option maxHeartbeats 8000000 in
set_option maxRecDepth 100000 in
theorem spec_pairAt.calls (k : Nat) (A0 : Option Addr) (c0 : Nat) (l0 : List (S94)) (a1 : ByteArray) (r : Int) (w : World) (hr0 : Kd.C k94 w A0 l0.length l0) (hc0 : l0.length ≤ c0) (h : spec_pairAt.f k l0 a1 = some r) :
  Calls Try.prog 107 #[.slice A0 l0.length c0, .string a1] w fun e w' => e = .returned (.int .i64 r) ∧ Drawn0 w w' := by
 have HR0 := Aside0.mk hr0; have HC0 := Aside0.mk hc0; clear hr0 hc0; have H : (spec_pairAt.l0 k l0 a1 0) = some r := h; clear h; have H' := Aside0.mk H; clear H; go_enter Try.func107, Try.ntmps107; go_wp2; go_loopg [5] k (fun kq v5 w' => ∃ (x5_1 : Int), v5 = .int .i64 x5_1 ∧ Aside0 (spec_pairAt.l0 kq l0 a1 x5_1 = some r) ∧ Aside0 (kq ≤ k) ∧ Drawn0 w w')
 case atStart => exact ⟨(0), zr, H', ⟨Nat.le_refl _⟩, by repeat (first | exact Drawn0.refl _ | apply Drawn0.step)⟩
 case round =>
  clear H'; (try clear c1); (try clear p2); obtain ⟨x5_1, rfl, HA, HK1, ⟨m1, rfl⟩⟩ := hrel
  cases gk with
  | zero => exact absurd HA.out (by simp [spec_pairAt.l0])
  | succ k1 =>
   have H := HA.out; clear HA; simp only [spec_pairAt.l0] at H
   by_cases c3 : x5_1 < (l0.length : Int)
   ·rw [if_pos c3] at H; have c3b0 : decide (x5_1 < (l0.length : Int)) = true := decide_eq_true c3; clear c3
    by_cases c4 : 0 ≤ x5_1
    ·rw [if_pos c4] at H; have c4b0 : decide (0 ≤ x5_1) = true := decide_eq_true c4; clear c4
     by_cases c5 : ((rd_T94 l0 x5_1).f0).toList = a1.toList
     ·rw [if_pos c5] at H; have c5b0 : (((rd_T94 l0 x5_1).f0).toList == a1.toList) = true := beq_iff_eq.mpr c5; have c5b1 : (((rd_T94 l0 x5_1).f0).toList != a1.toList) = false := bne_eq_false_iff_eq.mpr c5; clear c5; obtain rfl := Option.some.inj H; have p107 : 0 ≤ (x5_1 : Int) := of_decide_eq_true za; have q107 : x5_1 < (l0.length : Int) := of_decide_eq_true za; obtain ⟨ad107, e107, hx107_0, hx107_1⟩ := at_T94 HR0.out x5_1 p107 q107
      cases e107
      replace p107 := eq_true p107; replace q107 := eq_true q107; go_wp2; go_ret; exact ⟨by first | rfl | (simp; done) | (simp [*]; done), by repeat (first | exact Drawn0.refl _ | apply Drawn0.step)⟩
     ·rw [if_neg c5] at H; have c5b0 : (((rd_T94 l0 x5_1).f0).toList == a1.toList) = false := beq_eq_false_iff_ne.mpr c5; have c5b1 : (((rd_T94 l0 x5_1).f0).toList != a1.toList) = true := bne_iff_ne.mpr c5; have H' := Aside0.mk H; clear H; have p107 : 0 ≤ (x5_1 : Int) := of_decide_eq_true za; have q107 : x5_1 < (l0.length : Int) := of_decide_eq_true za; obtain ⟨ad107, e107, hx107_0, hx107_1⟩ := at_T94 HR0.out x5_1 p107 q107
      cases e107
      replace p107 := eq_true p107; replace q107 := eq_true q107; go_wp2; go_roundg k1
      case measure => have := HK1.out; omega
      case rel => exact ⟨(wrap64 (x5_1 + 1)), zr, H', ⟨by have := HK1.out; omega⟩, by repeat (first | exact Drawn0.refl _ | apply Drawn0.step)⟩
    ·rw [if_neg c4] at H; exact absurd H (by simp)
   ·rw [if_neg c3] at H; have c3b0 : decide (x5_1 < (l0.length : Int)) = false := decide_eq_false c3; clear c3; obtain rfl := Option.some.inj H; go_wp2; go_ret; exact ⟨by first | rfl | (simp; done) | (simp [*]; done), by repeat (first | exact Drawn0.refl _ | apply Drawn0.step)⟩

/-! ### spec_inRange: function 139 -/
def spec_inRange.f (a0 : Int) (a1 : Int) (a2 : Int) : Option (Bool) := if a1 ≤ a0 then (some (decide (a0 ≤ a2))) else (some false)
set_option maxHeartbeats 8000000 in
set_option maxRecDepth 100000 in
theorem spec_inRange.calls (a0 : Int) (a1 : Int) (a2 : Int) (r : Bool) (w : World) (h : spec_inRange.f a0 a1 a2 = some r) :
  Calls Try.prog 139 #[.int .i64 a0, .int .i64 a1, .int .i64 a2] w fun e w' => e = .returned (.bool r) ∧ Drawn0 w w' := by
 have H : (if a1 ≤ a0 then (some (decide (a0 ≤ a2))) else (some false)) = some r := h; clear h
 by_cases c4 : a1 ≤ a0
 ·rw [if_pos c4] at H; have c4b0 : decide (a1 ≤ a0) = true := decide_eq_true c4; clear c4; obtain rfl := Option.some.inj H; go_enter Try.func139, Try.ntmps139; go_wp2; go_ret; exact ⟨by first | rfl | (simp; done) | (simp [*]; done), by repeat (first | exact Drawn0.refl _ | apply Drawn0.step)⟩
 ·rw [if_neg c4] at H; have c4b0 : decide (a1 ≤ a0) = false := decide_eq_false c4; clear c4; obtain rfl := Option.some.inj H; go_enter Try.func139, Try.ntmps139; go_wp2; go_ret; exact ⟨by first | rfl | (simp; done) | (simp [*]; done), by repeat (first | exact Drawn0.refl _ | apply Drawn0.step)⟩

/-! ### spec_validNumber: function 119 -/
def spec_validNumber.f (a0 : Int) : Option (Bool) := (spec_inRange.f a0 (-99) 99).bind fun t108 => (some t108)
set_option maxHeartbeats 8000000 in
set_option maxRecDepth 100000 in
theorem spec_validNumber.calls (a0 : Int) (r : Bool) (w : World) (h : spec_validNumber.f a0 = some r) :
  Calls Try.prog 119 #[.int .i64 a0] w fun e w' => e = .returned (.bool r) ∧ Drawn0 w w' := by
 have H : ((spec_inRange.f a0 (-99) 99).bind fun t108 => (some t108)) = some r := h; clear h; replace H := Option.bind_eq_some_iff.mp H; obtain ⟨t108, A20, H⟩ := H
 (try dsimp only at H)
 have A2 := Aside0.mk A20; clear A20; obtain rfl := Option.some.inj H; go_enter Try.func119, Try.ntmps119; go_wp2_with (first | ((with_reducible refine gate_callee (f := 139) rfl ?_); refine goesL_ (some 4) rfl rfl Try.func139 (by kernel_rfl) rfl #[.int .i64 a0, .int .i64 (-99), .int .i64 99] rfl zl ?_; (with_reducible refine (spec_inRange.calls a0 (-99) 99 t108 _ A2.out).mono ?_); rintro e w' ⟨rfl, ⟨nd, rfl⟩⟩; refine ⟨_, rfl, ?_⟩)); go_ret; exact ⟨by first | rfl | (simp; done) | (simp [*]; done), by repeat (first | exact Drawn0.refl _ | apply Drawn0.step)⟩

end Go.Proofs.Ytkandhljbbolnaa.Q

namespace Go.Proofs.Ytkandhljbbolnaa.Q
open Go.RowKit Go.Proofs.YtkandhljbbolnaaL.PrintWords Go.Proofs.YtkandhljbbolnaaL.PrintLast Go.Proofs.YtkandhljbbolnaaL.PrintMore
attribute [local go_sem] max2_int min2_int max_two min_two max_three min_three max_four min_four   -- for this text's walks alone
set_option linter.unusedVariables false
set_option linter.unusedSimpArgs false

theorem zi150_32 {w0 W W' : World} {g : Nat} {f0 f0' : List Int} {f1 f1' : Int} (h : Aside0 (IsS150 w0 W g f0 f1)) (i : IsS150 w0 W g f0 f1 → IsS150 w0 W' g f0' f1' := by intro hh_; repeat (first | (with_reducible first | exact hh_ | apply IsS150.alloc | apply IsS150.drewN | apply IsS150.drew | apply IsS150.set_1 | refine IsS150.far ?_ (Aside0.out (by assumption)) _) | exact hh_)) : IsS150 w0 W' g f0' f1' := i h.out
theorem zj150_32 {B : Nat} {w W W' : World} (h : Aside0 (Below B w W)) (i : Below B w W → Below B w W' := by intro hh_; repeat (first | (with_reducible first | exact hh_ | apply below_alloc | apply pw_below_drewN | apply below_drew1 | refine below_set ?_ (IsS150.ge (Aside0.out (by assumption))) | refine below_set ?_ (Aside0.out (by assumption))) | exact hh_)) : Below B w W' := i h.out
/-! ### spec_aName: function 142 -/
def spec_aName.f (k : Nat) (s0_0 : List Int) (s0_1 : Int) : Option (ByteArray × Int) := (spec_reader_of.f k s0_0 s0_1 (([(⟨#[97]⟩ : ByteArray), (⟨#[98]⟩ : ByteArray), (⟨#[99]⟩ : ByteArray), (⟨#[100]⟩ : ByteArray), (⟨#[120]⟩ : ByteArray), (⟨#[121]⟩ : ByteArray), (⟨#[97]⟩ : ByteArray), (⟨#[98]⟩ : ByteArray), (⟨#[99]⟩ : ByteArray)] : List ByteArray))).bind fun bt292 => (some (bt292.1, bt292.2))
theorem spec_aName.mono : ∀ a0 a1 k, LeO (spec_aName.f k a0 a1) (spec_aName.f (k + 1) a0 a1) := by
 intro a0 a1 k; unfold spec_aName.f
 repeat' first
   | (with_reducible exact spec_reader_of.mono _ _ _ _)
   | (with_reducible exact LeO.refl _)
   | (with_reducible exact LeO.none _)
   | (with_reducible refine LeO.ite ?_ ?_)
   | (with_reducible refine LeO.bind ?_ (fun _ => ?_))
   | exact spec_reader_of.mono _ _ _ _
   | exact LeO.none _
   | refine LeO.ite ?_ ?_
   | refine LeO.bind ?_ (fun _ => ?_)
set_option maxHeartbeats 8000000 in
set_option maxRecDepth 100000 in
theorem spec_aName.calls (k : Nat) (g : Nat) (s0_0 : List Int) (s0_1 : Int) (r1 : ByteArray) (r2 : Int) (w0 w : World) (hI : IsS150 w0 w g s0_0 s0_1) (hB : Below w0.heap.size w0 w) (h : spec_aName.f k s0_0 s0_1 = some (r1, r2)) :
  Calls Try.prog 142 #[.pointer (some ⟨g, 0, none⟩)] w fun e w' => e = .returned (.string r1) ∧ IsS150 w0 w' g s0_0 r2 ∧ Below w0.heap.size w0 w' ∧ KeepBut w w' g none := by
 have HI0 := Aside0.mk hI; have HK := Aside0.mk (KeepBut.refl w g none); have HL := Aside0.mk hB.size; clear hI; have HW0 := Aside0.mk hB.size; have HB := Aside0.mk hB; clear hB; have H : ((spec_reader_of.f k s0_0 s0_1 (([(⟨#[97]⟩ : ByteArray), (⟨#[98]⟩ : ByteArray), (⟨#[99]⟩ : ByteArray), (⟨#[100]⟩ : ByteArray), (⟨#[120]⟩ : ByteArray), (⟨#[121]⟩ : ByteArray), (⟨#[97]⟩ : ByteArray), (⟨#[98]⟩ : ByteArray), (⟨#[99]⟩ : ByteArray)] : List ByteArray))).bind fun bt292 => (some (bt292.1, bt292.2))) = some (r1, r2) := h; clear h; obtain ⟨y289, hy289⟩ : ∃ y_ : List ByteArray, y_ = (([(⟨#[97]⟩ : ByteArray), (⟨#[98]⟩ : ByteArray), (⟨#[99]⟩ : ByteArray), (⟨#[100]⟩ : ByteArray), (⟨#[120]⟩ : ByteArray), (⟨#[121]⟩ : ByteArray), (⟨#[97]⟩ : ByteArray), (⟨#[98]⟩ : ByteArray), (⟨#[99]⟩ : ByteArray)] : List ByteArray)) := ⟨_, rfl⟩
 replace H : ((spec_reader_of.f k s0_0 s0_1 y289).bind fun bt292 => (some (bt292.1, bt292.2))) = some (r1, r2) := by first | (rw [hy289]; with_reducible exact H) | (have H2_ := (Option.bind_some _ _).symm.trans H; rw [hy289]; with_reducible exact H2_) | (have H2_ := (Option.bind_some _ _).symm.trans H; with_reducible exact H2_) | with_reducible exact H | (rw [hy289]; exact H) | exact H
 have Ny289 := Aside0.mk hy289; clear hy289; replace H := Option.bind_eq_some_iff.mp H; obtain ⟨⟨t292, t293⟩, A20, H⟩ := H
 (try dsimp only at H)
 have A2 := Aside0.mk A20; clear A20; simp only [Option.some.injEq, Prod.mk.injEq] at H; obtain ⟨rfl, rfl⟩ := H; go_enter Try.func142, Try.ntmps142; go_wp2_with (first | ((with_reducible refine gate_dst (N := 4) rfl ?_); refine Kd.R_lit Kd.string _ 9 ?hg (N := 4) ?hd (xs := ([(⟨#[97]⟩ : ByteArray), (⟨#[98]⟩ : ByteArray), (⟨#[99]⟩ : ByteArray), (⟨#[100]⟩ : ByteArray), (⟨#[120]⟩ : ByteArray), (⟨#[121]⟩ : ByteArray), (⟨#[97]⟩ : ByteArray), (⟨#[98]⟩ : ByteArray), (⟨#[99]⟩ : ByteArray)] : List ByteArray)) (inner := [.string (⟨#[97]⟩ : ByteArray), .string (⟨#[98]⟩ : ByteArray), .string (⟨#[99]⟩ : ByteArray), .string (⟨#[100]⟩ : ByteArray), .string (⟨#[120]⟩ : ByteArray), .string (⟨#[121]⟩ : ByteArray), .string (⟨#[97]⟩ : ByteArray), .string (⟨#[98]⟩ : ByteArray), .string (⟨#[99]⟩ : ByteArray)]) (ok := fun _ => True) (okp := fun _ => True) ?hr ?hp (fun _ hk => hk) trivial (Below.refl _ _) (Nat.le_refl _) (by simp) ?_; (case hd => rfl); (case hg => rfl); (case hr => first | (go_simp; done) | (go_simp; rfl)); (case hp => exact (Reps.one (show Kd.M Kd.string _ _ _ (⟨#[97]⟩ : ByteArray) [.string (⟨#[97]⟩ : ByteArray)] from rfl) (Reps.one (show Kd.M Kd.string _ _ _ (⟨#[98]⟩ : ByteArray) [.string (⟨#[98]⟩ : ByteArray)] from rfl) (Reps.one (show Kd.M Kd.string _ _ _ (⟨#[99]⟩ : ByteArray) [.string (⟨#[99]⟩ : ByteArray)] from rfl) (Reps.one (show Kd.M Kd.string _ _ _ (⟨#[100]⟩ : ByteArray) [.string (⟨#[100]⟩ : ByteArray)] from rfl) (Reps.one (show Kd.M Kd.string _ _ _ (⟨#[120]⟩ : ByteArray) [.string (⟨#[120]⟩ : ByteArray)] from rfl) (Reps.one (show Kd.M Kd.string _ _ _ (⟨#[121]⟩ : ByteArray) [.string (⟨#[121]⟩ : ByteArray)] from rfl) (Reps.one (show Kd.M Kd.string _ _ _ (⟨#[97]⟩ : ByteArray) [.string (⟨#[97]⟩ : ByteArray)] from rfl) (Reps.one (show Kd.M Kd.string _ _ _ (⟨#[98]⟩ : ByteArray) [.string (⟨#[98]⟩ : ByteArray)] from rfl) (Reps.one (show Kd.M Kd.string _ _ _ (⟨#[99]⟩ : ByteArray) [.string (⟨#[99]⟩ : ByteArray)] from rfl) (Reps.none _ _))))))))))); intro v290 w3 ho4 hb hg_ hnew_; clear hg_ hnew_; (first | rw [← Ny289.out] at ho4 | (simp only [Int.reduceToNat] at ho4; rw [← Ny289.out] at ho4)); have HO291 := Aside0.mk (Kd.R_lower ho4 (keep_size (w := w) (g := g) (row := none) (zk HK))); replace HK := Aside0.mk (KeepBut.trans (zk HK) (KeepBut.of_below hb g none) (.inl rfl)); replace HB := Aside0.mk (below_step (zj150_32 HB) hb); replace HI0 := Aside0.mk (IsS150.below (zi150_32 HI0) hb); clear hb ho4; obtain ⟨Ao5, co5, eo5⟩ := Kd.R_slice HO291.out; subst eo5) | ((with_reducible refine gate_callee (f := 141) rfl ?_); refine goesL_ (some 5) rfl rfl Try.func141 (by kernel_rfl) rfl #[.pointer (some ⟨g, 0, none⟩), .slice Ao5 y289.length co5] rfl zl ?_; (with_reducible refine (spec_reader_of.calls k g s0_0 s0_1 _ _ y289 t292 t293 w0 _ ?side1 ?side2 ?side3 ?side4 ?side5 A2.out).mono ?_); (case side1 => exact zi150_32 HI0); (case side2 => exact zj150_32 HB); (case side3 => repeat (first | exact (Kd.R_reads' HO291.out).2.2 | (with_reducible refine Kd.C_alloc ?_ _) | (with_reducible refine Kd.C_drewN ?_ _) | (with_reducible refine Kd.C_drew ?_))); (case side4 => exact (Kd.R_reads' HO291.out).2.1); (case side5 => exact far_slice (IsS150.own_ne HI0.out HO291.out (by decide))); rintro e w6 ⟨rfl, hi, hb, hk⟩; refine ⟨_, rfl, ?_⟩; replace HO291 := Aside0.mk (Kd.R_mono (Kd.R_keep (IsS150.apart (show IsS150 w0 _ g s0_0 s0_1 from zi150_32 HI0) (zo HO291) (by decide)) hk (fun _ h => h.2)) (fun _ h => h.1)); replace HK := Aside0.mk (KeepBut.trans (zk HK) hk (.inl rfl)); replace HB := Aside0.mk (hb); replace HI0 := Aside0.mk (hi); (try clear hb); (try clear hb2); (try clear hk); (try clear hi))); go_ret; exact ⟨by first | rfl | (simp [errW_none, errW_some] <;> rfl) | (simp [*, errW_none, errW_some] <;> rfl), by repeat (first | (with_reducible first | exact HI0.out | apply IsS150.alloc | apply IsS150.drewN | apply IsS150.drew | apply IsS150.set_1) | exact HI0.out), by repeat (first | (with_reducible first | exact HB.out | apply below_alloc | apply pw_below_drewN | apply below_drew1 | refine below_set ?_ (IsS150.ge HI0.out)) | exact HB.out), zk HK⟩

/-! ### spec_anyName: function 102 -/
def spec_anyName.f (k : Nat) (s0_0 : List Int) (s0_1 : Int) : Option (ByteArray × Int) := (spec_reader_pick.f k s0_0 s0_1 16).bind fun bt294 => (if bt294.1 = 0 then ((spec_reader_of.f k s0_0 bt294.2 (([(⟨#[]⟩ : ByteArray), (⟨#[65]⟩ : ByteArray), (⟨#[116, 111, 111, 108, 111, 110, 103]⟩ : ByteArray), (⟨#[97, 49]⟩ : ByteArray), (⟨#[97, 98, 99, 100, 101, 102]⟩ : ByteArray)] : List ByteArray))).bind fun bt299 => (some (bt299.1, bt299.2))) else ((spec_aName.f k s0_0 bt294.2).bind fun bt301 => (some (bt301.1, bt301.2))))
theorem spec_anyName.mono : ∀ a0 a1 k, LeO (spec_anyName.f k a0 a1) (spec_anyName.f (k + 1) a0 a1) := by
 intro a0 a1 k; unfold spec_anyName.f
 repeat' first
   | (with_reducible exact spec_aName.mono _ _ _)
   | (with_reducible exact spec_reader_of.mono _ _ _ _)
   | (with_reducible exact spec_reader_pick.mono _ _ _ _)
   | (with_reducible exact LeO.refl _)
   | (with_reducible exact LeO.none _)
   | (with_reducible refine LeO.ite ?_ ?_)
   | (with_reducible refine LeO.bind ?_ (fun _ => ?_))
   | exact spec_aName.mono _ _ _
   | exact spec_reader_of.mono _ _ _ _
   | exact spec_reader_pick.mono _ _ _ _
   | exact LeO.none _
   | refine LeO.ite ?_ ?_
   | refine LeO.bind ?_ (fun _ => ?_)
set_option maxHeartbeats 8000000 in
set_option maxRecDepth 100000 in
theorem spec_anyName.calls (k : Nat) (g : Nat) (s0_0 : List Int) (s0_1 : Int) (r1 : ByteArray) (r2 : Int) (w0 w : World) (hI : IsS150 w0 w g s0_0 s0_1) (hB : Below w0.heap.size w0 w) (h : spec_anyName.f k s0_0 s0_1 = some (r1, r2)) :
  Calls Try.prog 102 #[.pointer (some ⟨g, 0, none⟩)] w fun e w' => e = .returned (.string r1) ∧ IsS150 w0 w' g s0_0 r2 ∧ Below w0.heap.size w0 w' ∧ KeepBut w w' g none := by
 have HI0 := Aside0.mk hI; have HK := Aside0.mk (KeepBut.refl w g none); have HL := Aside0.mk hB.size; clear hI; have HW0 := Aside0.mk hB.size; have HB := Aside0.mk hB; clear hB; have H : ((spec_reader_pick.f k s0_0 s0_1 16).bind fun bt294 => (if bt294.1 = 0 then ((spec_reader_of.f k s0_0 bt294.2 (([(⟨#[]⟩ : ByteArray), (⟨#[65]⟩ : ByteArray), (⟨#[116, 111, 111, 108, 111, 110, 103]⟩ : ByteArray), (⟨#[97, 49]⟩ : ByteArray), (⟨#[97, 98, 99, 100, 101, 102]⟩ : ByteArray)] : List ByteArray))).bind fun bt299 => (some (bt299.1, bt299.2))) else ((spec_aName.f k s0_0 bt294.2).bind fun bt301 => (some (bt301.1, bt301.2))))) = some (r1, r2) := h; clear h; replace H := Option.bind_eq_some_iff.mp H; obtain ⟨⟨t294, t295⟩, A20, H⟩ := H
 (try dsimp only at H)
 have A2 := Aside0.mk A20; clear A20
 by_cases c3 : t294 = 0
 ·rw [if_pos c3] at H; have c3b0 : (t294 == 0) = true := beq_iff_eq.mpr c3; have c3b1 : (t294 != 0) = false := bne_eq_false_iff_eq.mpr c3; clear c3; obtain ⟨y296, hy296⟩ : ∃ y_ : List ByteArray, y_ = (([(⟨#[]⟩ : ByteArray), (⟨#[65]⟩ : ByteArray), (⟨#[116, 111, 111, 108, 111, 110, 103]⟩ : ByteArray), (⟨#[97, 49]⟩ : ByteArray), (⟨#[97, 98, 99, 100, 101, 102]⟩ : ByteArray)] : List ByteArray)) := ⟨_, rfl⟩
  replace H : ((spec_reader_of.f k s0_0 t295 y296).bind fun bt299 => (some (bt299.1, bt299.2))) = some (r1, r2) := by first | (rw [hy296]; with_reducible exact H) | (have H2_ := (Option.bind_some _ _).symm.trans H; rw [hy296]; with_reducible exact H2_) | (have H2_ := (Option.bind_some _ _).symm.trans H; with_reducible exact H2_) | with_reducible exact H | (rw [hy296]; exact H) | exact H
  have Ny296 := Aside0.mk hy296; clear hy296; replace H := Option.bind_eq_some_iff.mp H; obtain ⟨⟨t299, t300⟩, A40, H⟩ := H
  (try dsimp only at H)
  have A4 := Aside0.mk A40; clear A40; simp only [Option.some.injEq, Prod.mk.injEq] at H; obtain ⟨rfl, rfl⟩ := H; go_enter Try.func102, Try.ntmps102; go_wp2_with (first | ((with_reducible refine gate_callee (f := 125) rfl ?_); refine goesL_ (some 4) rfl rfl Try.func125 (by kernel_rfl) rfl #[.pointer (some ⟨g, 0, none⟩), .int .i64 16] rfl zl ?_; (with_reducible refine (spec_reader_pick.calls k g s0_0 s0_1 16 t294 t295 w0 _ ?side1 ?side2 A2.out).mono ?_); (case side1 => exact zi150_32 HI0); (case side2 => exact zj150_32 HB); rintro e w5 ⟨rfl, hi, hb, hk⟩; refine ⟨_, rfl, ?_⟩; replace HK := Aside0.mk (KeepBut.trans (zk HK) hk (.inl rfl)); replace HB := Aside0.mk (hb); replace HI0 := Aside0.mk (hi); (try clear hb); (try clear hb2); (try clear hk); (try clear hi)) | ((with_reducible refine gate_dst (N := 7) rfl ?_); refine Kd.R_lit Kd.string _ 9 ?hg (N := 7) ?hd (xs := ([(⟨#[]⟩ : ByteArray), (⟨#[65]⟩ : ByteArray), (⟨#[116, 111, 111, 108, 111, 110, 103]⟩ : ByteArray), (⟨#[97, 49]⟩ : ByteArray), (⟨#[97, 98, 99, 100, 101, 102]⟩ : ByteArray)] : List ByteArray)) (inner := [.string (⟨#[]⟩ : ByteArray), .string (⟨#[65]⟩ : ByteArray), .string (⟨#[116, 111, 111, 108, 111, 110, 103]⟩ : ByteArray), .string (⟨#[97, 49]⟩ : ByteArray), .string (⟨#[97, 98, 99, 100, 101, 102]⟩ : ByteArray)]) (ok := fun _ => True) (okp := fun _ => True) ?hr ?hp (fun _ hk => hk) trivial (Below.refl _ _) (Nat.le_refl _) (by simp) ?_; (case hd => rfl); (case hg => rfl); (case hr => first | (go_simp; done) | (go_simp; rfl)); (case hp => exact (Reps.one (show Kd.M Kd.string _ _ _ (⟨#[]⟩ : ByteArray) [.string (⟨#[]⟩ : ByteArray)] from rfl) (Reps.one (show Kd.M Kd.string _ _ _ (⟨#[65]⟩ : ByteArray) [.string (⟨#[65]⟩ : ByteArray)] from rfl) (Reps.one (show Kd.M Kd.string _ _ _ (⟨#[116, 111, 111, 108, 111, 110, 103]⟩ : ByteArray) [.string (⟨#[116, 111, 111, 108, 111, 110, 103]⟩ : ByteArray)] from rfl) (Reps.one (show Kd.M Kd.string _ _ _ (⟨#[97, 49]⟩ : ByteArray) [.string (⟨#[97, 49]⟩ : ByteArray)] from rfl) (Reps.one (show Kd.M Kd.string _ _ _ (⟨#[97, 98, 99, 100, 101, 102]⟩ : ByteArray) [.string (⟨#[97, 98, 99, 100, 101, 102]⟩ : ByteArray)] from rfl) (Reps.none _ _))))))); intro v297 w6 ho7 hb hg_ hnew_; clear hg_ hnew_; (first | rw [← Ny296.out] at ho7 | (simp only [Int.reduceToNat] at ho7; rw [← Ny296.out] at ho7)); have HO298 := Aside0.mk (Kd.R_lower ho7 (keep_size (w := w) (g := g) (row := none) (zk HK))); replace HK := Aside0.mk (KeepBut.trans (zk HK) (KeepBut.of_below hb g none) (.inl rfl)); replace HB := Aside0.mk (below_step (zj150_32 HB) hb); replace HI0 := Aside0.mk (IsS150.below (zi150_32 HI0) hb); clear hb ho7; obtain ⟨Ao8, co8, eo8⟩ := Kd.R_slice HO298.out; subst eo8) | ((with_reducible refine gate_callee (f := 141) rfl ?_); refine goesL_ (some 8) rfl rfl Try.func141 (by kernel_rfl) rfl #[.pointer (some ⟨g, 0, none⟩), .slice Ao8 y296.length co8] rfl zl ?_; (with_reducible refine (spec_reader_of.calls k g s0_0 t295 _ _ y296 t299 t300 w0 _ ?side1 ?side2 ?side3 ?side4 ?side5 A4.out).mono ?_); (case side1 => exact zi150_32 HI0); (case side2 => exact zj150_32 HB); (case side3 => repeat (first | exact (Kd.R_reads' HO298.out).2.2 | (with_reducible refine Kd.C_alloc ?_ _) | (with_reducible refine Kd.C_drewN ?_ _) | (with_reducible refine Kd.C_drew ?_))); (case side4 => exact (Kd.R_reads' HO298.out).2.1); (case side5 => exact far_slice (IsS150.own_ne HI0.out HO298.out (by decide))); rintro e w9 ⟨rfl, hi, hb, hk⟩; refine ⟨_, rfl, ?_⟩; replace HO298 := Aside0.mk (Kd.R_mono (Kd.R_keep (IsS150.apart (show IsS150 w0 _ g s0_0 t295 from zi150_32 HI0) (zo HO298) (by decide)) hk (fun _ h => h.2)) (fun _ h => h.1)); replace HK := Aside0.mk (KeepBut.trans (zk HK) hk (.inl rfl)); replace HB := Aside0.mk (hb); replace HI0 := Aside0.mk (hi); (try clear hb); (try clear hb2); (try clear hk); (try clear hi))); go_ret; exact ⟨by first | rfl | (simp [errW_none, errW_some] <;> rfl) | (simp [*, errW_none, errW_some] <;> rfl), by repeat (first | (with_reducible first | exact HI0.out | apply IsS150.alloc | apply IsS150.drewN | apply IsS150.drew | apply IsS150.set_1) | exact HI0.out), by repeat (first | (with_reducible first | exact HB.out | apply below_alloc | apply pw_below_drewN | apply below_drew1 | refine below_set ?_ (IsS150.ge HI0.out)) | exact HB.out), zk HK⟩
 ·rw [if_neg c3] at H; have c3b0 : (t294 == 0) = false := beq_eq_false_iff_ne.mpr c3; have c3b1 : (t294 != 0) = true := bne_iff_ne.mpr c3; replace H := Option.bind_eq_some_iff.mp H; obtain ⟨⟨t301, t302⟩, A100, H⟩ := H
  (try dsimp only at H)
  have A10 := Aside0.mk A100; clear A100; simp only [Option.some.injEq, Prod.mk.injEq] at H; obtain ⟨rfl, rfl⟩ := H; go_enter Try.func102, Try.ntmps102; go_wp2_with (first | ((with_reducible refine gate_callee (f := 125) rfl ?_); refine goesL_ (some 4) rfl rfl Try.func125 (by kernel_rfl) rfl #[.pointer (some ⟨g, 0, none⟩), .int .i64 16] rfl zl ?_; (with_reducible refine (spec_reader_pick.calls k g s0_0 s0_1 16 t294 t295 w0 _ ?side1 ?side2 A2.out).mono ?_); (case side1 => exact zi150_32 HI0); (case side2 => exact zj150_32 HB); rintro e w11 ⟨rfl, hi, hb, hk⟩; refine ⟨_, rfl, ?_⟩; replace HK := Aside0.mk (KeepBut.trans (zk HK) hk (.inl rfl)); replace HB := Aside0.mk (hb); replace HI0 := Aside0.mk (hi); (try clear hb); (try clear hb2); (try clear hk); (try clear hi)) | ((with_reducible refine gate_callee (f := 142) rfl ?_); refine goesL_ (some 10) rfl rfl Try.func142 (by kernel_rfl) rfl #[.pointer (some ⟨g, 0, none⟩)] rfl zl ?_; (with_reducible refine (spec_aName.calls k g s0_0 t295 t301 t302 w0 _ ?side1 ?side2 A10.out).mono ?_); (case side1 => exact zi150_32 HI0); (case side2 => exact zj150_32 HB); rintro e w12 ⟨rfl, hi, hb, hk⟩; refine ⟨_, rfl, ?_⟩; replace HK := Aside0.mk (KeepBut.trans (zk HK) hk (.inl rfl)); replace HB := Aside0.mk (hb); replace HI0 := Aside0.mk (hi); (try clear hb); (try clear hb2); (try clear hk); (try clear hi))); go_ret; exact ⟨by first | rfl | (simp [errW_none, errW_some] <;> rfl) | (simp [*, errW_none, errW_some] <;> rfl), by repeat (first | (with_reducible first | exact HI0.out | apply IsS150.alloc | apply IsS150.drewN | apply IsS150.drew | apply IsS150.set_1) | exact HI0.out), by repeat (first | (with_reducible first | exact HB.out | apply below_alloc | apply pw_below_drewN | apply below_drew1 | refine below_set ?_ (IsS150.ge HI0.out)) | exact HB.out), zk HK⟩

/-! ### spec_putPair: function 104 -/
def spec_putPair.f (k : Nat) (l0 : List (S94)) (a1_0 : ByteArray) (a1_1 : Int) : Option ((List (S94))) := (some (([] : List (S94)) : List (S94))).bind fun y304 => (if y304.length + l0.length < 5864062014805 then ((some (y304 ++ l0 : List (S94))).bind fun y307 => ((spec_pairAt.f k y307 a1_0).bind fun t310 => (if t310 ≥ 0 then (if 0 ≤ t310 then (if t310 < (y307.length : Int) then (some (y307.set (t310 : Int).toNat (⟨a1_0, a1_1⟩ : S94))) else (none)) else (none)) else (if y307.length < 5864062014805 then (some (y307 ++ [(⟨a1_0, a1_1⟩ : S94)])) else (none))))) else (none))
theorem spec_putPair.mono : ∀ a0 a1 a2 k, LeO (spec_putPair.f k a0 a1 a2) (spec_putPair.f (k + 1) a0 a1 a2) := by
 intro a0 a1 a2 k; unfold spec_putPair.f
 repeat' first
   | (with_reducible exact spec_pairAt.mono _ _ _)
   | (with_reducible exact LeO.refl _)
   | (with_reducible exact LeO.none _)
   | (with_reducible refine LeO.ite ?_ ?_)
   | (with_reducible refine LeO.bind ?_ (fun _ => ?_))
   | exact spec_pairAt.mono _ _ _
   | exact LeO.none _
   | refine LeO.ite ?_ ?_
   | refine LeO.bind ?_ (fun _ => ?_)
set_option maxHeartbeats 8000000 in
set_option maxRecDepth 100000 in
theorem spec_putPair.calls (k : Nat) (A0 : Option Addr) (c0 : Nat) (l0 : List (S94)) (a1_0 : ByteArray) (a1_1 : Int) (r : List (S94)) (w : World) (hr0 : Kd.C k94 w A0 l0.length l0) (hc0 : l0.length ≤ c0) (h : spec_putPair.f k l0 a1_0 a1_1 = some r) :
  Calls Try.prog 104 #[.slice A0 l0.length c0, .agg #[.string a1_0, .int .i64 a1_1]] w fun e w' => ∃ v0_ : Value, e = .returned (v0_) ∧ Kd.R k94 94 w' w.heap.size (fun _ => True) v0_ r ∧ Below w.heap.size w w' := by
 have hu94 := Try.underlying94; have HR0 := Aside0.mk hr0; have HC0 := Aside0.mk hc0; clear hr0 hc0; have HB := Aside0.mk (Below.refl w.heap.size w); have H : ((some (([] : List (S94)) : List (S94))).bind fun y304 => (if y304.length + l0.length < 5864062014805 then ((some (y304 ++ l0 : List (S94))).bind fun y307 => ((spec_pairAt.f k y307 a1_0).bind fun t310 => (if t310 ≥ 0 then (if 0 ≤ t310 then (if t310 < (y307.length : Int) then (some (y307.set (t310 : Int).toNat (⟨a1_0, a1_1⟩ : S94))) else (none)) else (none)) else (if y307.length < 5864062014805 then (some (y307 ++ [(⟨a1_0, a1_1⟩ : S94)])) else (none))))) else (none))) = some r := h; clear h; obtain ⟨y304, hy304⟩ : ∃ y_ : List (S94), y_ = (([] : List (S94))) := ⟨_, rfl⟩
 replace H : (if y304.length + l0.length < 5864062014805 then ((some (y304 ++ l0 : List (S94))).bind fun y307 => ((spec_pairAt.f k y307 a1_0).bind fun t310 => (if t310 ≥ 0 then (if 0 ≤ t310 then (if t310 < (y307.length : Int) then (some (y307.set (t310 : Int).toNat (⟨a1_0, a1_1⟩ : S94))) else (none)) else (none)) else (if y307.length < 5864062014805 then (some (y307 ++ [(⟨a1_0, a1_1⟩ : S94)])) else (none))))) else (none)) = some r := by first | (rw [hy304]; with_reducible exact H) | (have H2_ := (Option.bind_some _ _).symm.trans H; rw [hy304]; with_reducible exact H2_) | (have H2_ := (Option.bind_some _ _).symm.trans H; with_reducible exact H2_) | with_reducible exact H | (rw [hy304]; exact H) | exact H
 have Ny304 := Aside0.mk hy304; clear hy304
 by_cases c3 : y304.length + l0.length < 5864062014805
 ·rw [if_pos c3] at H; have LMc3 := Aside0.mk c3; clear c3; obtain ⟨y307, hy307⟩ : ∃ y_ : List (S94), y_ = (y304 ++ l0) := ⟨_, rfl⟩
  replace H : ((spec_pairAt.f k y307 a1_0).bind fun t310 => (if t310 ≥ 0 then (if 0 ≤ t310 then (if t310 < (y307.length : Int) then (some (y307.set (t310 : Int).toNat (⟨a1_0, a1_1⟩ : S94))) else (none)) else (none)) else (if y307.length < 5864062014805 then (some (y307 ++ [(⟨a1_0, a1_1⟩ : S94)])) else (none)))) = some r := by first | (rw [hy307]; with_reducible exact H) | (have H2_ := (Option.bind_some _ _).symm.trans H; rw [hy307]; with_reducible exact H2_) | (have H2_ := (Option.bind_some _ _).symm.trans H; with_reducible exact H2_) | with_reducible exact H | (rw [hy307]; exact H) | exact H
  have Ny307 := Aside0.mk hy307; clear hy307; replace H := Option.bind_eq_some_iff.mp H; obtain ⟨t310, A40, H⟩ := H
  (try dsimp only at H)
  have A4 := Aside0.mk A40; clear A40
  by_cases c5 : t310 ≥ 0
  ·rw [if_pos c5] at H; have c5b0 : decide (0 ≤ t310) = true := decide_eq_true c5; clear c5
   by_cases c6 : 0 ≤ t310
   ·rw [if_pos c6] at H; have c6b0 : decide (0 ≤ t310) = true := decide_eq_true c6; clear c6
    by_cases c7 : t310 < (y307.length : Int)
    ·rw [if_pos c7] at H; have c7b0 : decide (t310 < (y307.length : Int)) = true := decide_eq_true c7; clear c7; obtain ⟨y311, hy311⟩ : ∃ y_ : List (S94), y_ = (y307.set (t310 : Int).toNat (⟨a1_0, a1_1⟩ : S94)) := ⟨_, rfl⟩
     replace H : (some y311) = some r := by first | (rw [hy311]; with_reducible exact H) | (have H2_ := (Option.bind_some _ _).symm.trans H; rw [hy311]; with_reducible exact H2_) | (have H2_ := (Option.bind_some _ _).symm.trans H; with_reducible exact H2_) | with_reducible exact H | (rw [hy311]; exact H) | exact H
     have Ny311 := Aside0.mk hy311; clear hy311; obtain rfl := Option.some.inj H; go_enter Try.func104, Try.ntmps104; go_wp2_with (first | ((with_reducible refine gate_dst (N := 3) rfl ?_); refine zx (N := 3) (cs := #[.string a1_0, .int .i64 a1_1]) (t := 94) ?_; intro gb303 hg w9 hbox hb; have BK303 := Aside0.mk (hbox); have GW303 := Aside0.mk ((by rw [hg]; exact (below_size (zB HB)) : w.heap.size ≤ gb303)); have GE303 := GW303; replace HB := Aside0.mk (below_step (zB HB) hb); clear hb hbox hg) | ((with_reducible refine gate_dst (N := 7) rfl ?_); refine Kd.R_lit k94 _ 94 ?hg (N := 7) ?hd (xs := ([] : List (S94))) (inner := []) (ok := fun _ => True) (okp := fun _ => True) ?hr ?hp (fun _ hk => hk) trivial (Below.refl _ _) (Nat.le_refl _) (by simp) ?_; (case hd => rfl); (case hg => rfl); (case hr => first | (go_simp; done) | (go_simp; rfl)); (case hp => exact (Reps.none _ _)); intro v305 w10 ho11 hb hg_ hnew_; clear hg_ hnew_; (first | rw [← Ny304.out] at ho11 | (simp only [Int.reduceToNat] at ho11; rw [← Ny304.out] at ho11)); have HO306 := Aside0.mk (Kd.R_lower (Kd.R_newB ho11 (g := gb303) (o := .cells #[.string a1_0, .int .i64 a1_1] 94 (0, 0)) (zb BK303)) (below_size (zB HB))); replace BK303 := Aside0.mk (blk_below (g := gb303) (o := .cells #[.string a1_0, .int .i64 a1_1] 94 (0, 0)) (zb BK303) hb); replace HB := Aside0.mk (below_step (zB HB) hb); clear hb ho11) | ((with_reducible refine gate_builtin (b := .append) (xs := #[.tmp 7, .tmp 8]) rfl ?_); at_builtin; refine Kd.R_append_rows k94 (w0 := w) w.heap.size rfl (.tmp 7) (.tmp 8) 28 94 (.agg #[(.string ⟨#[]⟩), (.int .i64 0)]) 24 rfl Try.underlying28 info94 rfl (by decide) (by omega) v305 y304 l0 _ _ _ (fun k_ => k_ ≠ gb303) (fun _ => False) rfl rfl ?aO ?aR (fun _ _ h => h) (fun _ h => h.elim) ?aF ?aB ?aS ?aL ?_; (case aR => repeat (first | exact (Kd.C_below HR0.out HB.out) | (with_reducible refine Kd.C_alloc ?_ _) | (with_reducible refine Kd.C_drewN ?_ _) | (with_reducible refine Kd.C_drew ?_))); (case aB => exact (zB HB)); (case aF => exact (fun k_ hk => Kd.freshB (g := gb303) (o := .cells #[.string a1_0, .int .i64 a1_1] 94 (0, 0)) (zb BK303) k_ hk)); (case aO => exact (zmR HO306 (fun _ hk => hk.2))); (case aS => exact (below_size (zB HB))); (case aL => have := LMc3.out; omega); intro v308 w12 ho hb hg hat; rw [← Ny307.out] at ho; have n0_ := Aside0.mk (blk_grown (g := gb303) (o := .cells #[.string a1_0, .int .i64 a1_1] 94 (0, 0)) (zb BK303) hg (Kd.R_away HO306.out (fun _ hk => hk.2))); have n1_ := Aside0.mk (hb); have n2_ := Aside0.mk (ho); clear BK303; clear HB; clear HO306; have BK303 := n0_; have HB := n1_; have HO309 := n2_; clear n0_ n1_ n2_; clear ho hb hg hat; have hcz13_0 : w12.cell? ⟨gb303, 0, none⟩ = some (.string a1_0) := (blk_cell BK303.out 0).trans rfl; have hcz13_1 : w12.cell? ⟨gb303, 1, none⟩ = some (.int .i64 a1_1) := (blk_cell BK303.out 1).trans rfl; have hfz13_0 := blk_frozen BK303.out 0; have hfz13_1 := blk_frozen BK303.out 1; obtain ⟨Ao14, co14, eo14⟩ := Kd.R_slice HO309.out; subst eo14) | ((with_reducible refine gate_callee (f := 107) rfl ?_); refine goesL_ (some 13) rfl rfl Try.func107 (by kernel_rfl) rfl #[.slice Ao14 y307.length co14, .string a1_0] rfl zl ?_; (with_reducible refine (spec_pairAt.calls k _ _ y307 a1_0 t310 _ ?side1 ?side2 A4.out).mono ?_); (case side1 => repeat (first | exact (Kd.R_reads' HO309.out).2.2 | (with_reducible refine Kd.C_alloc ?_ _) | (with_reducible refine Kd.C_drewN ?_ _) | (with_reducible refine Kd.C_drew ?_))); (case side2 => exact (Kd.R_reads' HO309.out).2.1); rintro e w' ⟨rfl, ⟨nd, rfl⟩⟩; refine ⟨_, rfl, ?_⟩; (try (rw [drewN_self w12]; generalize hq_ : World.drewN w12 _ = w12; have n0_ : Aside0 (Kd.R k94 94 w12 w.heap.size (fun k_ => k_ ≠ gb303) (.slice Ao14 y307.length co14) y307) := ⟨by rw [← hq_]; exact (zo HO309)⟩; have n1_ : Aside0 (w12.heap[gb303]? = some (.cells #[.string a1_0, .int .i64 a1_1] 94 (0, 0))) := ⟨by rw [← hq_]; exact (zb BK303)⟩; have n2_ : Aside0 (Below w.heap.size w w12) := ⟨by rw [← hq_]; exact (zB HB)⟩; clear HO309 BK303 HB hq_; have HO309 := n0_; have BK303 := n1_; have HB := n2_; clear n0_ n1_ n2_)); (try have hcz13_0n : w12.cell? ⟨gb303, 0, none⟩ = some (.string a1_0) := (blk_cell BK303.out 0).trans rfl); (try have hcz13_1n : w12.cell? ⟨gb303, 1, none⟩ = some (.int .i64 a1_1) := (blk_cell BK303.out 1).trans rfl); (try have hfz13_0n := blk_frozen BK303.out 0); (try have hfz13_1n := blk_frozen BK303.out 1); have p8 : 0 ≤ (t310 : Int) := of_decide_eq_true za; have q8 : (t310 : Int) < ((y307.length : Int) : Int) := of_decide_eq_true za; obtain ⟨go8, co8, eo8, gb8, gl8, cl8, HG8⟩ := Kd.R_form HO309.out (by omega); (first | cases eo8 | (injection eo8 with ea_ en_ ec_; (first | subst ea_ | (injection ea_ with ea_; subst ea_)); subst ec_; clear en_)); have GB8 := Aside0.mk gb8; have GG8 := Aside0.mk HG8; clear gb8 gl8 HG8; obtain ⟨ce8, hcl8, hM8, hcc8, hfr8⟩ := Kd.R_elem HO309.out z94 (t310 : Int) p8 q8; obtain rfl := k94_openM hM8; have hx8_0 : w12.cell? ⟨go8, (t310 : Int).toNat * 2, none⟩ = some (.string ((rd_T94 y307 t310).f0)) := hcc8 0 _ rfl; have hx8_1 : w12.cell? ⟨go8, (t310 : Int).toNat * 2 + 1, none⟩ = some (.int .i64 ((rd_T94 y307 t310).f1)) := hcc8 1 _ rfl; have hf8_0 : w12.frozen? ⟨go8, (t310 : Int).toNat * 2, none⟩ = false := hfr8 0; have hf8_1 : w12.frozen? ⟨go8, (t310 : Int).toNat * 2 + 1, none⟩ = false := hfr8 1; clear hcl8 hcc8 hfr8 hM8; replace p8 := eq_true p8; replace q8 := eq_true q8; have HX15 := Aside0.mk (show Kd.R k94 94 w12 w.heap.size (fun k_ => k_ ≠ gb303) (.slice (some ⟨go8, 0, none⟩) y307.length co14) y307 from (zo HO309)); obtain ⟨ce15, hcl15, hM15, hcc15, hfr15⟩ := Kd.R_elem HX15.out z94 (t310 : Int) (of_decide_eq_true za) (by have h_ : (t310 : Int) < ((y307.length : Int) : Int) := of_decide_eq_true za; first | exact h_ | (have e_ := (Kd.R_reads' HO309.out).1; omega) | simpa using h_); obtain rfl := k94_openM hM15; have HP15 := Kd.R_seg HX15.out (t310 : Int) (of_decide_eq_true za) (by have h_ : (t310 : Int) < ((y307.length : Int) : Int) := of_decide_eq_true za; first | exact h_ | (have e_ := (Kd.R_reads' HO309.out).1; omega) | simpa using h_) (seg := [.string a1_0, .int .i64 a1_1]) (j := 0) hcl15 hcc15 (show 2 ≤ 2 from by decide) (x' := (⟨a1_0, a1_1⟩ : S94)) (k94_mkM _ _ _ (⟨a1_0, a1_1⟩ : S94) ) (fun _ hk => hk); have hx15_0 := hcc15 0 _ rfl; (try simp only [show (k94).sz = 2 from rfl, Nat.mul_one, Nat.add_zero] at hx15_0); have hf15_0 := hfr15 0; (try simp only [show (k94).sz = 2 from rfl, Nat.mul_one, Nat.add_zero] at hf15_0); have hx15_1 := hcc15 1 _ rfl; (try simp only [show (k94).sz = 2 from rfl, Nat.mul_one, Nat.add_zero] at hx15_1); have hf15_1 := hfr15 1; (try simp only [show (k94).sz = 2 from rfl, Nat.mul_one, Nat.add_zero] at hf15_1); clear hcl15 hcc15 hfr15 hM15) | ((with_reducible refine gate_store (t := 94) (p := 19) rfl ?_); refine store_event (t := 94) (p := 19) (v := ?vo_w16) (w1 := ((w12.setCell ⟨go8, (t310 : Int).toNat * 2, none⟩ (.string a1_0)).setCell ⟨go8, (t310 : Int).toNat * 2 + 1, none⟩ (.int .i64 a1_1))) ?hg ?ho ?hn ?hr ?_; (case ho => rfl); (case hg => rfl); (case hn => rfl); (case hr => first | (go_simp; done) | (go_simp; rfl)); intro w16 hw; have hg : w12.grownBy w16 (some go8) := (by rw [hw]; exact HP15.2); have hp_ : Kd.R k94 94 w16 w.heap.size (fun k_ => k_ ≠ gb303) (.slice (some ⟨go8, 0, none⟩) y307.length co14) y311 := (by rw [hw, Ny311.out]; exact HP15.1); clear HP15; replace BK303 := Aside0.mk (blk_grown (g := gb303) (o := .cells #[.string a1_0, .int .i64 a1_1] 94 (0, 0)) (zb BK303) hg (Kd.R_away HO309.out (fun _ hk => hk))); replace HO309 := Aside0.mk (hp_); replace HB := Aside0.mk ((by rw [hw]; exact below_set (below_set (HB.out) GB8.out) GB8.out : Below w.heap.size w w16)); clear hg hw hp_)); go_ret; exact ⟨_, by first | rfl | (simp [errW_none, errW_some] <;> rfl) | (simp [*, errW_none, errW_some] <;> rfl), by (with_reducible repeat (first | apply Kd.R_alloc | apply Kd.R_drewN | apply Kd.R_drew)); exact Kd.R_mono HO309.out (fun _ hk => trivial), zB HB⟩
    ·rw [if_neg c7] at H; exact absurd H (by simp)
   ·rw [if_neg c6] at H; exact absurd H (by simp)
  ·rw [if_neg c5] at H; have c5b0 : decide (0 ≤ t310) = false := decide_eq_false c5; clear c5
   by_cases c17 : y307.length < 5864062014805
   ·rw [if_pos c17] at H; have LMc17 := Aside0.mk c17; clear c17; obtain ⟨y312, hy312⟩ : ∃ y_ : List (S94), y_ = (y307 ++ [(⟨a1_0, a1_1⟩ : S94)]) := ⟨_, rfl⟩
    replace H : (some y312) = some r := by first | (rw [hy312]; with_reducible exact H) | (have H2_ := (Option.bind_some _ _).symm.trans H; rw [hy312]; with_reducible exact H2_) | (have H2_ := (Option.bind_some _ _).symm.trans H; with_reducible exact H2_) | with_reducible exact H | (rw [hy312]; exact H) | exact H
    have Ny312 := Aside0.mk hy312; clear hy312; obtain rfl := Option.some.inj H; go_enter Try.func104, Try.ntmps104; go_wp2_with (first | ((with_reducible refine gate_dst (N := 3) rfl ?_); refine zx (N := 3) (cs := #[.string a1_0, .int .i64 a1_1]) (t := 94) ?_; intro gb303 hg w18 hbox hb; have BK303 := Aside0.mk (hbox); have GW303 := Aside0.mk ((by rw [hg]; exact (below_size (zB HB)) : w.heap.size ≤ gb303)); have GE303 := GW303; replace HB := Aside0.mk (below_step (zB HB) hb); clear hb hbox hg) | ((with_reducible refine gate_dst (N := 7) rfl ?_); refine Kd.R_lit k94 _ 94 ?hg (N := 7) ?hd (xs := ([] : List (S94))) (inner := []) (ok := fun _ => True) (okp := fun _ => True) ?hr ?hp (fun _ hk => hk) trivial (Below.refl _ _) (Nat.le_refl _) (by simp) ?_; (case hd => rfl); (case hg => rfl); (case hr => first | (go_simp; done) | (go_simp; rfl)); (case hp => exact (Reps.none _ _)); intro v305 w19 ho20 hb hg_ hnew_; clear hg_ hnew_; (first | rw [← Ny304.out] at ho20 | (simp only [Int.reduceToNat] at ho20; rw [← Ny304.out] at ho20)); have HO306 := Aside0.mk (Kd.R_lower (Kd.R_newB ho20 (g := gb303) (o := .cells #[.string a1_0, .int .i64 a1_1] 94 (0, 0)) (zb BK303)) (below_size (zB HB))); replace BK303 := Aside0.mk (blk_below (g := gb303) (o := .cells #[.string a1_0, .int .i64 a1_1] 94 (0, 0)) (zb BK303) hb); replace HB := Aside0.mk (below_step (zB HB) hb); clear hb ho20) | ((with_reducible refine gate_builtin (b := .append) (xs := #[.tmp 7, .tmp 8]) rfl ?_); at_builtin; refine Kd.R_append_rows k94 (w0 := w) w.heap.size rfl (.tmp 7) (.tmp 8) 28 94 (.agg #[(.string ⟨#[]⟩), (.int .i64 0)]) 24 rfl Try.underlying28 info94 rfl (by decide) (by omega) v305 y304 l0 _ _ _ (fun k_ => k_ ≠ gb303) (fun _ => False) rfl rfl ?aO ?aR (fun _ _ h => h) (fun _ h => h.elim) ?aF ?aB ?aS ?aL ?_; (case aR => repeat (first | exact (Kd.C_below HR0.out HB.out) | (with_reducible refine Kd.C_alloc ?_ _) | (with_reducible refine Kd.C_drewN ?_ _) | (with_reducible refine Kd.C_drew ?_))); (case aB => exact (zB HB)); (case aF => exact (fun k_ hk => Kd.freshB (g := gb303) (o := .cells #[.string a1_0, .int .i64 a1_1] 94 (0, 0)) (zb BK303) k_ hk)); (case aO => exact (zmR HO306 (fun _ hk => hk.2))); (case aS => exact (below_size (zB HB))); (case aL => have := LMc3.out; omega); intro v308 w21 ho hb hg hat; rw [← Ny307.out] at ho; have n0_ := Aside0.mk (blk_grown (g := gb303) (o := .cells #[.string a1_0, .int .i64 a1_1] 94 (0, 0)) (zb BK303) hg (Kd.R_away HO306.out (fun _ hk => hk.2))); have n1_ := Aside0.mk (hb); have n2_ := Aside0.mk (ho); clear BK303; clear HB; clear HO306; have BK303 := n0_; have HB := n1_; have HO309 := n2_; clear n0_ n1_ n2_; clear ho hb hg hat; have hcz22_0 : w21.cell? ⟨gb303, 0, none⟩ = some (.string a1_0) := (blk_cell BK303.out 0).trans rfl; have hcz22_1 : w21.cell? ⟨gb303, 1, none⟩ = some (.int .i64 a1_1) := (blk_cell BK303.out 1).trans rfl; have hfz22_0 := blk_frozen BK303.out 0; have hfz22_1 := blk_frozen BK303.out 1; obtain ⟨Ao23, co23, eo23⟩ := Kd.R_slice HO309.out; subst eo23) | ((with_reducible refine gate_callee (f := 107) rfl ?_); refine goesL_ (some 13) rfl rfl Try.func107 (by kernel_rfl) rfl #[.slice Ao23 y307.length co23, .string a1_0] rfl zl ?_; (with_reducible refine (spec_pairAt.calls k _ _ y307 a1_0 t310 _ ?side1 ?side2 A4.out).mono ?_); (case side1 => repeat (first | exact (Kd.R_reads' HO309.out).2.2 | (with_reducible refine Kd.C_alloc ?_ _) | (with_reducible refine Kd.C_drewN ?_ _) | (with_reducible refine Kd.C_drew ?_))); (case side2 => exact (Kd.R_reads' HO309.out).2.1); rintro e w' ⟨rfl, ⟨nd, rfl⟩⟩; refine ⟨_, rfl, ?_⟩) | ((with_reducible refine gate_builtin (b := .append) (xs := #[.tmp 21, .tmp 23]) rfl ?_); at_builtin; refine Kd.R_append k94 (w0 := w) w.heap.size rfl (.tmp 21) (.tmp 23) 28 94 (.agg #[(.string ⟨#[]⟩), (.int .i64 0)]) 24 rfl Try.underlying28 info94 rfl (by decide) (by omega) (.slice Ao23 y307.length co23) y307 (⟨a1_0, a1_1⟩ : S94) [.string a1_0, .int .i64 a1_1] (fun k_ => k_ ≠ gb303) (fun _ => False) rfl rfl ?aP (fun _ hk => hk.elim) ?aF ?aO ?aB ?aS ?aL ?_; (case aP => exact k94_mkM _ _ _ (⟨a1_0, a1_1⟩ : S94)); (case aB => exact (zB HB)); (case aF => exact (fun k_ hk => Kd.freshB (g := gb303) (o := .cells #[.string a1_0, .int .i64 a1_1] 94 (0, 0)) (zb BK303) k_ hk)); (case aO => exact (zo HO309)); (case aS => exact (below_size (zB HB))); (case aL => have := LMc17.out; omega); intro v313 w24 ho hb hg hat; rw [← Ny312.out] at ho; have n0_ := Aside0.mk (blk_grown (g := gb303) (o := .cells #[.string a1_0, .int .i64 a1_1] 94 (0, 0)) (zb BK303) hg (Kd.R_away HO309.out (fun _ hk => hk))); have n1_ := Aside0.mk (hb); have n2_ := Aside0.mk (ho); clear BK303; clear HB; clear HO309; have BK303 := n0_; have HB := n1_; have HO314 := n2_; clear n0_ n1_ n2_; clear ho hb hg hat)); go_ret; exact ⟨_, by first | rfl | (simp [errW_none, errW_some] <;> rfl) | (simp [*, errW_none, errW_some] <;> rfl), by (with_reducible repeat (first | apply Kd.R_alloc | apply Kd.R_drewN | apply Kd.R_drew)); exact Kd.R_mono HO314.out (fun _ hk => trivial), zB HB⟩
   ·rw [if_neg c17] at H; exact absurd H (by simp)
 ·rw [if_neg c3] at H; exact absurd H (by simp)

end Go.Proofs.Ytkandhljbbolnaa.Q
