-- written by px.py and merge.py (programs of this claim's), over the kit's print. Not trusted: Lean checks it.
import Derived.Test.YtfcpbgedgedalaaQ0
import Derived.Test.YtfcpbgedgedalaaM1FnTurnSignature
import Derived.Test.YtfcpbgedgedalaaM2FnTurnSignature
namespace Go.Proofs.Ytfcpbgedgedalaa.Q
open Go.RowKit Go.Proofs.YtfcpbgedgedalaaL.PrintWords Go.Proofs.YtfcpbgedgedalaaL.PrintLast Go.Proofs.YtfcpbgedgedalaaL.PrintMore
attribute [local go_sem] max2_int min2_int max_two min_two max_three min_three max_four min_four   -- for this text's walks alone
set_option linter.unusedVariables false
set_option linter.unusedSimpArgs false

/-! ### spec_validParams: function 136 -/
mutual
def spec_validParams.l0 : Nat → List (S123) → Int → Option (Bool)
 | 0, _, _ => none
 | k + 1, x0, x3 => if x3 < (x0.length : Int) then (if 0 ≤ x3 then ((spec_validParam.f k ((rd_T123 x0 x3).f0) ((rd_T123 x0 x3).f1) ((rd_T123 x0 x3).f2) ((rd_T123 x0 x3).f3)).bind fun t982 => (if t982 = true then (if x3 ≤ (x0.length : Int) then ((spec_findParam.f k (x0.take (x3 : Int).toNat) ((rd_T123 x0 x3).f0)).bind fun t987 => (spec_validParams.j1 k x0 x3 (decide (t987 ≥ 0)) ((rd_T123 x0 x3).f0) ((rd_T123 x0 x3).f1) ((rd_T123 x0 x3).f2) ((rd_T123 x0 x3).f3))) else (none)) else (spec_validParams.j1 k x0 x3 true ((rd_T123 x0 x3).f0) ((rd_T123 x0 x3).f1) ((rd_T123 x0 x3).f2) ((rd_T123 x0 x3).f3)))) else (none)) else (some (decide ((x0.length : Int) ≤ 8)))
def spec_validParams.j1 : Nat → List (S123) → Int → Bool → ByteArray → Int → Bool → Int → Option (Bool)
 | 0, _, _, _, _, _, _, _ => none
 | k + 1, x0, x3, x27, x982000, x982001, x982002, x982003 => if x27 = true then (some false) else (if x3 = 0 then (spec_validParams.l0 k x0 (wrap64 (x3 + 1))) else (if 0 ≤ (wrap64 (x3 - 1)) then (if (wrap64 (x3 - 1)) < (x0.length : Int) then (if x982001 < ((rd_T123 x0 (wrap64 (x3 - 1))).f1) then (some false) else (if x982001 = ((rd_T123 x0 (wrap64 (x3 - 1))).f1) then ((spec_isSingle.f x982000 x982001 x982002 x982003).bind fun t990 => (if t990 = true then ((spec_byPlace.f x982000 x982001 x982002 x982003).bind fun t991 => (if t991 = true then (if (rd_T123 x0 (wrap64 (x3 - 1))).f2 = true then (if x982002 = true then (spec_validParams.l0 k x0 (wrap64 (x3 + 1))) else (some false)) else (spec_validParams.l0 k x0 (wrap64 (x3 + 1)))) else (spec_validParams.l0 k x0 (wrap64 (x3 + 1))))) else (some false))) else ((spec_byPlace.f x982000 x982001 x982002 x982003).bind fun t992 => (if t992 = true then (if (rd_T123 x0 (wrap64 (x3 - 1))).f2 = true then (if x982002 = true then (spec_validParams.l0 k x0 (wrap64 (x3 + 1))) else (some false)) else (spec_validParams.l0 k x0 (wrap64 (x3 + 1)))) else (spec_validParams.l0 k x0 (wrap64 (x3 + 1))))))) else (none)) else (none)))
end
def spec_validParams.f (k : Nat) (l0 : List (S123)) : Option (Bool) := spec_validParams.l0 k l0 0
theorem spec_validParams.mono_l : ∀ k, (∀ y0 y1, LeO (spec_validParams.l0 k y0 y1) (spec_validParams.l0 (k + 1) y0 y1)) ∧ (∀ y0 y1 y2 y3 y4 y5 y6, LeO (spec_validParams.j1 k y0 y1 y2 y3 y4 y5 y6) (spec_validParams.j1 (k + 1) y0 y1 y2 y3 y4 y5 y6))
 | 0 => ⟨fun _ _ r h => by simp [spec_validParams.l0] at h, fun _ _ _ _ _ _ _ r h => by simp [spec_validParams.j1] at h⟩
 | k + 1 => by
  obtain ⟨ih0, ih1⟩ := spec_validParams.mono_l k
  refine ⟨?_, ?_⟩
  all_goals intros
  all_goals (first | unfold spec_validParams.l0 | unfold spec_validParams.j1)
  all_goals repeat' first
   | (with_reducible exact ih0 _ _)
   | (with_reducible exact ih1 _ _ _ _ _ _ _)
   | (with_reducible exact spec_findParam.mono _ _ _)
   | (with_reducible exact spec_validParam.mono _ _ _ _ _)
   | (with_reducible exact LeO.refl _)
   | (with_reducible exact LeO.none _)
   | (with_reducible refine LeO.ite ?_ ?_)
   | (with_reducible refine LeO.bind ?_ (fun _ => ?_))
   | exact ih0 _ _
   | exact ih1 _ _ _ _ _ _ _
   | exact spec_findParam.mono _ _ _
   | exact spec_validParam.mono _ _ _ _ _
   | exact LeO.none _
   | refine LeO.ite ?_ ?_
   | refine LeO.bind ?_ (fun _ => ?_)
theorem spec_validParams.mono : ∀ a0 k, LeO (spec_validParams.f k a0) (spec_validParams.f (k + 1) a0) := by
 intro a0 k
 obtain ⟨ih0, ih1⟩ := spec_validParams.mono_l k
 unfold spec_validParams.f
 repeat' first
   | (with_reducible exact ih0 _ _)
   | (with_reducible exact ih1 _ _ _ _ _ _ _)
   | (with_reducible exact spec_findParam.mono _ _ _)
   | (with_reducible exact spec_validParam.mono _ _ _ _ _)
   | (with_reducible exact LeO.refl _)
   | (with_reducible exact LeO.none _)
   | (with_reducible refine LeO.ite ?_ ?_)
   | (with_reducible refine LeO.bind ?_ (fun _ => ?_))
   | exact ih0 _ _
   | exact ih1 _ _ _ _ _ _ _
   | exact spec_findParam.mono _ _ _
   | exact spec_validParam.mono _ _ _ _ _
   | exact LeO.none _
   | refine LeO.ite ?_ ?_
   | refine LeO.bind ?_ (fun _ => ?_)
def spec_validParams.T5 : Bool × List (List Nat × List Nat) := (true, [([], []), ([0], [0]), ([1], [1]), ([2, 1], [2]), ([3], [3]), ([3], [3]), ([4, 5, 3], [3, 4, 5]), ([3], [3]), ([7, 3], [3, 7]), ([6, 8, 3, 3], [3, 6, 8]), ([9, 3], [3, 9]), ([3, 10], [3, 10])])
def spec_validParams.B5 : List Nat := [0, 1, 3, 7, 15, 15, 63, 15, 143, 511, 1023, 2047]
theorem spec_validParams.tab5 : rtab .any (opsOf Try.f136 5) = spec_validParams.T5 := by kernel_rfl
theorem spec_validParams.bits5 : waitsOk spec_validParams.T5.2 spec_validParams.B5 = true := by kernel_rfl
set_option maxHeartbeats 8000000 in
set_option maxRecDepth 100000 in
theorem spec_validParams.calls (k : Nat) (A0 : Option Addr) (c0 : Nat) (l0 : List (S123)) (r : Bool) (w : World) (hr0 : Kd.C k123 w A0 l0.length l0) (hc0 : l0.length ≤ c0) (h : spec_validParams.f k l0 = some r) :
  Calls Try.prog 136 #[.slice A0 l0.length c0] w fun e w' => e = .returned (.bool r) ∧ Below w.heap.size w w' := by
 have hu123 := Try.underlying123
 have HR0 := Aside0.mk hr0
 have HC0 := Aside0.mk hc0
 clear hr0 hc0
 have HB := Aside0.mk (Below.refl w.heap.size w)
 have H : (spec_validParams.l0 k l0 0) = some r := h
 clear h
 have H' := Aside0.mk H
 clear H
 go_enter Try.func136, Try.ntmps136
 go_wp2
 go_loopg [3] k (fun kq v3 w' => ∃ (x3_1 : Int), v3 = .int .i64 x3_1 ∧ Aside0 (spec_validParams.l0 kq l0 x3_1 = some r) ∧ Aside0 (kq ≤ k) ∧ Aside0 (Below w.heap.size w w'))
 case atStart => exact ⟨(0), zr, H', ⟨Nat.le_refl _⟩, ⟨zB HB⟩⟩
 case round =>
  clear H'
  try clear c1
  obtain ⟨x3_1, rfl, HA, HK1, HB⟩ := hrel
  cases gk with
  | zero => exact absurd HA.out (by simp [spec_validParams.l0])
  | succ k1 =>
   have H := HA.out
   clear HA
   simp only [spec_validParams.l0] at H
   by_cases c2 : x3_1 < (l0.length : Int)
   ·rw [if_pos c2] at H
    have c2b0 : decide (x3_1 < (l0.length : Int)) = true := decide_eq_true c2
    clear c2
    by_cases c3 : 0 ≤ x3_1
    ·rw [if_pos c3] at H
     have c3b0 : decide (0 ≤ x3_1) = true := decide_eq_true c3
     clear c3
     have HC4 := Aside0.mk H
     clear H
     have p980 : 0 ≤ (x3_1 : Int) := of_decide_eq_true za
     have q980 : x3_1 < (l0.length : Int) := of_decide_eq_true za
     obtain ⟨ad980, e980, hx980_0, hx980_1, hx980_2, hx980_3⟩ := at_T123 HR0.out x3_1 p980 q980
     cases e980
     replace hx980_0 := (HB.out.cell (World.block_lt_of_cell? w _ hx980_0)).trans hx980_0
     replace hx980_1 := (HB.out.cell (World.block_lt_of_cell? w _ hx980_1)).trans hx980_1
     replace hx980_2 := (HB.out.cell (World.block_lt_of_cell? w _ hx980_2)).trans hx980_2
     replace hx980_3 := (HB.out.cell (World.block_lt_of_cell? w _ hx980_3)).trans hx980_3
     replace p980 := eq_true p980
     replace q980 := eq_true q980
     go_upto_region 5 with (first | ((with_reducible refine gate_dst (N := 4) rfl ?_); refine box_event ?hg (N := 4) ?hd (cs := #[.string (⟨#[]⟩ : ByteArray), .int .i64 0, .bool false, .int .i64 0]) (t := 123) ?hr ?_; (case hd => rfl); (case hg => rfl); (case hr => first | (go_simp; done) | (go_simp; rfl)); intro gb981 hg w5 hbox hb; have BK981 := Aside0.mk (hbox); have GW981 := Aside0.mk ((by rw [hg]; exact (below_size (zB HB)) : w.heap.size ≤ gb981)); have GE981 := Aside0.mk ((by rw [hg]; exact (below_size (zB HB)) : w.heap.size ≤ gb981)); replace HB := Aside0.mk (below_step (zB HB) hb); clear hb hbox hg; have hcz6_0 : w5.cell? ⟨gb981, 0, none⟩ = some (.string (⟨#[]⟩ : ByteArray)) := (blk_cell BK981.out 0).trans rfl; have hcz6_1 : w5.cell? ⟨gb981, 1, none⟩ = some (.int .i64 0) := (blk_cell BK981.out 1).trans rfl; have hcz6_2 : w5.cell? ⟨gb981, 2, none⟩ = some (.bool false) := (blk_cell BK981.out 2).trans rfl; have hcz6_3 : w5.cell? ⟨gb981, 3, none⟩ = some (.int .i64 0) := (blk_cell BK981.out 3).trans rfl; have hfz6_0 := blk_frozen BK981.out 0; have hfz6_1 := blk_frozen BK981.out 1; have hfz6_2 := blk_frozen BK981.out 2; have hfz6_3 := blk_frozen BK981.out 3))
     (try simp only [Act.put, List.setIfInBounds_toArray, List.set_cons_zero, List.set_cons_succ])
     go_cut [27] (fun v27 wc => ∃ (kq : Nat) (x27_3 : Bool), v27 = .bool x27_3 ∧ Aside0 (spec_validParams.j1 kq l0 x3_1 x27_3 ((rd_T123 l0 x3_1).f0) ((rd_T123 l0 x3_1).f1) ((rd_T123 l0 x3_1).f2) ((rd_T123 l0 x3_1).f3) = some r) ∧ Aside0 (kq ≤ k1) ∧ Aside0 (wc.heap[gb981]? = some (.cells #[.string ((rd_T123 l0 x3_1).f0), .int .i64 ((rd_T123 l0 x3_1).f1), .bool ((rd_T123 l0 x3_1).f2), .int .i64 ((rd_T123 l0 x3_1).f3)] 123 (0, 0))) ∧ Aside0 (Below w.heap.size w wc))
     case first =>
      have H := HC4.out
      clear HC4
      replace H := Option.bind_eq_some_iff.mp H
      obtain ⟨t982, A70, H⟩ := H
      (try dsimp only at H)
      have A7 := Aside0.mk A70
      clear A70
      by_cases c8 : t982 = true
      ·subst c8
       rw [if_pos rfl] at H
       have c9b0 := eq_true (of_decide_eq_true za : 0 ≤ x3_1)
       by_cases c10 : x3_1 ≤ (l0.length : Int)
       ·rw [if_pos c10] at H
        have c10b0 := eq_true c10
        have c10b1 : decide (x3_1 ≤ (l0.length : Int)) = true := decide_eq_true c10
        clear c10
        obtain ⟨y983, hy983⟩ : ∃ y_ : List (S123), y_ = (l0.take (x3_1 : Int).toNat) := ⟨_, rfl⟩
        replace H : ((spec_findParam.f k1 y983 ((rd_T123 l0 x3_1).f0)).bind fun t987 => (spec_validParams.j1 k1 l0 x3_1 (decide (t987 ≥ 0)) ((rd_T123 l0 x3_1).f0) ((rd_T123 l0 x3_1).f1) ((rd_T123 l0 x3_1).f2) ((rd_T123 l0 x3_1).f3))) = some r := by first | (rw [hy983]; with_reducible exact H) | (have H2_ := (Option.bind_some _ _).symm.trans H; rw [hy983]; with_reducible exact H2_) | (have H2_ := (Option.bind_some _ _).symm.trans H; with_reducible exact H2_) | with_reducible exact H | (rw [hy983]; exact H) | exact H
        have Ny983 := Aside0.mk hy983
        clear hy983
        replace H := Option.bind_eq_some_iff.mp H
        obtain ⟨t987, A110, H⟩ := H
        (try dsimp only at H)
        have A11 := Aside0.mk A110
        clear A110
        have H' := Aside0.mk H
        clear H
        try go_wp2
        have n0_ : Aside0 (((((w5.setCell ⟨gb981, 0, none⟩ (.string ((rd_T123 l0 x3_1).f0))).setCell ⟨gb981, 1, none⟩ (.int .i64 ((rd_T123 l0 x3_1).f1))).setCell ⟨gb981, 2, none⟩ (.bool ((rd_T123 l0 x3_1).f2))).setCell ⟨gb981, 3, none⟩ (.int .i64 ((rd_T123 l0 x3_1).f3))).heap[gb981]? = some (.cells #[.string ((rd_T123 l0 x3_1).f0), .int .i64 ((rd_T123 l0 x3_1).f1), .bool ((rd_T123 l0 x3_1).f2), .int .i64 ((rd_T123 l0 x3_1).f3)] 123 (0, 0))) := ⟨by (with_reducible repeat (first | refine blk_drewN ?_ _ | refine blk_drew ?_ | refine blk_alloc ?_ _)); refine blk_put (cs := #[.string ((rd_T123 l0 x3_1).f0), .int .i64 ((rd_T123 l0 x3_1).f1), .bool ((rd_T123 l0 x3_1).f2), .int .i64 0]) ?_ 3 _ rfl; (with_reducible repeat (first | refine blk_drewN ?_ _ | refine blk_drew ?_ | refine blk_alloc ?_ _)); refine blk_put (cs := #[.string ((rd_T123 l0 x3_1).f0), .int .i64 ((rd_T123 l0 x3_1).f1), .bool false, .int .i64 0]) ?_ 2 _ rfl; (with_reducible repeat (first | refine blk_drewN ?_ _ | refine blk_drew ?_ | refine blk_alloc ?_ _)); refine blk_put (cs := #[.string ((rd_T123 l0 x3_1).f0), .int .i64 0, .bool false, .int .i64 0]) ?_ 1 _ rfl; (with_reducible repeat (first | refine blk_drewN ?_ _ | refine blk_drew ?_ | refine blk_alloc ?_ _)); refine blk_put (cs := #[.string (⟨#[]⟩ : ByteArray), .int .i64 0, .bool false, .int .i64 0]) ?_ 0 _ rfl; (with_reducible repeat (first | refine blk_drewN ?_ _ | refine blk_drew ?_ | refine blk_alloc ?_ _)); exact BK981.out⟩
        have n1_ : Aside0 (Below w.heap.size w ((((w5.setCell ⟨gb981, 0, none⟩ (.string ((rd_T123 l0 x3_1).f0))).setCell ⟨gb981, 1, none⟩ (.int .i64 ((rd_T123 l0 x3_1).f1))).setCell ⟨gb981, 2, none⟩ (.bool ((rd_T123 l0 x3_1).f2))).setCell ⟨gb981, 3, none⟩ (.int .i64 ((rd_T123 l0 x3_1).f3)))) := ⟨zB HB⟩
        (try clear BK981)
        (try clear HB)
        generalize ((((w5.setCell ⟨gb981, 0, none⟩ (.string ((rd_T123 l0 x3_1).f0))).setCell ⟨gb981, 1, none⟩ (.int .i64 ((rd_T123 l0 x3_1).f1))).setCell ⟨gb981, 2, none⟩ (.bool ((rd_T123 l0 x3_1).f2))).setCell ⟨gb981, 3, none⟩ (.int .i64 ((rd_T123 l0 x3_1).f3))) = w12 at n0_ n1_ ⊢
        have BK981 := n0_
        have HB := n1_
        clear n0_ n1_
        replace BK981 := Aside0.mk (blk_drew BK981.out)
        replace HB := Aside0.mk (below_drew1 HB.out)
        refine start_ (n := 12) (S := fun w' => w'.cell? ⟨gb981, 0, none⟩ = some (.string ((rd_T123 l0 x3_1).f0)) ∧ w'.cell? ⟨gb981, 1, none⟩ = some (.int .i64 ((rd_T123 l0 x3_1).f1)) ∧ w'.cell? ⟨gb981, 2, none⟩ = some (.bool ((rd_T123 l0 x3_1).f2)) ∧ w'.cell? ⟨gb981, 3, none⟩ = some (.int .i64 ((rd_T123 l0 x3_1).f3))) (ds := []) #[false, false, false, false, false, false, false, false, false, false, false, false] (by kernel_rfl) rfl rfl ⟨(blk_cell BK981.out 0).trans rfl, (blk_cell BK981.out 1).trans rfl, (blk_cell BK981.out 2).trans rfl, (blk_cell BK981.out 3).trans rfl⟩ (fun hHeld => ?_); refine with_tabW spec_validParams.tab5 spec_validParams.bits5 (fun HT_ HW_ => ?_)
        generalize w12.drew = w13 at BK981 HB hHeld ⊢
        refine take_ (i := 0) (N := some 16) (v := ?_) (a' := ?_) #[true, false, false, false, false, false, false, false, false, false, false, false] rfl rfl (take_ofW HT_.out HW_.out (by kernel_rfl)) (fun _ _ _ h => h) (Or.inl ⟨by rfl, ?_⟩) hHeld ?_ ?_
        rotate_left
        ·rintro w' ⟨s0, s1, s2, s3⟩
         go_simp
         with_reducible rfl
        rotate_left
        ·simp only [Act.put, List.setIfInBounds_toArray, List.set_cons_zero, List.set_cons_succ, i64_w, i32_w]
         rfl
        refine one_ (i := 1) (N := some 17) #[true, true, false, false, false, false, false, false, false, false, false, false] rfl rfl (one_of HT_.out (by kernel_rfl)) (by decide) (fun K hK => ?_)
        refine goes_ Try.func150 (by kernel_rfl) rfl #[.agg #[.string ((rd_T123 l0 x3_1).f0), .int .i64 ((rd_T123 l0 x3_1).f1), .bool ((rd_T123 l0 x3_1).f2), .int .i64 ((rd_T123 l0 x3_1).f3)]] (by rfl) rfl rfl zl ?_
        with_reducible refine (spec_validParam.calls k1 ((rd_T123 l0 x3_1).f0) ((rd_T123 l0 x3_1).f1) ((rd_T123 l0 x3_1).f2) ((rd_T123 l0 x3_1).f3) true _ A7.out).mono ?_
        rintro e w14 ⟨rfl, hb⟩
        refine ⟨_, rfl, ?_⟩
        replace BK981 := Aside0.mk (blk_below (g := gb981) (o := .cells #[.string ((rd_T123 l0 x3_1).f0), .int .i64 ((rd_T123 l0 x3_1).f1), .bool ((rd_T123 l0 x3_1).f2), .int .i64 ((rd_T123 l0 x3_1).f3)] 123 (0, 0)) (zb BK981) hb)
        replace HB := Aside0.mk (below_step (zB HB) hb)
        (try clear hb)
        (try clear hb2)
        (try clear hk)
        (try clear hi)
        have q15 : (x3_1 : Int) ≤ ((l0.length : Int) : Int) := of_decide_eq_true za
        obtain ⟨i015, hi015, _, hsz15, _⟩ := info_parts info123
        have hroom15 : l0.length ≤ c0 := HC0.out
        have hC15 : Kd.C k123 _ (some ad980) l0.length l0 := HR0.out
        have hcut15 := cut_to (P := Try.prog) 69 123 .i64 Try.underlying69 hi015 (some ad980) l0.length c0 x3_1 (of_decide_eq_true za) q15 hroom15
        have hr15 := Kd.C_take (m := (x3_1 : Int).toNat) hC15 (by omega)
        have hy15 : y983.length = (x3_1 : Int).toNat := (by rw [Ny983.out, List.length_take]; omega)
        rw [← Ny983.out] at hr15
        rw [← hy15] at hcut15
        have HR986 := Aside0.mk hr15
        have HC986 := Aside0.mk (show y983.length ≤ c0 from by omega)
        clear hr15 hC15 hroom15 hi015 hsz15
        have KY15 := Aside0.mk hy15
        clear hy15
        replace q15 := eq_true q15
        refine hK.out _ _ ⟨(blk_cell BK981.out 0).trans rfl, (blk_cell BK981.out 1).trans rfl, (blk_cell BK981.out 2).trans rfl, (blk_cell BK981.out 3).trans rfl⟩ (fun hHeld => ?_)
        clear hK K
        refine norm_ (a' := ?_) ?_ ?_
        rotate_left
        ·show Act.put _ (some 17) _ = _
         simp only [Act.put, List.setIfInBounds_toArray, List.set_cons_zero, List.set_cons_succ, i64_w, i32_w]
         rfl
        refine pure_ (i := 2) (N := some 18) (v := ?_) (a' := ?_) #[true, true, true, false, false, false, false, false, false, false, false, false] rfl rfl (any_of HT_.out (by kernel_rfl)) (fun _ _ _ h => h) (Or.inl ⟨by rfl, ?_⟩) ?_ ?_
        rotate_left
        ·intro w'
         go_simp
         with_reducible rfl
        rotate_left
        ·simp only [Act.put, List.setIfInBounds_toArray, List.set_cons_zero, List.set_cons_succ, i64_w, i32_w]
         rfl
        refine pure_ (i := 3) (N := some 19) (v := ?_) (a' := ?_) #[true, true, true, true, false, false, false, false, false, false, false, false] rfl rfl (any_of HT_.out (by kernel_rfl)) (fun _ _ _ h => h) (Or.inl ⟨by rfl, ?_⟩) ?_ ?_
        rotate_left
        ·intro w'
         go_simp
         with_reducible rfl
        rotate_left
        ·simp only [Act.put, List.setIfInBounds_toArray, List.set_cons_zero, List.set_cons_succ, i64_w, i32_w]
         rfl
        refine pure_ (i := 4) (N := some 20) (v := ?_) (a' := ?_) #[true, true, true, true, true, false, false, false, false, false, false, false] rfl rfl (any_of HT_.out (by kernel_rfl)) (fun _ _ _ h => h) (Or.inl ⟨by rfl, ?_⟩) ?_ ?_
        rotate_left
        ·intro w'
         go_simp
         with_reducible rfl
        rotate_left
        ·simp only [Act.put, List.setIfInBounds_toArray, List.set_cons_zero, List.set_cons_succ, i64_w, i32_w]
         rfl
        refine pure_ (i := 5) (N := some 21) (v := ?_) (a' := ?_) #[true, true, true, true, true, true, false, false, false, false, false, false] rfl rfl (any_of HT_.out (by kernel_rfl)) (fun _ _ _ h => h) (Or.inl ⟨by rfl, ?_⟩) ?_ ?_
        rotate_left
        ·intro w'
         go_simp
         with_reducible rfl
        rotate_left
        ·simp only [Act.put, List.setIfInBounds_toArray, List.set_cons_zero, List.set_cons_succ, i64_w, i32_w]
         rfl
        refine pure_ (i := 6) (N := some 22) (v := ?_) (a' := ?_) #[true, true, true, true, true, true, true, false, false, false, false, false] rfl rfl (any_of HT_.out (by kernel_rfl)) (fun _ _ _ h => h) (Or.inl ⟨by rfl, ?_⟩) ?_ ?_
        rotate_left
        ·intro w'
         go_simp
         with_reducible rfl
        rotate_left
        ·simp only [Act.put, List.setIfInBounds_toArray, List.set_cons_zero, List.set_cons_succ, i64_w, i32_w]
         rfl
        refine pure_ (i := 7) (N := some 23) (v := ?_) (a' := ?_) #[true, true, true, true, true, true, true, true, false, false, false, false] rfl rfl (any_of HT_.out (by kernel_rfl)) (fun _ _ _ h => h) (Or.inl ⟨by rfl, ?_⟩) ?_ ?_
        rotate_left
        ·intro w'
         go_simp
         with_reducible rfl
        rotate_left
        ·simp only [Act.put, List.setIfInBounds_toArray, List.set_cons_zero, List.set_cons_succ, i64_w, i32_w]
         rfl
        refine take_ (i := 8) (N := some 24) (v := ?_) (a' := ?_) #[true, true, true, true, true, true, true, true, true, false, false, false] rfl rfl (take_ofW HT_.out HW_.out (by kernel_rfl)) (fun _ _ _ h => h) (Or.inl ⟨by rfl, ?_⟩) hHeld ?_ ?_
        rotate_left
        ·rintro w' ⟨s0, s1, s2, s3⟩
         go_simp
         with_reducible rfl
        rotate_left
        ·simp only [Act.put, List.setIfInBounds_toArray, List.set_cons_zero, List.set_cons_succ, i64_w, i32_w]
         rfl
        refine one_ (i := 9) (N := some 25) #[true, true, true, true, true, true, true, true, true, true, false, false] rfl rfl (one_of HT_.out (by kernel_rfl)) (by decide) (fun K hK => ?_)
        refine goes_ Try.func151 (by kernel_rfl) rfl #[.slice (some ad980) y983.length c0, .string ((rd_T123 l0 x3_1).f0)] (by rfl) rfl rfl zl ?_
        with_reducible refine (spec_findParam.calls k1 _ _ y983 ((rd_T123 l0 x3_1).f0) t987 _ ?side1 ?side2 A11.out).mono ?_
        (case side1 => repeat (first | exact (Kd.C_below HR986.out HB.out) | (with_reducible refine Kd.C_alloc ?_ _) | (with_reducible refine Kd.C_drewN ?_ _) | (with_reducible refine Kd.C_drew ?_)))
        (case side2 => exact HC986.out)
        rintro e w' ⟨rfl, ⟨nd, rfl⟩⟩
        refine ⟨_, rfl, ?_⟩
        refine hK.out _ _ ⟨(blk_cell BK981.out 0).trans rfl, (blk_cell BK981.out 1).trans rfl, (blk_cell BK981.out 2).trans rfl, (blk_cell BK981.out 3).trans rfl⟩ (fun hHeld => ?_)
        clear hK K
        refine norm_ (a' := ?_) ?_ ?_
        rotate_left
        ·show Act.put _ (some 25) _ = _
         simp only [Act.put, List.setIfInBounds_toArray, List.set_cons_zero, List.set_cons_succ, i64_w, i32_w]
         rfl
        refine pure_ (i := 10) (N := some 26) (v := ?_) (a' := ?_) #[true, true, true, true, true, true, true, true, true, true, true, false] rfl rfl (any_of HT_.out (by kernel_rfl)) (fun _ _ _ h => h) (Or.inl ⟨by rfl, ?_⟩) ?_ ?_
        rotate_left
        ·intro w'
         go_simp
         with_reducible rfl
        rotate_left
        ·simp only [Act.put, List.setIfInBounds_toArray, List.set_cons_zero, List.set_cons_succ, i64_w, i32_w]
         rfl
        refine pure_ (i := 11) (N := some 27) (v := ?_) (a' := ?_) #[true, true, true, true, true, true, true, true, true, true, true, true] rfl rfl (any_of HT_.out (by kernel_rfl)) (fun _ _ _ h => h) (Or.inl ⟨by rfl, ?_⟩) ?_ ?_
        rotate_left
        ·intro w'
         go_simp
         with_reducible rfl
        rotate_left
        ·simp only [Act.put, List.setIfInBounds_toArray, List.set_cons_zero, List.set_cons_succ, i64_w, i32_w]
         rfl
        refine done_ (done_of HT_.out (by kernel_rfl)) ?_
        try go_wp2
        go_meet
        case rel => exact ⟨_, (decide (t987 ≥ 0)), zr, H', ⟨by have := HK1.out; first | omega | exact Nat.le_refl _⟩, ⟨zb BK981⟩, ⟨zB HB⟩⟩
       ·rw [if_neg c10] at H
        exact absurd H (by simp)
      ·replace c8 := Bool.eq_false_iff.mpr c8
       subst c8
       rw [if_neg (show ¬ (false = true) by decide)] at H
       have H' := Aside0.mk H
       clear H
       try go_wp2
       have n0_ : Aside0 (((((w5.setCell ⟨gb981, 0, none⟩ (.string ((rd_T123 l0 x3_1).f0))).setCell ⟨gb981, 1, none⟩ (.int .i64 ((rd_T123 l0 x3_1).f1))).setCell ⟨gb981, 2, none⟩ (.bool ((rd_T123 l0 x3_1).f2))).setCell ⟨gb981, 3, none⟩ (.int .i64 ((rd_T123 l0 x3_1).f3))).heap[gb981]? = some (.cells #[.string ((rd_T123 l0 x3_1).f0), .int .i64 ((rd_T123 l0 x3_1).f1), .bool ((rd_T123 l0 x3_1).f2), .int .i64 ((rd_T123 l0 x3_1).f3)] 123 (0, 0))) := ⟨by (with_reducible repeat (first | refine blk_drewN ?_ _ | refine blk_drew ?_ | refine blk_alloc ?_ _)); refine blk_put (cs := #[.string ((rd_T123 l0 x3_1).f0), .int .i64 ((rd_T123 l0 x3_1).f1), .bool ((rd_T123 l0 x3_1).f2), .int .i64 0]) ?_ 3 _ rfl; (with_reducible repeat (first | refine blk_drewN ?_ _ | refine blk_drew ?_ | refine blk_alloc ?_ _)); refine blk_put (cs := #[.string ((rd_T123 l0 x3_1).f0), .int .i64 ((rd_T123 l0 x3_1).f1), .bool false, .int .i64 0]) ?_ 2 _ rfl; (with_reducible repeat (first | refine blk_drewN ?_ _ | refine blk_drew ?_ | refine blk_alloc ?_ _)); refine blk_put (cs := #[.string ((rd_T123 l0 x3_1).f0), .int .i64 0, .bool false, .int .i64 0]) ?_ 1 _ rfl; (with_reducible repeat (first | refine blk_drewN ?_ _ | refine blk_drew ?_ | refine blk_alloc ?_ _)); refine blk_put (cs := #[.string (⟨#[]⟩ : ByteArray), .int .i64 0, .bool false, .int .i64 0]) ?_ 0 _ rfl; (with_reducible repeat (first | refine blk_drewN ?_ _ | refine blk_drew ?_ | refine blk_alloc ?_ _)); exact BK981.out⟩
       have n1_ : Aside0 (Below w.heap.size w ((((w5.setCell ⟨gb981, 0, none⟩ (.string ((rd_T123 l0 x3_1).f0))).setCell ⟨gb981, 1, none⟩ (.int .i64 ((rd_T123 l0 x3_1).f1))).setCell ⟨gb981, 2, none⟩ (.bool ((rd_T123 l0 x3_1).f2))).setCell ⟨gb981, 3, none⟩ (.int .i64 ((rd_T123 l0 x3_1).f3)))) := ⟨zB HB⟩
       (try clear BK981)
       (try clear HB)
       generalize ((((w5.setCell ⟨gb981, 0, none⟩ (.string ((rd_T123 l0 x3_1).f0))).setCell ⟨gb981, 1, none⟩ (.int .i64 ((rd_T123 l0 x3_1).f1))).setCell ⟨gb981, 2, none⟩ (.bool ((rd_T123 l0 x3_1).f2))).setCell ⟨gb981, 3, none⟩ (.int .i64 ((rd_T123 l0 x3_1).f3))) = w16 at n0_ n1_ ⊢
       have BK981 := n0_
       have HB := n1_
       clear n0_ n1_
       replace BK981 := Aside0.mk (blk_drew BK981.out)
       replace HB := Aside0.mk (below_drew1 HB.out)
       refine start_ (n := 12) (S := fun w' => w'.cell? ⟨gb981, 0, none⟩ = some (.string ((rd_T123 l0 x3_1).f0)) ∧ w'.cell? ⟨gb981, 1, none⟩ = some (.int .i64 ((rd_T123 l0 x3_1).f1)) ∧ w'.cell? ⟨gb981, 2, none⟩ = some (.bool ((rd_T123 l0 x3_1).f2)) ∧ w'.cell? ⟨gb981, 3, none⟩ = some (.int .i64 ((rd_T123 l0 x3_1).f3))) (ds := []) #[false, false, false, false, false, false, false, false, false, false, false, false] (by kernel_rfl) rfl rfl ⟨(blk_cell BK981.out 0).trans rfl, (blk_cell BK981.out 1).trans rfl, (blk_cell BK981.out 2).trans rfl, (blk_cell BK981.out 3).trans rfl⟩ (fun hHeld => ?_); refine with_tabW spec_validParams.tab5 spec_validParams.bits5 (fun HT_ HW_ => ?_)
       generalize w16.drew = w17 at BK981 HB hHeld ⊢
       refine take_ (i := 0) (N := some 16) (v := ?_) (a' := ?_) #[true, false, false, false, false, false, false, false, false, false, false, false] rfl rfl (take_ofW HT_.out HW_.out (by kernel_rfl)) (fun _ _ _ h => h) (Or.inl ⟨by rfl, ?_⟩) hHeld ?_ ?_
       rotate_left
       ·rintro w' ⟨s0, s1, s2, s3⟩
        go_simp
        with_reducible rfl
       rotate_left
       ·simp only [Act.put, List.setIfInBounds_toArray, List.set_cons_zero, List.set_cons_succ, i64_w, i32_w]
        rfl
       refine one_ (i := 1) (N := some 17) #[true, true, false, false, false, false, false, false, false, false, false, false] rfl rfl (one_of HT_.out (by kernel_rfl)) (by decide) (fun K hK => ?_)
       refine goes_ Try.func150 (by kernel_rfl) rfl #[.agg #[.string ((rd_T123 l0 x3_1).f0), .int .i64 ((rd_T123 l0 x3_1).f1), .bool ((rd_T123 l0 x3_1).f2), .int .i64 ((rd_T123 l0 x3_1).f3)]] (by rfl) rfl rfl zl ?_
       with_reducible refine (spec_validParam.calls k1 ((rd_T123 l0 x3_1).f0) ((rd_T123 l0 x3_1).f1) ((rd_T123 l0 x3_1).f2) ((rd_T123 l0 x3_1).f3) false _ A7.out).mono ?_
       rintro e w18 ⟨rfl, hb⟩
       refine ⟨_, rfl, ?_⟩
       replace BK981 := Aside0.mk (blk_below (g := gb981) (o := .cells #[.string ((rd_T123 l0 x3_1).f0), .int .i64 ((rd_T123 l0 x3_1).f1), .bool ((rd_T123 l0 x3_1).f2), .int .i64 ((rd_T123 l0 x3_1).f3)] 123 (0, 0)) (zb BK981) hb)
       replace HB := Aside0.mk (below_step (zB HB) hb)
       (try clear hb)
       (try clear hb2)
       (try clear hk)
       (try clear hi)
       refine hK.out _ _ ⟨(blk_cell BK981.out 0).trans rfl, (blk_cell BK981.out 1).trans rfl, (blk_cell BK981.out 2).trans rfl, (blk_cell BK981.out 3).trans rfl⟩ (fun hHeld => ?_)
       clear hK K
       refine norm_ (a' := ?_) ?_ ?_
       rotate_left
       ·show Act.put _ (some 17) _ = _
        simp only [Act.put, List.setIfInBounds_toArray, List.set_cons_zero, List.set_cons_succ, i64_w, i32_w]
        rfl
       refine pure_ (i := 2) (N := some 18) (v := ?_) (a' := ?_) #[true, true, true, false, false, false, false, false, false, false, false, false] rfl rfl (any_of HT_.out (by kernel_rfl)) (fun _ _ _ h => h) (Or.inl ⟨by rfl, ?_⟩) ?_ ?_
       rotate_left
       ·intro w'
        go_simp
        with_reducible rfl
       rotate_left
       ·simp only [Act.put, List.setIfInBounds_toArray, List.set_cons_zero, List.set_cons_succ, i64_w, i32_w]
        rfl
       refine pure_ (i := 3) (N := some 19) (v := ?_) (a' := ?_) #[true, true, true, true, false, false, false, false, false, false, false, false] rfl rfl (any_of HT_.out (by kernel_rfl)) (fun _ _ _ h => h) (Or.inl ⟨by rfl, ?_⟩) ?_ ?_
       rotate_left
       ·intro w'
        go_simp
        with_reducible rfl
       rotate_left
       ·simp only [Act.put, List.setIfInBounds_toArray, List.set_cons_zero, List.set_cons_succ, i64_w, i32_w]
        rfl
       refine pure_ (i := 4) (N := some 20) (v := undef) (a' := ?_) #[true, true, true, true, true, false, false, false, false, false, false, false] rfl rfl (any_of HT_.out (by kernel_rfl)) (fun _ _ _ h => h) (Or.inr ⟨by rfl, rfl⟩) ?_ ?_
       rotate_left
       ·simp only [Act.put, List.setIfInBounds_toArray, List.set_cons_zero, List.set_cons_succ, i64_w, i32_w]
        rfl
       refine pure_ (i := 5) (N := some 21) (v := undef) (a' := ?_) #[true, true, true, true, true, true, false, false, false, false, false, false] rfl rfl (any_of HT_.out (by kernel_rfl)) (fun _ _ _ h => h) (Or.inr ⟨by rfl, rfl⟩) ?_ ?_
       rotate_left
       ·simp only [Act.put, List.setIfInBounds_toArray, List.set_cons_zero, List.set_cons_succ, i64_w, i32_w]
        rfl
       refine pure_ (i := 6) (N := some 22) (v := undef) (a' := ?_) #[true, true, true, true, true, true, true, false, false, false, false, false] rfl rfl (any_of HT_.out (by kernel_rfl)) (fun _ _ _ h => h) (Or.inr ⟨by rfl, rfl⟩) ?_ ?_
       rotate_left
       ·simp only [Act.put, List.setIfInBounds_toArray, List.set_cons_zero, List.set_cons_succ, i64_w, i32_w]
        rfl
       refine pure_ (i := 7) (N := some 23) (v := undef) (a' := ?_) #[true, true, true, true, true, true, true, true, false, false, false, false] rfl rfl (any_of HT_.out (by kernel_rfl)) (fun _ _ _ h => h) (Or.inr ⟨by rfl, rfl⟩) ?_ ?_
       rotate_left
       ·simp only [Act.put, List.setIfInBounds_toArray, List.set_cons_zero, List.set_cons_succ, i64_w, i32_w]
        rfl
       refine pure_ (i := 8) (N := some 24) (v := undef) (a' := ?_) #[true, true, true, true, true, true, true, true, true, false, false, false] rfl rfl (any_of HT_.out (by kernel_rfl)) (fun _ _ _ h => h) (Or.inr ⟨by rfl, rfl⟩) ?_ ?_
       rotate_left
       ·simp only [Act.put, List.setIfInBounds_toArray, List.set_cons_zero, List.set_cons_succ, i64_w, i32_w]
        rfl
       refine pure_ (i := 9) (N := some 25) (v := undef) (a' := ?_) #[true, true, true, true, true, true, true, true, true, true, false, false] rfl rfl (any_of HT_.out (by kernel_rfl)) (fun _ _ _ h => h) (Or.inr ⟨by rfl, rfl⟩) ?_ ?_
       rotate_left
       ·simp only [Act.put, List.setIfInBounds_toArray, List.set_cons_zero, List.set_cons_succ, i64_w, i32_w]
        rfl
       refine pure_ (i := 10) (N := some 26) (v := undef) (a' := ?_) #[true, true, true, true, true, true, true, true, true, true, true, false] rfl rfl (any_of HT_.out (by kernel_rfl)) (fun _ _ _ h => h) (Or.inr ⟨by rfl, rfl⟩) ?_ ?_
       rotate_left
       ·simp only [Act.put, List.setIfInBounds_toArray, List.set_cons_zero, List.set_cons_succ, i64_w, i32_w]
        rfl
       refine pure_ (i := 11) (N := some 27) (v := ?_) (a' := ?_) #[true, true, true, true, true, true, true, true, true, true, true, true] rfl rfl (any_of HT_.out (by kernel_rfl)) (fun _ _ _ h => h) (Or.inl ⟨by rfl, ?_⟩) ?_ ?_
       rotate_left
       ·intro w'
        go_simp
        with_reducible rfl
       rotate_left
       ·simp only [Act.put, List.setIfInBounds_toArray, List.set_cons_zero, List.set_cons_succ, i64_w, i32_w]
        rfl
       refine done_ (done_of HT_.out (by kernel_rfl)) ?_
       try go_wp2
       go_meet
       case rel => exact ⟨_, (true), zr, H', ⟨by have := HK1.out; first | omega | exact Nat.le_refl _⟩, ⟨zb BK981⟩, ⟨zB HB⟩⟩
     case rest =>
      clear HC4
      try clear c1
      try clear q1
      try clear c2
      try clear c2b0
      try clear p2
      try clear c3
      try clear c3b0
      try clear c8
      try clear c9
      try clear c9b0
      try clear p9
      try clear q9
      try clear hx9
      try clear c10
      try clear c10b0
      try clear c10b1
      try clear c13
      try clear c15
      try clear q15
      try clear hcz6_0
      try clear hcz6_1
      try clear hcz6_2
      try clear hcz6_3
      try clear hfz6_0
      try clear hfz6_1
      try clear hfz6_2
      try clear hfz6_3
      try clear hx980_0
      try clear hx980_1
      try clear hx980_2
      try clear hx980_3
      try clear p980
      try clear q15
      try clear q980
      obtain ⟨kq, x27_3, rfl, HA, HJ3, BK981, HB⟩ := hcut
      cases kq with
      | zero => exact absurd HA.out (by simp [spec_validParams.j1])
      | succ kj3 =>
       have H := HA.out
       clear HA
       simp only [spec_validParams.j1] at H
       by_cases c19 : x27_3 = true
       ·subst c19
        rw [if_pos rfl] at H
        obtain rfl := Option.some.inj H
        go_wp2
        go_ret
        exact ⟨by first | rfl | (simp [errW_none, errW_some] <;> rfl) | (simp [*, errW_none, errW_some] <;> rfl), zB HB⟩
       ·replace c19 := Bool.eq_false_iff.mpr c19
        subst c19
        rw [if_neg (show ¬ (false = true) by decide)] at H
        by_cases c20 : x3_1 = 0
        ·rw [if_pos c20] at H
         have c20b0 : (x3_1 == 0) = true := beq_iff_eq.mpr c20
         have c20b1 : (x3_1 != 0) = false := bne_eq_false_iff_eq.mpr c20
         clear c20
         have H' := Aside0.mk H
         clear H
         go_wp2
         go_roundg kj3
         case measure => have := HK1.out; have := HJ3.out; omega
         case rel => exact ⟨(wrap64 (x3_1 + 1)), zr, H', ⟨by have := HK1.out; have := HJ3.out; omega⟩, ⟨zB HB⟩⟩
        ·rw [if_neg c20] at H
         have c20b0 : (x3_1 == 0) = false := beq_eq_false_iff_ne.mpr c20
         have c20b1 : (x3_1 != 0) = true := bne_iff_ne.mpr c20
         obtain ⟨ji21, hji21⟩ : ∃ j_ : Int, (wrap64 (x3_1 - 1)) = j_ := ⟨_, rfl⟩
         replace H : (if 0 ≤ (ji21) then (if (ji21) < (l0.length : Int) then (if ((rd_T123 l0 x3_1).f1) < ((rd_T123 l0 (ji21)).f1) then (some false) else (if ((rd_T123 l0 x3_1).f1) = ((rd_T123 l0 (ji21)).f1) then ((spec_isSingle.f ((rd_T123 l0 x3_1).f0) ((rd_T123 l0 x3_1).f1) ((rd_T123 l0 x3_1).f2) ((rd_T123 l0 x3_1).f3)).bind fun t990 => (if t990 = true then ((spec_byPlace.f ((rd_T123 l0 x3_1).f0) ((rd_T123 l0 x3_1).f1) ((rd_T123 l0 x3_1).f2) ((rd_T123 l0 x3_1).f3)).bind fun t991 => (if t991 = true then (if (rd_T123 l0 (ji21)).f2 = true then (if ((rd_T123 l0 x3_1).f2) = true then (spec_validParams.l0 kj3 l0 (wrap64 (x3_1 + 1))) else (some false)) else (spec_validParams.l0 kj3 l0 (wrap64 (x3_1 + 1)))) else (spec_validParams.l0 kj3 l0 (wrap64 (x3_1 + 1))))) else (some false))) else ((spec_byPlace.f ((rd_T123 l0 x3_1).f0) ((rd_T123 l0 x3_1).f1) ((rd_T123 l0 x3_1).f2) ((rd_T123 l0 x3_1).f3)).bind fun t992 => (if t992 = true then (if (rd_T123 l0 (ji21)).f2 = true then (if ((rd_T123 l0 x3_1).f2) = true then (spec_validParams.l0 kj3 l0 (wrap64 (x3_1 + 1))) else (some false)) else (spec_validParams.l0 kj3 l0 (wrap64 (x3_1 + 1)))) else (spec_validParams.l0 kj3 l0 (wrap64 (x3_1 + 1))))))) else (none)) else (none)) = some r := by first | (rw [hji21] at H; exact H) | (simp only [hji21] at H ⊢; exact H)
         have hji21w : (IntKind.i64.wrap (x3_1 - 1)) = ji21 := (i64_w _).trans hji21
         by_cases c22 : 0 ≤ (ji21)
         ·rw [if_pos c22] at H
          have c22b0 : decide (0 ≤ (ji21)) = true := decide_eq_true c22
          clear c22
          by_cases c23 : (ji21) < (l0.length : Int)
          ·rw [if_pos c23] at H
           have c23b0 : decide ((ji21) < (l0.length : Int)) = true := decide_eq_true c23
           clear c23
           by_cases c24 : ((rd_T123 l0 x3_1).f1) < ((rd_T123 l0 (ji21)).f1)
           ·rw [if_pos c24] at H
            have c24b0 : decide (((rd_T123 l0 x3_1).f1) < ((rd_T123 l0 (ji21)).f1)) = true := decide_eq_true c24
            clear c24
            obtain rfl := Option.some.inj H
            have p988 : 0 ≤ ((ji21) : Int) := of_decide_eq_true za
            have q988 : (ji21) < (l0.length : Int) := of_decide_eq_true za
            obtain ⟨ad988, e988, hx988_0, hx988_1, hx988_2, hx988_3⟩ := at_T123 HR0.out (ji21) p988 q988
            obtain rfl : ad980 = ad988 := (by injection e988)
            replace hx988_0 := (HB.out.cell (World.block_lt_of_cell? w _ hx988_0)).trans hx988_0
            replace hx988_1 := (HB.out.cell (World.block_lt_of_cell? w _ hx988_1)).trans hx988_1
            replace hx988_2 := (HB.out.cell (World.block_lt_of_cell? w _ hx988_2)).trans hx988_2
            replace hx988_3 := (HB.out.cell (World.block_lt_of_cell? w _ hx988_3)).trans hx988_3
            replace p988 := eq_true p988
            replace q988 := eq_true q988
            go_wp2_with (first | ((with_reducible refine gate_dst (N := 5) rfl ?_); refine box_event ?hg (N := 5) ?hd (cs := #[.string (⟨#[]⟩ : ByteArray), .int .i64 0, .bool false, .int .i64 0]) (t := 123) ?hr ?_; (case hd => rfl); (case hg => rfl); (case hr => first | (go_simp; done) | (go_simp; rfl)); intro gb989 hg w25 hbox hb; have BK989 := Aside0.mk (hbox); have GW989 := Aside0.mk ((by rw [hg]; exact (below_size (zB HB)) : w.heap.size ≤ gb989)); have GE989 := Aside0.mk ((by rw [hg]; exact (below_size (zB HB)) : w.heap.size ≤ gb989)); replace HB := Aside0.mk (below_step (zB HB) hb); have NB981_989 := Aside0.mk ((by rw [hg]; exact Nat.ne_of_lt (blk_lt (g := gb981) (o := .cells #[.string ((rd_T123 l0 x3_1).f0), .int .i64 ((rd_T123 l0 x3_1).f1), .bool ((rd_T123 l0 x3_1).f2), .int .i64 ((rd_T123 l0 x3_1).f3)] 123 (0, 0)) (zb BK981)) : gb981 ≠ gb989)); have NB989_981 := Aside0.mk ((by rw [hg]; exact Nat.ne_of_gt (blk_lt (g := gb981) (o := .cells #[.string ((rd_T123 l0 x3_1).f0), .int .i64 ((rd_T123 l0 x3_1).f1), .bool ((rd_T123 l0 x3_1).f2), .int .i64 ((rd_T123 l0 x3_1).f3)] 123 (0, 0)) (zb BK981)) : gb989 ≠ gb981)); replace BK981 := Aside0.mk (blk_below (g := gb981) (o := .cells #[.string ((rd_T123 l0 x3_1).f0), .int .i64 ((rd_T123 l0 x3_1).f1), .bool ((rd_T123 l0 x3_1).f2), .int .i64 ((rd_T123 l0 x3_1).f3)] 123 (0, 0)) (zb BK981) hb); clear hb hbox hg; have hnb26 := NB989_981.out; have hnc26 := NB981_989.out; have hcz27_0 : w25.cell? ⟨gb989, 0, none⟩ = some (.string (⟨#[]⟩ : ByteArray)) := (blk_cell BK989.out 0).trans rfl; have hcz27_1 : w25.cell? ⟨gb989, 1, none⟩ = some (.int .i64 0) := (blk_cell BK989.out 1).trans rfl; have hcz27_2 : w25.cell? ⟨gb989, 2, none⟩ = some (.bool false) := (blk_cell BK989.out 2).trans rfl; have hcz27_3 : w25.cell? ⟨gb989, 3, none⟩ = some (.int .i64 0) := (blk_cell BK989.out 3).trans rfl; have hfz27_0 := blk_frozen BK989.out 0; have hfz27_1 := blk_frozen BK989.out 1; have hfz27_2 := blk_frozen BK989.out 2; have hfz27_3 := blk_frozen BK989.out 3; have hcz28_0 : w25.cell? ⟨gb981, 0, none⟩ = some (.string ((rd_T123 l0 x3_1).f0)) := (blk_cell BK981.out 0).trans rfl; have hcz28_1 : w25.cell? ⟨gb981, 1, none⟩ = some (.int .i64 ((rd_T123 l0 x3_1).f1)) := (blk_cell BK981.out 1).trans rfl; have hcz28_2 : w25.cell? ⟨gb981, 2, none⟩ = some (.bool ((rd_T123 l0 x3_1).f2)) := (blk_cell BK981.out 2).trans rfl; have hcz28_3 : w25.cell? ⟨gb981, 3, none⟩ = some (.int .i64 ((rd_T123 l0 x3_1).f3)) := (blk_cell BK981.out 3).trans rfl; have hfz28_0 := blk_frozen BK981.out 0; have hfz28_1 := blk_frozen BK981.out 1; have hfz28_2 := blk_frozen BK981.out 2; have hfz28_3 := blk_frozen BK981.out 3))
            go_ret
            exact ⟨by first | rfl | (simp [errW_none, errW_some] <;> rfl) | (simp only [← hji21]; first | rfl | (simp [errW_none, errW_some] <;> rfl)) | (simp [*, errW_none, errW_some] <;> rfl), zB HB⟩
           ·rw [if_neg c24] at H
            have c24b0 : decide (((rd_T123 l0 x3_1).f1) < ((rd_T123 l0 (ji21)).f1)) = false := decide_eq_false c24
            clear c24
            by_cases c29 : ((rd_T123 l0 x3_1).f1) = ((rd_T123 l0 (ji21)).f1)
            ·rw [if_pos c29] at H
             have c29b0 : (((rd_T123 l0 x3_1).f1) == ((rd_T123 l0 (ji21)).f1)) = true := beq_iff_eq.mpr c29
             have c29b1 : (((rd_T123 l0 x3_1).f1) != ((rd_T123 l0 (ji21)).f1)) = false := bne_eq_false_iff_eq.mpr c29
             clear c29
             replace H := Option.bind_eq_some_iff.mp H
             obtain ⟨t990, A300, H⟩ := H
             (try dsimp only at H)
             have A30 := Aside0.mk A300
             clear A300
             by_cases c31 : t990 = true
             ·subst c31
              rw [if_pos rfl] at H
              replace H := Option.bind_eq_some_iff.mp H
              obtain ⟨t991, A320, H⟩ := H
              (try dsimp only at H)
              have A32 := Aside0.mk A320
              clear A320
              by_cases c33 : t991 = true
              ·subst c33
               rw [if_pos rfl] at H
               obtain ⟨bq34, hbq34⟩ : ∃ b_ : Bool, b_ = ((rd_T123 l0 (ji21)).f2) := ⟨_, rfl⟩
               replace H : (if bq34 = true then (if ((rd_T123 l0 x3_1).f2) = true then (spec_validParams.l0 kj3 l0 (wrap64 (x3_1 + 1))) else (some false)) else (spec_validParams.l0 kj3 l0 (wrap64 (x3_1 + 1)))) = some r := by rw [← hbq34] at H; exact H
               (try rw [← hbq34] at BK981)
               (try rw [← hbq34] at A7)
               (try rw [← hbq34] at A11)
               (try rw [← hbq34] at A30)
               (try rw [← hbq34] at A32)
               have Nbq34 := Aside0.mk hbq34
               clear hbq34
               by_cases c35 : bq34 = true
               ·subst c35
                rw [if_pos rfl] at H
                obtain ⟨bq36, hbq36⟩ : ∃ b_ : Bool, b_ = ((rd_T123 l0 x3_1).f2) := ⟨_, rfl⟩
                replace H : (if bq36 = true then (spec_validParams.l0 kj3 l0 (wrap64 (x3_1 + 1))) else (some false)) = some r := by rw [← hbq36] at H; exact H
                (try rw [← hbq36] at BK981)
                (try rw [← hbq36] at A7)
                (try rw [← hbq36] at A11)
                (try rw [← hbq36] at A30)
                (try rw [← hbq36] at A32)
                have Nbq36 := Aside0.mk hbq36
                clear hbq36
                by_cases c37 : bq36 = true
                ·subst c37
                 rw [if_pos rfl] at H
                 have H' := Aside0.mk H
                 clear H
                 have p988 : 0 ≤ ((ji21) : Int) := of_decide_eq_true za
                 have q988 : (ji21) < (l0.length : Int) := of_decide_eq_true za
                 obtain ⟨ad988, e988, hx988_0, hx988_1, hx988_2, hx988_3⟩ := at_T123 HR0.out (ji21) p988 q988
                 (try rw [← Nbq34.out] at hx988_2)
                 (try rw [← Nbq36.out] at hx988_2)
                 obtain rfl : ad980 = ad988 := (by injection e988)
                 replace hx988_0 := (HB.out.cell (World.block_lt_of_cell? w _ hx988_0)).trans hx988_0
                 replace hx988_1 := (HB.out.cell (World.block_lt_of_cell? w _ hx988_1)).trans hx988_1
                 replace hx988_2 := (HB.out.cell (World.block_lt_of_cell? w _ hx988_2)).trans hx988_2
                 replace hx988_3 := (HB.out.cell (World.block_lt_of_cell? w _ hx988_3)).trans hx988_3
                 replace p988 := eq_true p988
                 replace q988 := eq_true q988
                 go_wp2_with (first | ((with_reducible refine gate_dst (N := 5) rfl ?_); refine box_event ?hg (N := 5) ?hd (cs := #[.string (⟨#[]⟩ : ByteArray), .int .i64 0, .bool false, .int .i64 0]) (t := 123) ?hr ?_; (case hd => rfl); (case hg => rfl); (case hr => first | (go_simp; done) | (go_simp; rfl)); intro gb989 hg w38 hbox hb; have BK989 := Aside0.mk (hbox); have GW989 := Aside0.mk ((by rw [hg]; exact (below_size (zB HB)) : w.heap.size ≤ gb989)); have GE989 := Aside0.mk ((by rw [hg]; exact (below_size (zB HB)) : w.heap.size ≤ gb989)); replace HB := Aside0.mk (below_step (zB HB) hb); have NB981_989 := Aside0.mk ((by rw [hg]; exact Nat.ne_of_lt (blk_lt (g := gb981) (o := .cells #[.string ((rd_T123 l0 x3_1).f0), .int .i64 ((rd_T123 l0 x3_1).f1), .bool true, .int .i64 ((rd_T123 l0 x3_1).f3)] 123 (0, 0)) (zb BK981)) : gb981 ≠ gb989)); have NB989_981 := Aside0.mk ((by rw [hg]; exact Nat.ne_of_gt (blk_lt (g := gb981) (o := .cells #[.string ((rd_T123 l0 x3_1).f0), .int .i64 ((rd_T123 l0 x3_1).f1), .bool true, .int .i64 ((rd_T123 l0 x3_1).f3)] 123 (0, 0)) (zb BK981)) : gb989 ≠ gb981)); replace BK981 := Aside0.mk (blk_below (g := gb981) (o := .cells #[.string ((rd_T123 l0 x3_1).f0), .int .i64 ((rd_T123 l0 x3_1).f1), .bool true, .int .i64 ((rd_T123 l0 x3_1).f3)] 123 (0, 0)) (zb BK981) hb); clear hb hbox hg; have hnb39 := NB989_981.out; have hnc39 := NB981_989.out; have hcz40_0 : w38.cell? ⟨gb989, 0, none⟩ = some (.string (⟨#[]⟩ : ByteArray)) := (blk_cell BK989.out 0).trans rfl; have hcz40_1 : w38.cell? ⟨gb989, 1, none⟩ = some (.int .i64 0) := (blk_cell BK989.out 1).trans rfl; have hcz40_2 : w38.cell? ⟨gb989, 2, none⟩ = some (.bool false) := (blk_cell BK989.out 2).trans rfl; have hcz40_3 : w38.cell? ⟨gb989, 3, none⟩ = some (.int .i64 0) := (blk_cell BK989.out 3).trans rfl; have hfz40_0 := blk_frozen BK989.out 0; have hfz40_1 := blk_frozen BK989.out 1; have hfz40_2 := blk_frozen BK989.out 2; have hfz40_3 := blk_frozen BK989.out 3; have hcz41_0 : w38.cell? ⟨gb981, 0, none⟩ = some (.string ((rd_T123 l0 x3_1).f0)) := (blk_cell BK981.out 0).trans rfl; have hcz41_1 : w38.cell? ⟨gb981, 1, none⟩ = some (.int .i64 ((rd_T123 l0 x3_1).f1)) := (blk_cell BK981.out 1).trans rfl; have hcz41_2 : w38.cell? ⟨gb981, 2, none⟩ = some (.bool true) := (blk_cell BK981.out 2).trans rfl; have hcz41_3 : w38.cell? ⟨gb981, 3, none⟩ = some (.int .i64 ((rd_T123 l0 x3_1).f3)) := (blk_cell BK981.out 3).trans rfl; have hfz41_0 := blk_frozen BK981.out 0; have hfz41_1 := blk_frozen BK981.out 1; have hfz41_2 := blk_frozen BK981.out 2; have hfz41_3 := blk_frozen BK981.out 3) | (go_at_call 147; (with_reducible refine (spec_isSingle.calls ((rd_T123 l0 x3_1).f0) ((rd_T123 l0 x3_1).f1) true ((rd_T123 l0 x3_1).f3) true _ A30.out).mono ?_); rintro e w42 ⟨rfl, hb⟩; replace BK981 := Aside0.mk (blk_below (g := gb981) (o := .cells #[.string ((rd_T123 l0 x3_1).f0), .int .i64 ((rd_T123 l0 x3_1).f1), .bool true, .int .i64 ((rd_T123 l0 x3_1).f3)] 123 (0, 0)) (zf BK981) hb); replace BK989 := Aside0.mk (blk_below (g := gb989) (o := .cells #[.string ((rd_T123 l0 (ji21)).f0), .int .i64 ((rd_T123 l0 (ji21)).f1), .bool true, .int .i64 ((rd_T123 l0 (ji21)).f3)] 123 (0, 0)) (by (with_reducible repeat (first | refine blk_drewN ?_ _ | refine blk_drew ?_ | refine blk_alloc ?_ _)); refine blk_put (cs := #[.string ((rd_T123 l0 (ji21)).f0), .int .i64 ((rd_T123 l0 (ji21)).f1), .bool true, .int .i64 0]) ?_ 3 _ rfl; (with_reducible repeat (first | refine blk_drewN ?_ _ | refine blk_drew ?_ | refine blk_alloc ?_ _)); refine blk_put (cs := #[.string ((rd_T123 l0 (ji21)).f0), .int .i64 ((rd_T123 l0 (ji21)).f1), .bool false, .int .i64 0]) ?_ 2 _ rfl; (with_reducible repeat (first | refine blk_drewN ?_ _ | refine blk_drew ?_ | refine blk_alloc ?_ _)); refine blk_put (cs := #[.string ((rd_T123 l0 (ji21)).f0), .int .i64 0, .bool false, .int .i64 0]) ?_ 1 _ rfl; (with_reducible repeat (first | refine blk_drewN ?_ _ | refine blk_drew ?_ | refine blk_alloc ?_ _)); refine blk_put (cs := #[.string (⟨#[]⟩ : ByteArray), .int .i64 0, .bool false, .int .i64 0]) ?_ 0 _ rfl; (with_reducible repeat (first | refine blk_drewN ?_ _ | refine blk_drew ?_ | refine blk_alloc ?_ _)); exact BK989.out) hb); replace HB := Aside0.mk (below_step (zB HB) hb); (try clear hb); (try clear hb2); (try clear hk); (try clear hi); have hcz43_0 : w42.cell? ⟨gb981, 0, none⟩ = some (.string ((rd_T123 l0 x3_1).f0)) := (blk_cell BK981.out 0).trans rfl; have hcz43_1 : w42.cell? ⟨gb981, 1, none⟩ = some (.int .i64 ((rd_T123 l0 x3_1).f1)) := (blk_cell BK981.out 1).trans rfl; have hcz43_2 : w42.cell? ⟨gb981, 2, none⟩ = some (.bool true) := (blk_cell BK981.out 2).trans rfl; have hcz43_3 : w42.cell? ⟨gb981, 3, none⟩ = some (.int .i64 ((rd_T123 l0 x3_1).f3)) := (blk_cell BK981.out 3).trans rfl; have hfz43_0 := blk_frozen BK981.out 0; have hfz43_1 := blk_frozen BK981.out 1; have hfz43_2 := blk_frozen BK981.out 2; have hfz43_3 := blk_frozen BK981.out 3) | (go_at_call 152; (with_reducible refine (spec_byPlace.calls ((rd_T123 l0 x3_1).f0) ((rd_T123 l0 x3_1).f1) true ((rd_T123 l0 x3_1).f3) true _ A32.out).mono ?_); rintro e w44 ⟨rfl, hb⟩; replace BK981 := Aside0.mk (blk_below (g := gb981) (o := .cells #[.string ((rd_T123 l0 x3_1).f0), .int .i64 ((rd_T123 l0 x3_1).f1), .bool true, .int .i64 ((rd_T123 l0 x3_1).f3)] 123 (0, 0)) (zb BK981) hb); replace BK989 := Aside0.mk (blk_below (g := gb989) (o := .cells #[.string ((rd_T123 l0 (ji21)).f0), .int .i64 ((rd_T123 l0 (ji21)).f1), .bool true, .int .i64 ((rd_T123 l0 (ji21)).f3)] 123 (0, 0)) (zb BK989) hb); replace HB := Aside0.mk (below_step (zB HB) hb); (try clear hb); (try clear hb2); (try clear hk); (try clear hi); have hcz45_0 : w44.cell? ⟨gb989, 0, none⟩ = some (.string ((rd_T123 l0 (ji21)).f0)) := (blk_cell BK989.out 0).trans rfl; have hcz45_1 : w44.cell? ⟨gb989, 1, none⟩ = some (.int .i64 ((rd_T123 l0 (ji21)).f1)) := (blk_cell BK989.out 1).trans rfl; have hcz45_2 : w44.cell? ⟨gb989, 2, none⟩ = some (.bool true) := (blk_cell BK989.out 2).trans rfl; have hcz45_3 : w44.cell? ⟨gb989, 3, none⟩ = some (.int .i64 ((rd_T123 l0 (ji21)).f3)) := (blk_cell BK989.out 3).trans rfl; have hfz45_0 := blk_frozen BK989.out 0; have hfz45_1 := blk_frozen BK989.out 1; have hfz45_2 := blk_frozen BK989.out 2; have hfz45_3 := blk_frozen BK989.out 3; have hcz46_0 : w44.cell? ⟨gb981, 0, none⟩ = some (.string ((rd_T123 l0 x3_1).f0)) := (blk_cell BK981.out 0).trans rfl; have hcz46_1 : w44.cell? ⟨gb981, 1, none⟩ = some (.int .i64 ((rd_T123 l0 x3_1).f1)) := (blk_cell BK981.out 1).trans rfl; have hcz46_2 : w44.cell? ⟨gb981, 2, none⟩ = some (.bool true) := (blk_cell BK981.out 2).trans rfl; have hcz46_3 : w44.cell? ⟨gb981, 3, none⟩ = some (.int .i64 ((rd_T123 l0 x3_1).f3)) := (blk_cell BK981.out 3).trans rfl; have hfz46_0 := blk_frozen BK981.out 0; have hfz46_1 := blk_frozen BK981.out 1; have hfz46_2 := blk_frozen BK981.out 2; have hfz46_3 := blk_frozen BK981.out 3))
                 go_roundg kj3
                 case measure => have := HK1.out; have := HJ3.out; omega
                 case rel => (try rw [← Nbq34.out]); (try rw [← Nbq36.out]); exact ⟨(wrap64 (x3_1 + 1)), zr, H', ⟨by have := HK1.out; have := HJ3.out; omega⟩, ⟨zB HB⟩⟩
                ·replace c37 := Bool.eq_false_iff.mpr c37
                 subst c37
                 rw [if_neg (show ¬ (false = true) by decide)] at H
                 obtain rfl := Option.some.inj H
                 have p988 : 0 ≤ ((ji21) : Int) := of_decide_eq_true za
                 have q988 : (ji21) < (l0.length : Int) := of_decide_eq_true za
                 obtain ⟨ad988, e988, hx988_0, hx988_1, hx988_2, hx988_3⟩ := at_T123 HR0.out (ji21) p988 q988
                 (try rw [← Nbq34.out] at hx988_2)
                 (try rw [← Nbq36.out] at hx988_2)
                 obtain rfl : ad980 = ad988 := (by injection e988)
                 replace hx988_0 := (HB.out.cell (World.block_lt_of_cell? w _ hx988_0)).trans hx988_0
                 replace hx988_1 := (HB.out.cell (World.block_lt_of_cell? w _ hx988_1)).trans hx988_1
                 replace hx988_2 := (HB.out.cell (World.block_lt_of_cell? w _ hx988_2)).trans hx988_2
                 replace hx988_3 := (HB.out.cell (World.block_lt_of_cell? w _ hx988_3)).trans hx988_3
                 replace p988 := eq_true p988
                 replace q988 := eq_true q988
                 go_wp2_with (first | ((with_reducible refine gate_dst (N := 5) rfl ?_); refine box_event ?hg (N := 5) ?hd (cs := #[.string (⟨#[]⟩ : ByteArray), .int .i64 0, .bool false, .int .i64 0]) (t := 123) ?hr ?_; (case hd => rfl); (case hg => rfl); (case hr => first | (go_simp; done) | (go_simp; rfl)); intro gb989 hg w47 hbox hb; have BK989 := Aside0.mk (hbox); have GW989 := Aside0.mk ((by rw [hg]; exact (below_size (zB HB)) : w.heap.size ≤ gb989)); have GE989 := Aside0.mk ((by rw [hg]; exact (below_size (zB HB)) : w.heap.size ≤ gb989)); replace HB := Aside0.mk (below_step (zB HB) hb); have NB981_989 := Aside0.mk ((by rw [hg]; exact Nat.ne_of_lt (blk_lt (g := gb981) (o := .cells #[.string ((rd_T123 l0 x3_1).f0), .int .i64 ((rd_T123 l0 x3_1).f1), .bool false, .int .i64 ((rd_T123 l0 x3_1).f3)] 123 (0, 0)) (zb BK981)) : gb981 ≠ gb989)); have NB989_981 := Aside0.mk ((by rw [hg]; exact Nat.ne_of_gt (blk_lt (g := gb981) (o := .cells #[.string ((rd_T123 l0 x3_1).f0), .int .i64 ((rd_T123 l0 x3_1).f1), .bool false, .int .i64 ((rd_T123 l0 x3_1).f3)] 123 (0, 0)) (zb BK981)) : gb989 ≠ gb981)); replace BK981 := Aside0.mk (blk_below (g := gb981) (o := .cells #[.string ((rd_T123 l0 x3_1).f0), .int .i64 ((rd_T123 l0 x3_1).f1), .bool false, .int .i64 ((rd_T123 l0 x3_1).f3)] 123 (0, 0)) (zb BK981) hb); clear hb hbox hg; have hnb48 := NB989_981.out; have hnc48 := NB981_989.out; have hcz49_0 : w47.cell? ⟨gb989, 0, none⟩ = some (.string (⟨#[]⟩ : ByteArray)) := (blk_cell BK989.out 0).trans rfl; have hcz49_1 : w47.cell? ⟨gb989, 1, none⟩ = some (.int .i64 0) := (blk_cell BK989.out 1).trans rfl; have hcz49_2 : w47.cell? ⟨gb989, 2, none⟩ = some (.bool false) := (blk_cell BK989.out 2).trans rfl; have hcz49_3 : w47.cell? ⟨gb989, 3, none⟩ = some (.int .i64 0) := (blk_cell BK989.out 3).trans rfl; have hfz49_0 := blk_frozen BK989.out 0; have hfz49_1 := blk_frozen BK989.out 1; have hfz49_2 := blk_frozen BK989.out 2; have hfz49_3 := blk_frozen BK989.out 3; have hcz50_0 : w47.cell? ⟨gb981, 0, none⟩ = some (.string ((rd_T123 l0 x3_1).f0)) := (blk_cell BK981.out 0).trans rfl; have hcz50_1 : w47.cell? ⟨gb981, 1, none⟩ = some (.int .i64 ((rd_T123 l0 x3_1).f1)) := (blk_cell BK981.out 1).trans rfl; have hcz50_2 : w47.cell? ⟨gb981, 2, none⟩ = some (.bool false) := (blk_cell BK981.out 2).trans rfl; have hcz50_3 : w47.cell? ⟨gb981, 3, none⟩ = some (.int .i64 ((rd_T123 l0 x3_1).f3)) := (blk_cell BK981.out 3).trans rfl; have hfz50_0 := blk_frozen BK981.out 0; have hfz50_1 := blk_frozen BK981.out 1; have hfz50_2 := blk_frozen BK981.out 2; have hfz50_3 := blk_frozen BK981.out 3) | (go_at_call 147; (with_reducible refine (spec_isSingle.calls ((rd_T123 l0 x3_1).f0) ((rd_T123 l0 x3_1).f1) false ((rd_T123 l0 x3_1).f3) true _ A30.out).mono ?_); rintro e w51 ⟨rfl, hb⟩; replace BK981 := Aside0.mk (blk_below (g := gb981) (o := .cells #[.string ((rd_T123 l0 x3_1).f0), .int .i64 ((rd_T123 l0 x3_1).f1), .bool false, .int .i64 ((rd_T123 l0 x3_1).f3)] 123 (0, 0)) (zf BK981) hb); replace BK989 := Aside0.mk (blk_below (g := gb989) (o := .cells #[.string ((rd_T123 l0 (ji21)).f0), .int .i64 ((rd_T123 l0 (ji21)).f1), .bool true, .int .i64 ((rd_T123 l0 (ji21)).f3)] 123 (0, 0)) (by (with_reducible repeat (first | refine blk_drewN ?_ _ | refine blk_drew ?_ | refine blk_alloc ?_ _)); refine blk_put (cs := #[.string ((rd_T123 l0 (ji21)).f0), .int .i64 ((rd_T123 l0 (ji21)).f1), .bool true, .int .i64 0]) ?_ 3 _ rfl; (with_reducible repeat (first | refine blk_drewN ?_ _ | refine blk_drew ?_ | refine blk_alloc ?_ _)); refine blk_put (cs := #[.string ((rd_T123 l0 (ji21)).f0), .int .i64 ((rd_T123 l0 (ji21)).f1), .bool false, .int .i64 0]) ?_ 2 _ rfl; (with_reducible repeat (first | refine blk_drewN ?_ _ | refine blk_drew ?_ | refine blk_alloc ?_ _)); refine blk_put (cs := #[.string ((rd_T123 l0 (ji21)).f0), .int .i64 0, .bool false, .int .i64 0]) ?_ 1 _ rfl; (with_reducible repeat (first | refine blk_drewN ?_ _ | refine blk_drew ?_ | refine blk_alloc ?_ _)); refine blk_put (cs := #[.string (⟨#[]⟩ : ByteArray), .int .i64 0, .bool false, .int .i64 0]) ?_ 0 _ rfl; (with_reducible repeat (first | refine blk_drewN ?_ _ | refine blk_drew ?_ | refine blk_alloc ?_ _)); exact BK989.out) hb); replace HB := Aside0.mk (below_step (zB HB) hb); (try clear hb); (try clear hb2); (try clear hk); (try clear hi); have hcz52_0 : w51.cell? ⟨gb981, 0, none⟩ = some (.string ((rd_T123 l0 x3_1).f0)) := (blk_cell BK981.out 0).trans rfl; have hcz52_1 : w51.cell? ⟨gb981, 1, none⟩ = some (.int .i64 ((rd_T123 l0 x3_1).f1)) := (blk_cell BK981.out 1).trans rfl; have hcz52_2 : w51.cell? ⟨gb981, 2, none⟩ = some (.bool false) := (blk_cell BK981.out 2).trans rfl; have hcz52_3 : w51.cell? ⟨gb981, 3, none⟩ = some (.int .i64 ((rd_T123 l0 x3_1).f3)) := (blk_cell BK981.out 3).trans rfl; have hfz52_0 := blk_frozen BK981.out 0; have hfz52_1 := blk_frozen BK981.out 1; have hfz52_2 := blk_frozen BK981.out 2; have hfz52_3 := blk_frozen BK981.out 3) | (go_at_call 152; (with_reducible refine (spec_byPlace.calls ((rd_T123 l0 x3_1).f0) ((rd_T123 l0 x3_1).f1) false ((rd_T123 l0 x3_1).f3) true _ A32.out).mono ?_); rintro e w53 ⟨rfl, hb⟩; replace BK981 := Aside0.mk (blk_below (g := gb981) (o := .cells #[.string ((rd_T123 l0 x3_1).f0), .int .i64 ((rd_T123 l0 x3_1).f1), .bool false, .int .i64 ((rd_T123 l0 x3_1).f3)] 123 (0, 0)) (zb BK981) hb); replace BK989 := Aside0.mk (blk_below (g := gb989) (o := .cells #[.string ((rd_T123 l0 (ji21)).f0), .int .i64 ((rd_T123 l0 (ji21)).f1), .bool true, .int .i64 ((rd_T123 l0 (ji21)).f3)] 123 (0, 0)) (zb BK989) hb); replace HB := Aside0.mk (below_step (zB HB) hb); (try clear hb); (try clear hb2); (try clear hk); (try clear hi); have hcz54_0 : w53.cell? ⟨gb989, 0, none⟩ = some (.string ((rd_T123 l0 (ji21)).f0)) := (blk_cell BK989.out 0).trans rfl; have hcz54_1 : w53.cell? ⟨gb989, 1, none⟩ = some (.int .i64 ((rd_T123 l0 (ji21)).f1)) := (blk_cell BK989.out 1).trans rfl; have hcz54_2 : w53.cell? ⟨gb989, 2, none⟩ = some (.bool true) := (blk_cell BK989.out 2).trans rfl; have hcz54_3 : w53.cell? ⟨gb989, 3, none⟩ = some (.int .i64 ((rd_T123 l0 (ji21)).f3)) := (blk_cell BK989.out 3).trans rfl; have hfz54_0 := blk_frozen BK989.out 0; have hfz54_1 := blk_frozen BK989.out 1; have hfz54_2 := blk_frozen BK989.out 2; have hfz54_3 := blk_frozen BK989.out 3; have hcz55_0 : w53.cell? ⟨gb981, 0, none⟩ = some (.string ((rd_T123 l0 x3_1).f0)) := (blk_cell BK981.out 0).trans rfl; have hcz55_1 : w53.cell? ⟨gb981, 1, none⟩ = some (.int .i64 ((rd_T123 l0 x3_1).f1)) := (blk_cell BK981.out 1).trans rfl; have hcz55_2 : w53.cell? ⟨gb981, 2, none⟩ = some (.bool false) := (blk_cell BK981.out 2).trans rfl; have hcz55_3 : w53.cell? ⟨gb981, 3, none⟩ = some (.int .i64 ((rd_T123 l0 x3_1).f3)) := (blk_cell BK981.out 3).trans rfl; have hfz55_0 := blk_frozen BK981.out 0; have hfz55_1 := blk_frozen BK981.out 1; have hfz55_2 := blk_frozen BK981.out 2; have hfz55_3 := blk_frozen BK981.out 3))
                 go_ret
                 exact ⟨by first | rfl | (simp [errW_none, errW_some] <;> rfl) | (simp only [← hji21]; first | rfl | (simp [errW_none, errW_some] <;> rfl)) | (simp [*, errW_none, errW_some] <;> rfl), zB HB⟩
               ·replace c35 := Bool.eq_false_iff.mpr c35
                subst c35
                rw [if_neg (show ¬ (false = true) by decide)] at H
                have H' := Aside0.mk H
                clear H
                have p988 : 0 ≤ ((ji21) : Int) := of_decide_eq_true za
                have q988 : (ji21) < (l0.length : Int) := of_decide_eq_true za
                obtain ⟨ad988, e988, hx988_0, hx988_1, hx988_2, hx988_3⟩ := at_T123 HR0.out (ji21) p988 q988
                (try rw [← Nbq34.out] at hx988_2)
                obtain rfl : ad980 = ad988 := (by injection e988)
                replace hx988_0 := (HB.out.cell (World.block_lt_of_cell? w _ hx988_0)).trans hx988_0
                replace hx988_1 := (HB.out.cell (World.block_lt_of_cell? w _ hx988_1)).trans hx988_1
                replace hx988_2 := (HB.out.cell (World.block_lt_of_cell? w _ hx988_2)).trans hx988_2
                replace hx988_3 := (HB.out.cell (World.block_lt_of_cell? w _ hx988_3)).trans hx988_3
                replace p988 := eq_true p988
                replace q988 := eq_true q988
                go_wp2_with (first | ((with_reducible refine gate_dst (N := 5) rfl ?_); refine box_event ?hg (N := 5) ?hd (cs := #[.string (⟨#[]⟩ : ByteArray), .int .i64 0, .bool false, .int .i64 0]) (t := 123) ?hr ?_; (case hd => rfl); (case hg => rfl); (case hr => first | (go_simp; done) | (go_simp; rfl)); intro gb989 hg w56 hbox hb; have BK989 := Aside0.mk (hbox); have GW989 := Aside0.mk ((by rw [hg]; exact (below_size (zB HB)) : w.heap.size ≤ gb989)); have GE989 := Aside0.mk ((by rw [hg]; exact (below_size (zB HB)) : w.heap.size ≤ gb989)); replace HB := Aside0.mk (below_step (zB HB) hb); have NB981_989 := Aside0.mk ((by rw [hg]; exact Nat.ne_of_lt (blk_lt (g := gb981) (o := .cells #[.string ((rd_T123 l0 x3_1).f0), .int .i64 ((rd_T123 l0 x3_1).f1), .bool ((rd_T123 l0 x3_1).f2), .int .i64 ((rd_T123 l0 x3_1).f3)] 123 (0, 0)) (zb BK981)) : gb981 ≠ gb989)); have NB989_981 := Aside0.mk ((by rw [hg]; exact Nat.ne_of_gt (blk_lt (g := gb981) (o := .cells #[.string ((rd_T123 l0 x3_1).f0), .int .i64 ((rd_T123 l0 x3_1).f1), .bool ((rd_T123 l0 x3_1).f2), .int .i64 ((rd_T123 l0 x3_1).f3)] 123 (0, 0)) (zb BK981)) : gb989 ≠ gb981)); replace BK981 := Aside0.mk (blk_below (g := gb981) (o := .cells #[.string ((rd_T123 l0 x3_1).f0), .int .i64 ((rd_T123 l0 x3_1).f1), .bool ((rd_T123 l0 x3_1).f2), .int .i64 ((rd_T123 l0 x3_1).f3)] 123 (0, 0)) (zb BK981) hb); clear hb hbox hg; have hnb57 := NB989_981.out; have hnc57 := NB981_989.out; have hcz58_0 : w56.cell? ⟨gb989, 0, none⟩ = some (.string (⟨#[]⟩ : ByteArray)) := (blk_cell BK989.out 0).trans rfl; have hcz58_1 : w56.cell? ⟨gb989, 1, none⟩ = some (.int .i64 0) := (blk_cell BK989.out 1).trans rfl; have hcz58_2 : w56.cell? ⟨gb989, 2, none⟩ = some (.bool false) := (blk_cell BK989.out 2).trans rfl; have hcz58_3 : w56.cell? ⟨gb989, 3, none⟩ = some (.int .i64 0) := (blk_cell BK989.out 3).trans rfl; have hfz58_0 := blk_frozen BK989.out 0; have hfz58_1 := blk_frozen BK989.out 1; have hfz58_2 := blk_frozen BK989.out 2; have hfz58_3 := blk_frozen BK989.out 3; have hcz59_0 : w56.cell? ⟨gb981, 0, none⟩ = some (.string ((rd_T123 l0 x3_1).f0)) := (blk_cell BK981.out 0).trans rfl; have hcz59_1 : w56.cell? ⟨gb981, 1, none⟩ = some (.int .i64 ((rd_T123 l0 x3_1).f1)) := (blk_cell BK981.out 1).trans rfl; have hcz59_2 : w56.cell? ⟨gb981, 2, none⟩ = some (.bool ((rd_T123 l0 x3_1).f2)) := (blk_cell BK981.out 2).trans rfl; have hcz59_3 : w56.cell? ⟨gb981, 3, none⟩ = some (.int .i64 ((rd_T123 l0 x3_1).f3)) := (blk_cell BK981.out 3).trans rfl; have hfz59_0 := blk_frozen BK981.out 0; have hfz59_1 := blk_frozen BK981.out 1; have hfz59_2 := blk_frozen BK981.out 2; have hfz59_3 := blk_frozen BK981.out 3) | (go_at_call 147; (with_reducible refine (spec_isSingle.calls ((rd_T123 l0 x3_1).f0) ((rd_T123 l0 x3_1).f1) ((rd_T123 l0 x3_1).f2) ((rd_T123 l0 x3_1).f3) true _ A30.out).mono ?_); rintro e w60 ⟨rfl, hb⟩; replace BK981 := Aside0.mk (blk_below (g := gb981) (o := .cells #[.string ((rd_T123 l0 x3_1).f0), .int .i64 ((rd_T123 l0 x3_1).f1), .bool ((rd_T123 l0 x3_1).f2), .int .i64 ((rd_T123 l0 x3_1).f3)] 123 (0, 0)) (zf BK981) hb); replace BK989 := Aside0.mk (blk_below (g := gb989) (o := .cells #[.string ((rd_T123 l0 (ji21)).f0), .int .i64 ((rd_T123 l0 (ji21)).f1), .bool false, .int .i64 ((rd_T123 l0 (ji21)).f3)] 123 (0, 0)) (by (with_reducible repeat (first | refine blk_drewN ?_ _ | refine blk_drew ?_ | refine blk_alloc ?_ _)); refine blk_put (cs := #[.string ((rd_T123 l0 (ji21)).f0), .int .i64 ((rd_T123 l0 (ji21)).f1), .bool false, .int .i64 0]) ?_ 3 _ rfl; (with_reducible repeat (first | refine blk_drewN ?_ _ | refine blk_drew ?_ | refine blk_alloc ?_ _)); refine blk_put (cs := #[.string ((rd_T123 l0 (ji21)).f0), .int .i64 ((rd_T123 l0 (ji21)).f1), .bool false, .int .i64 0]) ?_ 2 _ rfl; (with_reducible repeat (first | refine blk_drewN ?_ _ | refine blk_drew ?_ | refine blk_alloc ?_ _)); refine blk_put (cs := #[.string ((rd_T123 l0 (ji21)).f0), .int .i64 0, .bool false, .int .i64 0]) ?_ 1 _ rfl; (with_reducible repeat (first | refine blk_drewN ?_ _ | refine blk_drew ?_ | refine blk_alloc ?_ _)); refine blk_put (cs := #[.string (⟨#[]⟩ : ByteArray), .int .i64 0, .bool false, .int .i64 0]) ?_ 0 _ rfl; (with_reducible repeat (first | refine blk_drewN ?_ _ | refine blk_drew ?_ | refine blk_alloc ?_ _)); exact BK989.out) hb); replace HB := Aside0.mk (below_step (zB HB) hb); (try clear hb); (try clear hb2); (try clear hk); (try clear hi); have hcz61_0 : w60.cell? ⟨gb981, 0, none⟩ = some (.string ((rd_T123 l0 x3_1).f0)) := (blk_cell BK981.out 0).trans rfl; have hcz61_1 : w60.cell? ⟨gb981, 1, none⟩ = some (.int .i64 ((rd_T123 l0 x3_1).f1)) := (blk_cell BK981.out 1).trans rfl; have hcz61_2 : w60.cell? ⟨gb981, 2, none⟩ = some (.bool ((rd_T123 l0 x3_1).f2)) := (blk_cell BK981.out 2).trans rfl; have hcz61_3 : w60.cell? ⟨gb981, 3, none⟩ = some (.int .i64 ((rd_T123 l0 x3_1).f3)) := (blk_cell BK981.out 3).trans rfl; have hfz61_0 := blk_frozen BK981.out 0; have hfz61_1 := blk_frozen BK981.out 1; have hfz61_2 := blk_frozen BK981.out 2; have hfz61_3 := blk_frozen BK981.out 3) | (go_at_call 152; (with_reducible refine (spec_byPlace.calls ((rd_T123 l0 x3_1).f0) ((rd_T123 l0 x3_1).f1) ((rd_T123 l0 x3_1).f2) ((rd_T123 l0 x3_1).f3) true _ A32.out).mono ?_); rintro e w62 ⟨rfl, hb⟩; replace BK981 := Aside0.mk (blk_below (g := gb981) (o := .cells #[.string ((rd_T123 l0 x3_1).f0), .int .i64 ((rd_T123 l0 x3_1).f1), .bool ((rd_T123 l0 x3_1).f2), .int .i64 ((rd_T123 l0 x3_1).f3)] 123 (0, 0)) (zb BK981) hb); replace BK989 := Aside0.mk (blk_below (g := gb989) (o := .cells #[.string ((rd_T123 l0 (ji21)).f0), .int .i64 ((rd_T123 l0 (ji21)).f1), .bool false, .int .i64 ((rd_T123 l0 (ji21)).f3)] 123 (0, 0)) (zb BK989) hb); replace HB := Aside0.mk (below_step (zB HB) hb); (try clear hb); (try clear hb2); (try clear hk); (try clear hi); have hcz63_0 : w62.cell? ⟨gb989, 0, none⟩ = some (.string ((rd_T123 l0 (ji21)).f0)) := (blk_cell BK989.out 0).trans rfl; have hcz63_1 : w62.cell? ⟨gb989, 1, none⟩ = some (.int .i64 ((rd_T123 l0 (ji21)).f1)) := (blk_cell BK989.out 1).trans rfl; have hcz63_2 : w62.cell? ⟨gb989, 2, none⟩ = some (.bool false) := (blk_cell BK989.out 2).trans rfl; have hcz63_3 : w62.cell? ⟨gb989, 3, none⟩ = some (.int .i64 ((rd_T123 l0 (ji21)).f3)) := (blk_cell BK989.out 3).trans rfl; have hfz63_0 := blk_frozen BK989.out 0; have hfz63_1 := blk_frozen BK989.out 1; have hfz63_2 := blk_frozen BK989.out 2; have hfz63_3 := blk_frozen BK989.out 3))
                go_roundg kj3
                case measure => have := HK1.out; have := HJ3.out; omega
                case rel => (try rw [← Nbq34.out]); exact ⟨(wrap64 (x3_1 + 1)), zr, H', ⟨by have := HK1.out; have := HJ3.out; omega⟩, ⟨zB HB⟩⟩
              ·replace c33 := Bool.eq_false_iff.mpr c33
               subst c33
               rw [if_neg (show ¬ (false = true) by decide)] at H
               have H' := Aside0.mk H
               clear H
               have p988 : 0 ≤ ((ji21) : Int) := of_decide_eq_true za
               have q988 : (ji21) < (l0.length : Int) := of_decide_eq_true za
               obtain ⟨ad988, e988, hx988_0, hx988_1, hx988_2, hx988_3⟩ := at_T123 HR0.out (ji21) p988 q988
               obtain rfl : ad980 = ad988 := (by injection e988)
               replace hx988_0 := (HB.out.cell (World.block_lt_of_cell? w _ hx988_0)).trans hx988_0
               replace hx988_1 := (HB.out.cell (World.block_lt_of_cell? w _ hx988_1)).trans hx988_1
               replace hx988_2 := (HB.out.cell (World.block_lt_of_cell? w _ hx988_2)).trans hx988_2
               replace hx988_3 := (HB.out.cell (World.block_lt_of_cell? w _ hx988_3)).trans hx988_3
               replace p988 := eq_true p988
               replace q988 := eq_true q988
               go_wp2_with (first | ((with_reducible refine gate_dst (N := 5) rfl ?_); refine box_event ?hg (N := 5) ?hd (cs := #[.string (⟨#[]⟩ : ByteArray), .int .i64 0, .bool false, .int .i64 0]) (t := 123) ?hr ?_; (case hd => rfl); (case hg => rfl); (case hr => first | (go_simp; done) | (go_simp; rfl)); intro gb989 hg w64 hbox hb; have BK989 := Aside0.mk (hbox); have GW989 := Aside0.mk ((by rw [hg]; exact (below_size (zB HB)) : w.heap.size ≤ gb989)); have GE989 := Aside0.mk ((by rw [hg]; exact (below_size (zB HB)) : w.heap.size ≤ gb989)); replace HB := Aside0.mk (below_step (zB HB) hb); have NB981_989 := Aside0.mk ((by rw [hg]; exact Nat.ne_of_lt (blk_lt (g := gb981) (o := .cells #[.string ((rd_T123 l0 x3_1).f0), .int .i64 ((rd_T123 l0 x3_1).f1), .bool ((rd_T123 l0 x3_1).f2), .int .i64 ((rd_T123 l0 x3_1).f3)] 123 (0, 0)) (zb BK981)) : gb981 ≠ gb989)); have NB989_981 := Aside0.mk ((by rw [hg]; exact Nat.ne_of_gt (blk_lt (g := gb981) (o := .cells #[.string ((rd_T123 l0 x3_1).f0), .int .i64 ((rd_T123 l0 x3_1).f1), .bool ((rd_T123 l0 x3_1).f2), .int .i64 ((rd_T123 l0 x3_1).f3)] 123 (0, 0)) (zb BK981)) : gb989 ≠ gb981)); replace BK981 := Aside0.mk (blk_below (g := gb981) (o := .cells #[.string ((rd_T123 l0 x3_1).f0), .int .i64 ((rd_T123 l0 x3_1).f1), .bool ((rd_T123 l0 x3_1).f2), .int .i64 ((rd_T123 l0 x3_1).f3)] 123 (0, 0)) (zb BK981) hb); clear hb hbox hg; have hnb65 := NB989_981.out; have hnc65 := NB981_989.out; have hcz66_0 : w64.cell? ⟨gb989, 0, none⟩ = some (.string (⟨#[]⟩ : ByteArray)) := (blk_cell BK989.out 0).trans rfl; have hcz66_1 : w64.cell? ⟨gb989, 1, none⟩ = some (.int .i64 0) := (blk_cell BK989.out 1).trans rfl; have hcz66_2 : w64.cell? ⟨gb989, 2, none⟩ = some (.bool false) := (blk_cell BK989.out 2).trans rfl; have hcz66_3 : w64.cell? ⟨gb989, 3, none⟩ = some (.int .i64 0) := (blk_cell BK989.out 3).trans rfl; have hfz66_0 := blk_frozen BK989.out 0; have hfz66_1 := blk_frozen BK989.out 1; have hfz66_2 := blk_frozen BK989.out 2; have hfz66_3 := blk_frozen BK989.out 3; have hcz67_0 : w64.cell? ⟨gb981, 0, none⟩ = some (.string ((rd_T123 l0 x3_1).f0)) := (blk_cell BK981.out 0).trans rfl; have hcz67_1 : w64.cell? ⟨gb981, 1, none⟩ = some (.int .i64 ((rd_T123 l0 x3_1).f1)) := (blk_cell BK981.out 1).trans rfl; have hcz67_2 : w64.cell? ⟨gb981, 2, none⟩ = some (.bool ((rd_T123 l0 x3_1).f2)) := (blk_cell BK981.out 2).trans rfl; have hcz67_3 : w64.cell? ⟨gb981, 3, none⟩ = some (.int .i64 ((rd_T123 l0 x3_1).f3)) := (blk_cell BK981.out 3).trans rfl; have hfz67_0 := blk_frozen BK981.out 0; have hfz67_1 := blk_frozen BK981.out 1; have hfz67_2 := blk_frozen BK981.out 2; have hfz67_3 := blk_frozen BK981.out 3) | (go_at_call 147; (with_reducible refine (spec_isSingle.calls ((rd_T123 l0 x3_1).f0) ((rd_T123 l0 x3_1).f1) ((rd_T123 l0 x3_1).f2) ((rd_T123 l0 x3_1).f3) true _ A30.out).mono ?_); rintro e w68 ⟨rfl, hb⟩; replace BK981 := Aside0.mk (blk_below (g := gb981) (o := .cells #[.string ((rd_T123 l0 x3_1).f0), .int .i64 ((rd_T123 l0 x3_1).f1), .bool ((rd_T123 l0 x3_1).f2), .int .i64 ((rd_T123 l0 x3_1).f3)] 123 (0, 0)) (zf BK981) hb); replace BK989 := Aside0.mk (blk_below (g := gb989) (o := .cells #[.string ((rd_T123 l0 (ji21)).f0), .int .i64 ((rd_T123 l0 (ji21)).f1), .bool ((rd_T123 l0 (ji21)).f2), .int .i64 ((rd_T123 l0 (ji21)).f3)] 123 (0, 0)) (by (with_reducible repeat (first | refine blk_drewN ?_ _ | refine blk_drew ?_ | refine blk_alloc ?_ _)); refine blk_put (cs := #[.string ((rd_T123 l0 (ji21)).f0), .int .i64 ((rd_T123 l0 (ji21)).f1), .bool ((rd_T123 l0 (ji21)).f2), .int .i64 0]) ?_ 3 _ rfl; (with_reducible repeat (first | refine blk_drewN ?_ _ | refine blk_drew ?_ | refine blk_alloc ?_ _)); refine blk_put (cs := #[.string ((rd_T123 l0 (ji21)).f0), .int .i64 ((rd_T123 l0 (ji21)).f1), .bool false, .int .i64 0]) ?_ 2 _ rfl; (with_reducible repeat (first | refine blk_drewN ?_ _ | refine blk_drew ?_ | refine blk_alloc ?_ _)); refine blk_put (cs := #[.string ((rd_T123 l0 (ji21)).f0), .int .i64 0, .bool false, .int .i64 0]) ?_ 1 _ rfl; (with_reducible repeat (first | refine blk_drewN ?_ _ | refine blk_drew ?_ | refine blk_alloc ?_ _)); refine blk_put (cs := #[.string (⟨#[]⟩ : ByteArray), .int .i64 0, .bool false, .int .i64 0]) ?_ 0 _ rfl; (with_reducible repeat (first | refine blk_drewN ?_ _ | refine blk_drew ?_ | refine blk_alloc ?_ _)); exact BK989.out) hb); replace HB := Aside0.mk (below_step (zB HB) hb); (try clear hb); (try clear hb2); (try clear hk); (try clear hi); have hcz69_0 : w68.cell? ⟨gb981, 0, none⟩ = some (.string ((rd_T123 l0 x3_1).f0)) := (blk_cell BK981.out 0).trans rfl; have hcz69_1 : w68.cell? ⟨gb981, 1, none⟩ = some (.int .i64 ((rd_T123 l0 x3_1).f1)) := (blk_cell BK981.out 1).trans rfl; have hcz69_2 : w68.cell? ⟨gb981, 2, none⟩ = some (.bool ((rd_T123 l0 x3_1).f2)) := (blk_cell BK981.out 2).trans rfl; have hcz69_3 : w68.cell? ⟨gb981, 3, none⟩ = some (.int .i64 ((rd_T123 l0 x3_1).f3)) := (blk_cell BK981.out 3).trans rfl; have hfz69_0 := blk_frozen BK981.out 0; have hfz69_1 := blk_frozen BK981.out 1; have hfz69_2 := blk_frozen BK981.out 2; have hfz69_3 := blk_frozen BK981.out 3) | (go_at_call 152; (with_reducible refine (spec_byPlace.calls ((rd_T123 l0 x3_1).f0) ((rd_T123 l0 x3_1).f1) ((rd_T123 l0 x3_1).f2) ((rd_T123 l0 x3_1).f3) false _ A32.out).mono ?_); rintro e w70 ⟨rfl, hb⟩; replace BK981 := Aside0.mk (blk_below (g := gb981) (o := .cells #[.string ((rd_T123 l0 x3_1).f0), .int .i64 ((rd_T123 l0 x3_1).f1), .bool ((rd_T123 l0 x3_1).f2), .int .i64 ((rd_T123 l0 x3_1).f3)] 123 (0, 0)) (zb BK981) hb); replace BK989 := Aside0.mk (blk_below (g := gb989) (o := .cells #[.string ((rd_T123 l0 (ji21)).f0), .int .i64 ((rd_T123 l0 (ji21)).f1), .bool ((rd_T123 l0 (ji21)).f2), .int .i64 ((rd_T123 l0 (ji21)).f3)] 123 (0, 0)) (zb BK989) hb); replace HB := Aside0.mk (below_step (zB HB) hb); (try clear hb); (try clear hb2); (try clear hk); (try clear hi)))
               go_roundg kj3
               case measure => have := HK1.out; have := HJ3.out; omega
               case rel => exact ⟨(wrap64 (x3_1 + 1)), zr, H', ⟨by have := HK1.out; have := HJ3.out; omega⟩, ⟨zB HB⟩⟩
             ·replace c31 := Bool.eq_false_iff.mpr c31
              subst c31
              rw [if_neg (show ¬ (false = true) by decide)] at H
              obtain rfl := Option.some.inj H
              have p988 : 0 ≤ ((ji21) : Int) := of_decide_eq_true za
              have q988 : (ji21) < (l0.length : Int) := of_decide_eq_true za
              obtain ⟨ad988, e988, hx988_0, hx988_1, hx988_2, hx988_3⟩ := at_T123 HR0.out (ji21) p988 q988
              obtain rfl : ad980 = ad988 := (by injection e988)
              replace hx988_0 := (HB.out.cell (World.block_lt_of_cell? w _ hx988_0)).trans hx988_0
              replace hx988_1 := (HB.out.cell (World.block_lt_of_cell? w _ hx988_1)).trans hx988_1
              replace hx988_2 := (HB.out.cell (World.block_lt_of_cell? w _ hx988_2)).trans hx988_2
              replace hx988_3 := (HB.out.cell (World.block_lt_of_cell? w _ hx988_3)).trans hx988_3
              replace p988 := eq_true p988
              replace q988 := eq_true q988
              go_wp2_with (first | ((with_reducible refine gate_dst (N := 5) rfl ?_); refine box_event ?hg (N := 5) ?hd (cs := #[.string (⟨#[]⟩ : ByteArray), .int .i64 0, .bool false, .int .i64 0]) (t := 123) ?hr ?_; (case hd => rfl); (case hg => rfl); (case hr => first | (go_simp; done) | (go_simp; rfl)); intro gb989 hg w71 hbox hb; have BK989 := Aside0.mk (hbox); have GW989 := Aside0.mk ((by rw [hg]; exact (below_size (zB HB)) : w.heap.size ≤ gb989)); have GE989 := Aside0.mk ((by rw [hg]; exact (below_size (zB HB)) : w.heap.size ≤ gb989)); replace HB := Aside0.mk (below_step (zB HB) hb); have NB981_989 := Aside0.mk ((by rw [hg]; exact Nat.ne_of_lt (blk_lt (g := gb981) (o := .cells #[.string ((rd_T123 l0 x3_1).f0), .int .i64 ((rd_T123 l0 x3_1).f1), .bool ((rd_T123 l0 x3_1).f2), .int .i64 ((rd_T123 l0 x3_1).f3)] 123 (0, 0)) (zb BK981)) : gb981 ≠ gb989)); have NB989_981 := Aside0.mk ((by rw [hg]; exact Nat.ne_of_gt (blk_lt (g := gb981) (o := .cells #[.string ((rd_T123 l0 x3_1).f0), .int .i64 ((rd_T123 l0 x3_1).f1), .bool ((rd_T123 l0 x3_1).f2), .int .i64 ((rd_T123 l0 x3_1).f3)] 123 (0, 0)) (zb BK981)) : gb989 ≠ gb981)); replace BK981 := Aside0.mk (blk_below (g := gb981) (o := .cells #[.string ((rd_T123 l0 x3_1).f0), .int .i64 ((rd_T123 l0 x3_1).f1), .bool ((rd_T123 l0 x3_1).f2), .int .i64 ((rd_T123 l0 x3_1).f3)] 123 (0, 0)) (zb BK981) hb); clear hb hbox hg; have hnb72 := NB989_981.out; have hnc72 := NB981_989.out; have hcz73_0 : w71.cell? ⟨gb989, 0, none⟩ = some (.string (⟨#[]⟩ : ByteArray)) := (blk_cell BK989.out 0).trans rfl; have hcz73_1 : w71.cell? ⟨gb989, 1, none⟩ = some (.int .i64 0) := (blk_cell BK989.out 1).trans rfl; have hcz73_2 : w71.cell? ⟨gb989, 2, none⟩ = some (.bool false) := (blk_cell BK989.out 2).trans rfl; have hcz73_3 : w71.cell? ⟨gb989, 3, none⟩ = some (.int .i64 0) := (blk_cell BK989.out 3).trans rfl; have hfz73_0 := blk_frozen BK989.out 0; have hfz73_1 := blk_frozen BK989.out 1; have hfz73_2 := blk_frozen BK989.out 2; have hfz73_3 := blk_frozen BK989.out 3; have hcz74_0 : w71.cell? ⟨gb981, 0, none⟩ = some (.string ((rd_T123 l0 x3_1).f0)) := (blk_cell BK981.out 0).trans rfl; have hcz74_1 : w71.cell? ⟨gb981, 1, none⟩ = some (.int .i64 ((rd_T123 l0 x3_1).f1)) := (blk_cell BK981.out 1).trans rfl; have hcz74_2 : w71.cell? ⟨gb981, 2, none⟩ = some (.bool ((rd_T123 l0 x3_1).f2)) := (blk_cell BK981.out 2).trans rfl; have hcz74_3 : w71.cell? ⟨gb981, 3, none⟩ = some (.int .i64 ((rd_T123 l0 x3_1).f3)) := (blk_cell BK981.out 3).trans rfl; have hfz74_0 := blk_frozen BK981.out 0; have hfz74_1 := blk_frozen BK981.out 1; have hfz74_2 := blk_frozen BK981.out 2; have hfz74_3 := blk_frozen BK981.out 3) | (go_at_call 147; (with_reducible refine (spec_isSingle.calls ((rd_T123 l0 x3_1).f0) ((rd_T123 l0 x3_1).f1) ((rd_T123 l0 x3_1).f2) ((rd_T123 l0 x3_1).f3) false _ A30.out).mono ?_); rintro e w75 ⟨rfl, hb⟩; replace BK981 := Aside0.mk (blk_below (g := gb981) (o := .cells #[.string ((rd_T123 l0 x3_1).f0), .int .i64 ((rd_T123 l0 x3_1).f1), .bool ((rd_T123 l0 x3_1).f2), .int .i64 ((rd_T123 l0 x3_1).f3)] 123 (0, 0)) (zf BK981) hb); replace BK989 := Aside0.mk (blk_below (g := gb989) (o := .cells #[.string ((rd_T123 l0 (ji21)).f0), .int .i64 ((rd_T123 l0 (ji21)).f1), .bool ((rd_T123 l0 (ji21)).f2), .int .i64 ((rd_T123 l0 (ji21)).f3)] 123 (0, 0)) (by (with_reducible repeat (first | refine blk_drewN ?_ _ | refine blk_drew ?_ | refine blk_alloc ?_ _)); refine blk_put (cs := #[.string ((rd_T123 l0 (ji21)).f0), .int .i64 ((rd_T123 l0 (ji21)).f1), .bool ((rd_T123 l0 (ji21)).f2), .int .i64 0]) ?_ 3 _ rfl; (with_reducible repeat (first | refine blk_drewN ?_ _ | refine blk_drew ?_ | refine blk_alloc ?_ _)); refine blk_put (cs := #[.string ((rd_T123 l0 (ji21)).f0), .int .i64 ((rd_T123 l0 (ji21)).f1), .bool false, .int .i64 0]) ?_ 2 _ rfl; (with_reducible repeat (first | refine blk_drewN ?_ _ | refine blk_drew ?_ | refine blk_alloc ?_ _)); refine blk_put (cs := #[.string ((rd_T123 l0 (ji21)).f0), .int .i64 0, .bool false, .int .i64 0]) ?_ 1 _ rfl; (with_reducible repeat (first | refine blk_drewN ?_ _ | refine blk_drew ?_ | refine blk_alloc ?_ _)); refine blk_put (cs := #[.string (⟨#[]⟩ : ByteArray), .int .i64 0, .bool false, .int .i64 0]) ?_ 0 _ rfl; (with_reducible repeat (first | refine blk_drewN ?_ _ | refine blk_drew ?_ | refine blk_alloc ?_ _)); exact BK989.out) hb); replace HB := Aside0.mk (below_step (zB HB) hb); (try clear hb); (try clear hb2); (try clear hk); (try clear hi)))
              go_ret
              exact ⟨by first | rfl | (simp [errW_none, errW_some] <;> rfl) | (simp only [← hji21]; first | rfl | (simp [errW_none, errW_some] <;> rfl)) | (simp [*, errW_none, errW_some] <;> rfl), zB HB⟩
            ·rw [if_neg c29] at H
             have c29b0 : (((rd_T123 l0 x3_1).f1) == ((rd_T123 l0 (ji21)).f1)) = false := beq_eq_false_iff_ne.mpr c29
             have c29b1 : (((rd_T123 l0 x3_1).f1) != ((rd_T123 l0 (ji21)).f1)) = true := bne_iff_ne.mpr c29
             replace H := Option.bind_eq_some_iff.mp H
             obtain ⟨t992, A760, H⟩ := H
             (try dsimp only at H)
             have A76 := Aside0.mk A760
             clear A760
             by_cases c77 : t992 = true
             ·subst c77
              rw [if_pos rfl] at H
              obtain ⟨bq78, hbq78⟩ : ∃ b_ : Bool, b_ = ((rd_T123 l0 (ji21)).f2) := ⟨_, rfl⟩
              replace H : (if bq78 = true then (if ((rd_T123 l0 x3_1).f2) = true then (spec_validParams.l0 kj3 l0 (wrap64 (x3_1 + 1))) else (some false)) else (spec_validParams.l0 kj3 l0 (wrap64 (x3_1 + 1)))) = some r := by rw [← hbq78] at H; exact H
              (try rw [← hbq78] at BK981)
              (try rw [← hbq78] at A7)
              (try rw [← hbq78] at A11)
              (try rw [← hbq78] at A30)
              (try rw [← hbq78] at A32)
              (try rw [← hbq78] at A76)
              have Nbq78 := Aside0.mk hbq78
              clear hbq78
              by_cases c79 : bq78 = true
              ·subst c79
               rw [if_pos rfl] at H
               obtain ⟨bq80, hbq80⟩ : ∃ b_ : Bool, b_ = ((rd_T123 l0 x3_1).f2) := ⟨_, rfl⟩
               replace H : (if bq80 = true then (spec_validParams.l0 kj3 l0 (wrap64 (x3_1 + 1))) else (some false)) = some r := by rw [← hbq80] at H; exact H
               (try rw [← hbq80] at BK981)
               (try rw [← hbq80] at A7)
               (try rw [← hbq80] at A11)
               (try rw [← hbq80] at A30)
               (try rw [← hbq80] at A32)
               (try rw [← hbq80] at A76)
               have Nbq80 := Aside0.mk hbq80
               clear hbq80
               by_cases c81 : bq80 = true
               ·subst c81
                rw [if_pos rfl] at H
                have H' := Aside0.mk H
                clear H
                have p988 : 0 ≤ ((ji21) : Int) := of_decide_eq_true za
                have q988 : (ji21) < (l0.length : Int) := of_decide_eq_true za
                obtain ⟨ad988, e988, hx988_0, hx988_1, hx988_2, hx988_3⟩ := at_T123 HR0.out (ji21) p988 q988
                (try rw [← Nbq78.out] at hx988_2)
                (try rw [← Nbq80.out] at hx988_2)
                obtain rfl : ad980 = ad988 := (by injection e988)
                replace hx988_0 := (HB.out.cell (World.block_lt_of_cell? w _ hx988_0)).trans hx988_0
                replace hx988_1 := (HB.out.cell (World.block_lt_of_cell? w _ hx988_1)).trans hx988_1
                replace hx988_2 := (HB.out.cell (World.block_lt_of_cell? w _ hx988_2)).trans hx988_2
                replace hx988_3 := (HB.out.cell (World.block_lt_of_cell? w _ hx988_3)).trans hx988_3
                replace p988 := eq_true p988
                replace q988 := eq_true q988
                go_wp2_with (first | ((with_reducible refine gate_dst (N := 5) rfl ?_); refine box_event ?hg (N := 5) ?hd (cs := #[.string (⟨#[]⟩ : ByteArray), .int .i64 0, .bool false, .int .i64 0]) (t := 123) ?hr ?_; (case hd => rfl); (case hg => rfl); (case hr => first | (go_simp; done) | (go_simp; rfl)); intro gb989 hg w82 hbox hb; have BK989 := Aside0.mk (hbox); have GW989 := Aside0.mk ((by rw [hg]; exact (below_size (zB HB)) : w.heap.size ≤ gb989)); have GE989 := Aside0.mk ((by rw [hg]; exact (below_size (zB HB)) : w.heap.size ≤ gb989)); replace HB := Aside0.mk (below_step (zB HB) hb); have NB981_989 := Aside0.mk ((by rw [hg]; exact Nat.ne_of_lt (blk_lt (g := gb981) (o := .cells #[.string ((rd_T123 l0 x3_1).f0), .int .i64 ((rd_T123 l0 x3_1).f1), .bool true, .int .i64 ((rd_T123 l0 x3_1).f3)] 123 (0, 0)) (zb BK981)) : gb981 ≠ gb989)); have NB989_981 := Aside0.mk ((by rw [hg]; exact Nat.ne_of_gt (blk_lt (g := gb981) (o := .cells #[.string ((rd_T123 l0 x3_1).f0), .int .i64 ((rd_T123 l0 x3_1).f1), .bool true, .int .i64 ((rd_T123 l0 x3_1).f3)] 123 (0, 0)) (zb BK981)) : gb989 ≠ gb981)); replace BK981 := Aside0.mk (blk_below (g := gb981) (o := .cells #[.string ((rd_T123 l0 x3_1).f0), .int .i64 ((rd_T123 l0 x3_1).f1), .bool true, .int .i64 ((rd_T123 l0 x3_1).f3)] 123 (0, 0)) (zb BK981) hb); clear hb hbox hg; have hnb83 := NB989_981.out; have hnc83 := NB981_989.out; have hcz84_0 : w82.cell? ⟨gb989, 0, none⟩ = some (.string (⟨#[]⟩ : ByteArray)) := (blk_cell BK989.out 0).trans rfl; have hcz84_1 : w82.cell? ⟨gb989, 1, none⟩ = some (.int .i64 0) := (blk_cell BK989.out 1).trans rfl; have hcz84_2 : w82.cell? ⟨gb989, 2, none⟩ = some (.bool false) := (blk_cell BK989.out 2).trans rfl; have hcz84_3 : w82.cell? ⟨gb989, 3, none⟩ = some (.int .i64 0) := (blk_cell BK989.out 3).trans rfl; have hfz84_0 := blk_frozen BK989.out 0; have hfz84_1 := blk_frozen BK989.out 1; have hfz84_2 := blk_frozen BK989.out 2; have hfz84_3 := blk_frozen BK989.out 3; have hcz85_0 : w82.cell? ⟨gb981, 0, none⟩ = some (.string ((rd_T123 l0 x3_1).f0)) := (blk_cell BK981.out 0).trans rfl; have hcz85_1 : w82.cell? ⟨gb981, 1, none⟩ = some (.int .i64 ((rd_T123 l0 x3_1).f1)) := (blk_cell BK981.out 1).trans rfl; have hcz85_2 : w82.cell? ⟨gb981, 2, none⟩ = some (.bool true) := (blk_cell BK981.out 2).trans rfl; have hcz85_3 : w82.cell? ⟨gb981, 3, none⟩ = some (.int .i64 ((rd_T123 l0 x3_1).f3)) := (blk_cell BK981.out 3).trans rfl; have hfz85_0 := blk_frozen BK981.out 0; have hfz85_1 := blk_frozen BK981.out 1; have hfz85_2 := blk_frozen BK981.out 2; have hfz85_3 := blk_frozen BK981.out 3) | (go_at_call 152; (with_reducible refine (spec_byPlace.calls ((rd_T123 l0 x3_1).f0) ((rd_T123 l0 x3_1).f1) true ((rd_T123 l0 x3_1).f3) true _ A76.out).mono ?_); rintro e w86 ⟨rfl, hb⟩; replace BK981 := Aside0.mk (blk_below (g := gb981) (o := .cells #[.string ((rd_T123 l0 x3_1).f0), .int .i64 ((rd_T123 l0 x3_1).f1), .bool true, .int .i64 ((rd_T123 l0 x3_1).f3)] 123 (0, 0)) (zf BK981) hb); replace BK989 := Aside0.mk (blk_below (g := gb989) (o := .cells #[.string ((rd_T123 l0 (ji21)).f0), .int .i64 ((rd_T123 l0 (ji21)).f1), .bool true, .int .i64 ((rd_T123 l0 (ji21)).f3)] 123 (0, 0)) (by (with_reducible repeat (first | refine blk_drewN ?_ _ | refine blk_drew ?_ | refine blk_alloc ?_ _)); refine blk_put (cs := #[.string ((rd_T123 l0 (ji21)).f0), .int .i64 ((rd_T123 l0 (ji21)).f1), .bool true, .int .i64 0]) ?_ 3 _ rfl; (with_reducible repeat (first | refine blk_drewN ?_ _ | refine blk_drew ?_ | refine blk_alloc ?_ _)); refine blk_put (cs := #[.string ((rd_T123 l0 (ji21)).f0), .int .i64 ((rd_T123 l0 (ji21)).f1), .bool false, .int .i64 0]) ?_ 2 _ rfl; (with_reducible repeat (first | refine blk_drewN ?_ _ | refine blk_drew ?_ | refine blk_alloc ?_ _)); refine blk_put (cs := #[.string ((rd_T123 l0 (ji21)).f0), .int .i64 0, .bool false, .int .i64 0]) ?_ 1 _ rfl; (with_reducible repeat (first | refine blk_drewN ?_ _ | refine blk_drew ?_ | refine blk_alloc ?_ _)); refine blk_put (cs := #[.string (⟨#[]⟩ : ByteArray), .int .i64 0, .bool false, .int .i64 0]) ?_ 0 _ rfl; (with_reducible repeat (first | refine blk_drewN ?_ _ | refine blk_drew ?_ | refine blk_alloc ?_ _)); exact BK989.out) hb); replace HB := Aside0.mk (below_step (zB HB) hb); (try clear hb); (try clear hb2); (try clear hk); (try clear hi); have hcz87_0 : w86.cell? ⟨gb989, 0, none⟩ = some (.string ((rd_T123 l0 (ji21)).f0)) := (blk_cell BK989.out 0).trans rfl; have hcz87_1 : w86.cell? ⟨gb989, 1, none⟩ = some (.int .i64 ((rd_T123 l0 (ji21)).f1)) := (blk_cell BK989.out 1).trans rfl; have hcz87_2 : w86.cell? ⟨gb989, 2, none⟩ = some (.bool true) := (blk_cell BK989.out 2).trans rfl; have hcz87_3 : w86.cell? ⟨gb989, 3, none⟩ = some (.int .i64 ((rd_T123 l0 (ji21)).f3)) := (blk_cell BK989.out 3).trans rfl; have hfz87_0 := blk_frozen BK989.out 0; have hfz87_1 := blk_frozen BK989.out 1; have hfz87_2 := blk_frozen BK989.out 2; have hfz87_3 := blk_frozen BK989.out 3; have hcz88_0 : w86.cell? ⟨gb981, 0, none⟩ = some (.string ((rd_T123 l0 x3_1).f0)) := (blk_cell BK981.out 0).trans rfl; have hcz88_1 : w86.cell? ⟨gb981, 1, none⟩ = some (.int .i64 ((rd_T123 l0 x3_1).f1)) := (blk_cell BK981.out 1).trans rfl; have hcz88_2 : w86.cell? ⟨gb981, 2, none⟩ = some (.bool true) := (blk_cell BK981.out 2).trans rfl; have hcz88_3 : w86.cell? ⟨gb981, 3, none⟩ = some (.int .i64 ((rd_T123 l0 x3_1).f3)) := (blk_cell BK981.out 3).trans rfl; have hfz88_0 := blk_frozen BK981.out 0; have hfz88_1 := blk_frozen BK981.out 1; have hfz88_2 := blk_frozen BK981.out 2; have hfz88_3 := blk_frozen BK981.out 3))
                go_roundg kj3
                case measure => have := HK1.out; have := HJ3.out; omega
                case rel => (try rw [← Nbq78.out]); (try rw [← Nbq80.out]); exact ⟨(wrap64 (x3_1 + 1)), zr, H', ⟨by have := HK1.out; have := HJ3.out; omega⟩, ⟨zB HB⟩⟩
               ·replace c81 := Bool.eq_false_iff.mpr c81
                subst c81
                rw [if_neg (show ¬ (false = true) by decide)] at H
                obtain rfl := Option.some.inj H
                have p988 : 0 ≤ ((ji21) : Int) := of_decide_eq_true za
                have q988 : (ji21) < (l0.length : Int) := of_decide_eq_true za
                obtain ⟨ad988, e988, hx988_0, hx988_1, hx988_2, hx988_3⟩ := at_T123 HR0.out (ji21) p988 q988
                (try rw [← Nbq78.out] at hx988_2)
                (try rw [← Nbq80.out] at hx988_2)
                obtain rfl : ad980 = ad988 := (by injection e988)
                replace hx988_0 := (HB.out.cell (World.block_lt_of_cell? w _ hx988_0)).trans hx988_0
                replace hx988_1 := (HB.out.cell (World.block_lt_of_cell? w _ hx988_1)).trans hx988_1
                replace hx988_2 := (HB.out.cell (World.block_lt_of_cell? w _ hx988_2)).trans hx988_2
                replace hx988_3 := (HB.out.cell (World.block_lt_of_cell? w _ hx988_3)).trans hx988_3
                replace p988 := eq_true p988
                replace q988 := eq_true q988
                go_wp2_with (first | ((with_reducible refine gate_dst (N := 5) rfl ?_); refine box_event ?hg (N := 5) ?hd (cs := #[.string (⟨#[]⟩ : ByteArray), .int .i64 0, .bool false, .int .i64 0]) (t := 123) ?hr ?_; (case hd => rfl); (case hg => rfl); (case hr => first | (go_simp; done) | (go_simp; rfl)); intro gb989 hg w89 hbox hb; have BK989 := Aside0.mk (hbox); have GW989 := Aside0.mk ((by rw [hg]; exact (below_size (zB HB)) : w.heap.size ≤ gb989)); have GE989 := Aside0.mk ((by rw [hg]; exact (below_size (zB HB)) : w.heap.size ≤ gb989)); replace HB := Aside0.mk (below_step (zB HB) hb); have NB981_989 := Aside0.mk ((by rw [hg]; exact Nat.ne_of_lt (blk_lt (g := gb981) (o := .cells #[.string ((rd_T123 l0 x3_1).f0), .int .i64 ((rd_T123 l0 x3_1).f1), .bool false, .int .i64 ((rd_T123 l0 x3_1).f3)] 123 (0, 0)) (zb BK981)) : gb981 ≠ gb989)); have NB989_981 := Aside0.mk ((by rw [hg]; exact Nat.ne_of_gt (blk_lt (g := gb981) (o := .cells #[.string ((rd_T123 l0 x3_1).f0), .int .i64 ((rd_T123 l0 x3_1).f1), .bool false, .int .i64 ((rd_T123 l0 x3_1).f3)] 123 (0, 0)) (zb BK981)) : gb989 ≠ gb981)); replace BK981 := Aside0.mk (blk_below (g := gb981) (o := .cells #[.string ((rd_T123 l0 x3_1).f0), .int .i64 ((rd_T123 l0 x3_1).f1), .bool false, .int .i64 ((rd_T123 l0 x3_1).f3)] 123 (0, 0)) (zb BK981) hb); clear hb hbox hg; have hnb90 := NB989_981.out; have hnc90 := NB981_989.out; have hcz91_0 : w89.cell? ⟨gb989, 0, none⟩ = some (.string (⟨#[]⟩ : ByteArray)) := (blk_cell BK989.out 0).trans rfl; have hcz91_1 : w89.cell? ⟨gb989, 1, none⟩ = some (.int .i64 0) := (blk_cell BK989.out 1).trans rfl; have hcz91_2 : w89.cell? ⟨gb989, 2, none⟩ = some (.bool false) := (blk_cell BK989.out 2).trans rfl; have hcz91_3 : w89.cell? ⟨gb989, 3, none⟩ = some (.int .i64 0) := (blk_cell BK989.out 3).trans rfl; have hfz91_0 := blk_frozen BK989.out 0; have hfz91_1 := blk_frozen BK989.out 1; have hfz91_2 := blk_frozen BK989.out 2; have hfz91_3 := blk_frozen BK989.out 3; have hcz92_0 : w89.cell? ⟨gb981, 0, none⟩ = some (.string ((rd_T123 l0 x3_1).f0)) := (blk_cell BK981.out 0).trans rfl; have hcz92_1 : w89.cell? ⟨gb981, 1, none⟩ = some (.int .i64 ((rd_T123 l0 x3_1).f1)) := (blk_cell BK981.out 1).trans rfl; have hcz92_2 : w89.cell? ⟨gb981, 2, none⟩ = some (.bool false) := (blk_cell BK981.out 2).trans rfl; have hcz92_3 : w89.cell? ⟨gb981, 3, none⟩ = some (.int .i64 ((rd_T123 l0 x3_1).f3)) := (blk_cell BK981.out 3).trans rfl; have hfz92_0 := blk_frozen BK981.out 0; have hfz92_1 := blk_frozen BK981.out 1; have hfz92_2 := blk_frozen BK981.out 2; have hfz92_3 := blk_frozen BK981.out 3) | (go_at_call 152; (with_reducible refine (spec_byPlace.calls ((rd_T123 l0 x3_1).f0) ((rd_T123 l0 x3_1).f1) false ((rd_T123 l0 x3_1).f3) true _ A76.out).mono ?_); rintro e w93 ⟨rfl, hb⟩; replace BK981 := Aside0.mk (blk_below (g := gb981) (o := .cells #[.string ((rd_T123 l0 x3_1).f0), .int .i64 ((rd_T123 l0 x3_1).f1), .bool false, .int .i64 ((rd_T123 l0 x3_1).f3)] 123 (0, 0)) (zf BK981) hb); replace BK989 := Aside0.mk (blk_below (g := gb989) (o := .cells #[.string ((rd_T123 l0 (ji21)).f0), .int .i64 ((rd_T123 l0 (ji21)).f1), .bool true, .int .i64 ((rd_T123 l0 (ji21)).f3)] 123 (0, 0)) (by (with_reducible repeat (first | refine blk_drewN ?_ _ | refine blk_drew ?_ | refine blk_alloc ?_ _)); refine blk_put (cs := #[.string ((rd_T123 l0 (ji21)).f0), .int .i64 ((rd_T123 l0 (ji21)).f1), .bool true, .int .i64 0]) ?_ 3 _ rfl; (with_reducible repeat (first | refine blk_drewN ?_ _ | refine blk_drew ?_ | refine blk_alloc ?_ _)); refine blk_put (cs := #[.string ((rd_T123 l0 (ji21)).f0), .int .i64 ((rd_T123 l0 (ji21)).f1), .bool false, .int .i64 0]) ?_ 2 _ rfl; (with_reducible repeat (first | refine blk_drewN ?_ _ | refine blk_drew ?_ | refine blk_alloc ?_ _)); refine blk_put (cs := #[.string ((rd_T123 l0 (ji21)).f0), .int .i64 0, .bool false, .int .i64 0]) ?_ 1 _ rfl; (with_reducible repeat (first | refine blk_drewN ?_ _ | refine blk_drew ?_ | refine blk_alloc ?_ _)); refine blk_put (cs := #[.string (⟨#[]⟩ : ByteArray), .int .i64 0, .bool false, .int .i64 0]) ?_ 0 _ rfl; (with_reducible repeat (first | refine blk_drewN ?_ _ | refine blk_drew ?_ | refine blk_alloc ?_ _)); exact BK989.out) hb); replace HB := Aside0.mk (below_step (zB HB) hb); (try clear hb); (try clear hb2); (try clear hk); (try clear hi); have hcz94_0 : w93.cell? ⟨gb989, 0, none⟩ = some (.string ((rd_T123 l0 (ji21)).f0)) := (blk_cell BK989.out 0).trans rfl; have hcz94_1 : w93.cell? ⟨gb989, 1, none⟩ = some (.int .i64 ((rd_T123 l0 (ji21)).f1)) := (blk_cell BK989.out 1).trans rfl; have hcz94_2 : w93.cell? ⟨gb989, 2, none⟩ = some (.bool true) := (blk_cell BK989.out 2).trans rfl; have hcz94_3 : w93.cell? ⟨gb989, 3, none⟩ = some (.int .i64 ((rd_T123 l0 (ji21)).f3)) := (blk_cell BK989.out 3).trans rfl; have hfz94_0 := blk_frozen BK989.out 0; have hfz94_1 := blk_frozen BK989.out 1; have hfz94_2 := blk_frozen BK989.out 2; have hfz94_3 := blk_frozen BK989.out 3; have hcz95_0 : w93.cell? ⟨gb981, 0, none⟩ = some (.string ((rd_T123 l0 x3_1).f0)) := (blk_cell BK981.out 0).trans rfl; have hcz95_1 : w93.cell? ⟨gb981, 1, none⟩ = some (.int .i64 ((rd_T123 l0 x3_1).f1)) := (blk_cell BK981.out 1).trans rfl; have hcz95_2 : w93.cell? ⟨gb981, 2, none⟩ = some (.bool false) := (blk_cell BK981.out 2).trans rfl; have hcz95_3 : w93.cell? ⟨gb981, 3, none⟩ = some (.int .i64 ((rd_T123 l0 x3_1).f3)) := (blk_cell BK981.out 3).trans rfl; have hfz95_0 := blk_frozen BK981.out 0; have hfz95_1 := blk_frozen BK981.out 1; have hfz95_2 := blk_frozen BK981.out 2; have hfz95_3 := blk_frozen BK981.out 3))
                go_ret
                exact ⟨by first | rfl | (simp [errW_none, errW_some] <;> rfl) | (simp only [← hji21]; first | rfl | (simp [errW_none, errW_some] <;> rfl)) | (simp [*, errW_none, errW_some] <;> rfl), zB HB⟩
              ·replace c79 := Bool.eq_false_iff.mpr c79
               subst c79
               rw [if_neg (show ¬ (false = true) by decide)] at H
               have H' := Aside0.mk H
               clear H
               have p988 : 0 ≤ ((ji21) : Int) := of_decide_eq_true za
               have q988 : (ji21) < (l0.length : Int) := of_decide_eq_true za
               obtain ⟨ad988, e988, hx988_0, hx988_1, hx988_2, hx988_3⟩ := at_T123 HR0.out (ji21) p988 q988
               (try rw [← Nbq78.out] at hx988_2)
               obtain rfl : ad980 = ad988 := (by injection e988)
               replace hx988_0 := (HB.out.cell (World.block_lt_of_cell? w _ hx988_0)).trans hx988_0
               replace hx988_1 := (HB.out.cell (World.block_lt_of_cell? w _ hx988_1)).trans hx988_1
               replace hx988_2 := (HB.out.cell (World.block_lt_of_cell? w _ hx988_2)).trans hx988_2
               replace hx988_3 := (HB.out.cell (World.block_lt_of_cell? w _ hx988_3)).trans hx988_3
               replace p988 := eq_true p988
               replace q988 := eq_true q988
               go_wp2_with (first | ((with_reducible refine gate_dst (N := 5) rfl ?_); refine box_event ?hg (N := 5) ?hd (cs := #[.string (⟨#[]⟩ : ByteArray), .int .i64 0, .bool false, .int .i64 0]) (t := 123) ?hr ?_; (case hd => rfl); (case hg => rfl); (case hr => first | (go_simp; done) | (go_simp; rfl)); intro gb989 hg w96 hbox hb; have BK989 := Aside0.mk (hbox); have GW989 := Aside0.mk ((by rw [hg]; exact (below_size (zB HB)) : w.heap.size ≤ gb989)); have GE989 := Aside0.mk ((by rw [hg]; exact (below_size (zB HB)) : w.heap.size ≤ gb989)); replace HB := Aside0.mk (below_step (zB HB) hb); have NB981_989 := Aside0.mk ((by rw [hg]; exact Nat.ne_of_lt (blk_lt (g := gb981) (o := .cells #[.string ((rd_T123 l0 x3_1).f0), .int .i64 ((rd_T123 l0 x3_1).f1), .bool ((rd_T123 l0 x3_1).f2), .int .i64 ((rd_T123 l0 x3_1).f3)] 123 (0, 0)) (zb BK981)) : gb981 ≠ gb989)); have NB989_981 := Aside0.mk ((by rw [hg]; exact Nat.ne_of_gt (blk_lt (g := gb981) (o := .cells #[.string ((rd_T123 l0 x3_1).f0), .int .i64 ((rd_T123 l0 x3_1).f1), .bool ((rd_T123 l0 x3_1).f2), .int .i64 ((rd_T123 l0 x3_1).f3)] 123 (0, 0)) (zb BK981)) : gb989 ≠ gb981)); replace BK981 := Aside0.mk (blk_below (g := gb981) (o := .cells #[.string ((rd_T123 l0 x3_1).f0), .int .i64 ((rd_T123 l0 x3_1).f1), .bool ((rd_T123 l0 x3_1).f2), .int .i64 ((rd_T123 l0 x3_1).f3)] 123 (0, 0)) (zb BK981) hb); clear hb hbox hg; have hnb97 := NB989_981.out; have hnc97 := NB981_989.out; have hcz98_0 : w96.cell? ⟨gb989, 0, none⟩ = some (.string (⟨#[]⟩ : ByteArray)) := (blk_cell BK989.out 0).trans rfl; have hcz98_1 : w96.cell? ⟨gb989, 1, none⟩ = some (.int .i64 0) := (blk_cell BK989.out 1).trans rfl; have hcz98_2 : w96.cell? ⟨gb989, 2, none⟩ = some (.bool false) := (blk_cell BK989.out 2).trans rfl; have hcz98_3 : w96.cell? ⟨gb989, 3, none⟩ = some (.int .i64 0) := (blk_cell BK989.out 3).trans rfl; have hfz98_0 := blk_frozen BK989.out 0; have hfz98_1 := blk_frozen BK989.out 1; have hfz98_2 := blk_frozen BK989.out 2; have hfz98_3 := blk_frozen BK989.out 3; have hcz99_0 : w96.cell? ⟨gb981, 0, none⟩ = some (.string ((rd_T123 l0 x3_1).f0)) := (blk_cell BK981.out 0).trans rfl; have hcz99_1 : w96.cell? ⟨gb981, 1, none⟩ = some (.int .i64 ((rd_T123 l0 x3_1).f1)) := (blk_cell BK981.out 1).trans rfl; have hcz99_2 : w96.cell? ⟨gb981, 2, none⟩ = some (.bool ((rd_T123 l0 x3_1).f2)) := (blk_cell BK981.out 2).trans rfl; have hcz99_3 : w96.cell? ⟨gb981, 3, none⟩ = some (.int .i64 ((rd_T123 l0 x3_1).f3)) := (blk_cell BK981.out 3).trans rfl; have hfz99_0 := blk_frozen BK981.out 0; have hfz99_1 := blk_frozen BK981.out 1; have hfz99_2 := blk_frozen BK981.out 2; have hfz99_3 := blk_frozen BK981.out 3) | (go_at_call 152; (with_reducible refine (spec_byPlace.calls ((rd_T123 l0 x3_1).f0) ((rd_T123 l0 x3_1).f1) ((rd_T123 l0 x3_1).f2) ((rd_T123 l0 x3_1).f3) true _ A76.out).mono ?_); rintro e w100 ⟨rfl, hb⟩; replace BK981 := Aside0.mk (blk_below (g := gb981) (o := .cells #[.string ((rd_T123 l0 x3_1).f0), .int .i64 ((rd_T123 l0 x3_1).f1), .bool ((rd_T123 l0 x3_1).f2), .int .i64 ((rd_T123 l0 x3_1).f3)] 123 (0, 0)) (zf BK981) hb); replace BK989 := Aside0.mk (blk_below (g := gb989) (o := .cells #[.string ((rd_T123 l0 (ji21)).f0), .int .i64 ((rd_T123 l0 (ji21)).f1), .bool false, .int .i64 ((rd_T123 l0 (ji21)).f3)] 123 (0, 0)) (by (with_reducible repeat (first | refine blk_drewN ?_ _ | refine blk_drew ?_ | refine blk_alloc ?_ _)); refine blk_put (cs := #[.string ((rd_T123 l0 (ji21)).f0), .int .i64 ((rd_T123 l0 (ji21)).f1), .bool false, .int .i64 0]) ?_ 3 _ rfl; (with_reducible repeat (first | refine blk_drewN ?_ _ | refine blk_drew ?_ | refine blk_alloc ?_ _)); refine blk_put (cs := #[.string ((rd_T123 l0 (ji21)).f0), .int .i64 ((rd_T123 l0 (ji21)).f1), .bool false, .int .i64 0]) ?_ 2 _ rfl; (with_reducible repeat (first | refine blk_drewN ?_ _ | refine blk_drew ?_ | refine blk_alloc ?_ _)); refine blk_put (cs := #[.string ((rd_T123 l0 (ji21)).f0), .int .i64 0, .bool false, .int .i64 0]) ?_ 1 _ rfl; (with_reducible repeat (first | refine blk_drewN ?_ _ | refine blk_drew ?_ | refine blk_alloc ?_ _)); refine blk_put (cs := #[.string (⟨#[]⟩ : ByteArray), .int .i64 0, .bool false, .int .i64 0]) ?_ 0 _ rfl; (with_reducible repeat (first | refine blk_drewN ?_ _ | refine blk_drew ?_ | refine blk_alloc ?_ _)); exact BK989.out) hb); replace HB := Aside0.mk (below_step (zB HB) hb); (try clear hb); (try clear hb2); (try clear hk); (try clear hi); have hcz101_0 : w100.cell? ⟨gb989, 0, none⟩ = some (.string ((rd_T123 l0 (ji21)).f0)) := (blk_cell BK989.out 0).trans rfl; have hcz101_1 : w100.cell? ⟨gb989, 1, none⟩ = some (.int .i64 ((rd_T123 l0 (ji21)).f1)) := (blk_cell BK989.out 1).trans rfl; have hcz101_2 : w100.cell? ⟨gb989, 2, none⟩ = some (.bool false) := (blk_cell BK989.out 2).trans rfl; have hcz101_3 : w100.cell? ⟨gb989, 3, none⟩ = some (.int .i64 ((rd_T123 l0 (ji21)).f3)) := (blk_cell BK989.out 3).trans rfl; have hfz101_0 := blk_frozen BK989.out 0; have hfz101_1 := blk_frozen BK989.out 1; have hfz101_2 := blk_frozen BK989.out 2; have hfz101_3 := blk_frozen BK989.out 3))
               go_roundg kj3
               case measure => have := HK1.out; have := HJ3.out; omega
               case rel => (try rw [← Nbq78.out]); exact ⟨(wrap64 (x3_1 + 1)), zr, H', ⟨by have := HK1.out; have := HJ3.out; omega⟩, ⟨zB HB⟩⟩
             ·replace c77 := Bool.eq_false_iff.mpr c77
              subst c77
              rw [if_neg (show ¬ (false = true) by decide)] at H
              have H' := Aside0.mk H
              clear H
              have p988 : 0 ≤ ((ji21) : Int) := of_decide_eq_true za
              have q988 : (ji21) < (l0.length : Int) := of_decide_eq_true za
              obtain ⟨ad988, e988, hx988_0, hx988_1, hx988_2, hx988_3⟩ := at_T123 HR0.out (ji21) p988 q988
              obtain rfl : ad980 = ad988 := (by injection e988)
              replace hx988_0 := (HB.out.cell (World.block_lt_of_cell? w _ hx988_0)).trans hx988_0
              replace hx988_1 := (HB.out.cell (World.block_lt_of_cell? w _ hx988_1)).trans hx988_1
              replace hx988_2 := (HB.out.cell (World.block_lt_of_cell? w _ hx988_2)).trans hx988_2
              replace hx988_3 := (HB.out.cell (World.block_lt_of_cell? w _ hx988_3)).trans hx988_3
              replace p988 := eq_true p988
              replace q988 := eq_true q988
              go_wp2_with (first | ((with_reducible refine gate_dst (N := 5) rfl ?_); refine box_event ?hg (N := 5) ?hd (cs := #[.string (⟨#[]⟩ : ByteArray), .int .i64 0, .bool false, .int .i64 0]) (t := 123) ?hr ?_; (case hd => rfl); (case hg => rfl); (case hr => first | (go_simp; done) | (go_simp; rfl)); intro gb989 hg w102 hbox hb; have BK989 := Aside0.mk (hbox); have GW989 := Aside0.mk ((by rw [hg]; exact (below_size (zB HB)) : w.heap.size ≤ gb989)); have GE989 := Aside0.mk ((by rw [hg]; exact (below_size (zB HB)) : w.heap.size ≤ gb989)); replace HB := Aside0.mk (below_step (zB HB) hb); have NB981_989 := Aside0.mk ((by rw [hg]; exact Nat.ne_of_lt (blk_lt (g := gb981) (o := .cells #[.string ((rd_T123 l0 x3_1).f0), .int .i64 ((rd_T123 l0 x3_1).f1), .bool ((rd_T123 l0 x3_1).f2), .int .i64 ((rd_T123 l0 x3_1).f3)] 123 (0, 0)) (zb BK981)) : gb981 ≠ gb989)); have NB989_981 := Aside0.mk ((by rw [hg]; exact Nat.ne_of_gt (blk_lt (g := gb981) (o := .cells #[.string ((rd_T123 l0 x3_1).f0), .int .i64 ((rd_T123 l0 x3_1).f1), .bool ((rd_T123 l0 x3_1).f2), .int .i64 ((rd_T123 l0 x3_1).f3)] 123 (0, 0)) (zb BK981)) : gb989 ≠ gb981)); replace BK981 := Aside0.mk (blk_below (g := gb981) (o := .cells #[.string ((rd_T123 l0 x3_1).f0), .int .i64 ((rd_T123 l0 x3_1).f1), .bool ((rd_T123 l0 x3_1).f2), .int .i64 ((rd_T123 l0 x3_1).f3)] 123 (0, 0)) (zb BK981) hb); clear hb hbox hg; have hnb103 := NB989_981.out; have hnc103 := NB981_989.out; have hcz104_0 : w102.cell? ⟨gb989, 0, none⟩ = some (.string (⟨#[]⟩ : ByteArray)) := (blk_cell BK989.out 0).trans rfl; have hcz104_1 : w102.cell? ⟨gb989, 1, none⟩ = some (.int .i64 0) := (blk_cell BK989.out 1).trans rfl; have hcz104_2 : w102.cell? ⟨gb989, 2, none⟩ = some (.bool false) := (blk_cell BK989.out 2).trans rfl; have hcz104_3 : w102.cell? ⟨gb989, 3, none⟩ = some (.int .i64 0) := (blk_cell BK989.out 3).trans rfl; have hfz104_0 := blk_frozen BK989.out 0; have hfz104_1 := blk_frozen BK989.out 1; have hfz104_2 := blk_frozen BK989.out 2; have hfz104_3 := blk_frozen BK989.out 3; have hcz105_0 : w102.cell? ⟨gb981, 0, none⟩ = some (.string ((rd_T123 l0 x3_1).f0)) := (blk_cell BK981.out 0).trans rfl; have hcz105_1 : w102.cell? ⟨gb981, 1, none⟩ = some (.int .i64 ((rd_T123 l0 x3_1).f1)) := (blk_cell BK981.out 1).trans rfl; have hcz105_2 : w102.cell? ⟨gb981, 2, none⟩ = some (.bool ((rd_T123 l0 x3_1).f2)) := (blk_cell BK981.out 2).trans rfl; have hcz105_3 : w102.cell? ⟨gb981, 3, none⟩ = some (.int .i64 ((rd_T123 l0 x3_1).f3)) := (blk_cell BK981.out 3).trans rfl; have hfz105_0 := blk_frozen BK981.out 0; have hfz105_1 := blk_frozen BK981.out 1; have hfz105_2 := blk_frozen BK981.out 2; have hfz105_3 := blk_frozen BK981.out 3) | (go_at_call 152; (with_reducible refine (spec_byPlace.calls ((rd_T123 l0 x3_1).f0) ((rd_T123 l0 x3_1).f1) ((rd_T123 l0 x3_1).f2) ((rd_T123 l0 x3_1).f3) false _ A76.out).mono ?_); rintro e w106 ⟨rfl, hb⟩; replace BK981 := Aside0.mk (blk_below (g := gb981) (o := .cells #[.string ((rd_T123 l0 x3_1).f0), .int .i64 ((rd_T123 l0 x3_1).f1), .bool ((rd_T123 l0 x3_1).f2), .int .i64 ((rd_T123 l0 x3_1).f3)] 123 (0, 0)) (zf BK981) hb); replace BK989 := Aside0.mk (blk_below (g := gb989) (o := .cells #[.string ((rd_T123 l0 (ji21)).f0), .int .i64 ((rd_T123 l0 (ji21)).f1), .bool ((rd_T123 l0 (ji21)).f2), .int .i64 ((rd_T123 l0 (ji21)).f3)] 123 (0, 0)) (by (with_reducible repeat (first | refine blk_drewN ?_ _ | refine blk_drew ?_ | refine blk_alloc ?_ _)); refine blk_put (cs := #[.string ((rd_T123 l0 (ji21)).f0), .int .i64 ((rd_T123 l0 (ji21)).f1), .bool ((rd_T123 l0 (ji21)).f2), .int .i64 0]) ?_ 3 _ rfl; (with_reducible repeat (first | refine blk_drewN ?_ _ | refine blk_drew ?_ | refine blk_alloc ?_ _)); refine blk_put (cs := #[.string ((rd_T123 l0 (ji21)).f0), .int .i64 ((rd_T123 l0 (ji21)).f1), .bool false, .int .i64 0]) ?_ 2 _ rfl; (with_reducible repeat (first | refine blk_drewN ?_ _ | refine blk_drew ?_ | refine blk_alloc ?_ _)); refine blk_put (cs := #[.string ((rd_T123 l0 (ji21)).f0), .int .i64 0, .bool false, .int .i64 0]) ?_ 1 _ rfl; (with_reducible repeat (first | refine blk_drewN ?_ _ | refine blk_drew ?_ | refine blk_alloc ?_ _)); refine blk_put (cs := #[.string (⟨#[]⟩ : ByteArray), .int .i64 0, .bool false, .int .i64 0]) ?_ 0 _ rfl; (with_reducible repeat (first | refine blk_drewN ?_ _ | refine blk_drew ?_ | refine blk_alloc ?_ _)); exact BK989.out) hb); replace HB := Aside0.mk (below_step (zB HB) hb); (try clear hb); (try clear hb2); (try clear hk); (try clear hi)))
              go_roundg kj3
              case measure => have := HK1.out; have := HJ3.out; omega
              case rel => exact ⟨(wrap64 (x3_1 + 1)), zr, H', ⟨by have := HK1.out; have := HJ3.out; omega⟩, ⟨zB HB⟩⟩
          ·rw [if_neg c23] at H
           exact absurd H (by simp)
         ·rw [if_neg c22] at H
          exact absurd H (by simp)
    ·rw [if_neg c3] at H
     exact absurd H (by simp)
   ·rw [if_neg c2] at H
    have c2b0 : decide (x3_1 < (l0.length : Int)) = false := decide_eq_false c2
    clear c2
    obtain rfl := Option.some.inj H
    go_wp2
    go_ret
    exact ⟨by first | rfl | (simp [errW_none, errW_some] <;> rfl) | (simp [*, errW_none, errW_some] <;> rfl), zB HB⟩

end Go.Proofs.Ytfcpbgedgedalaa.Q
