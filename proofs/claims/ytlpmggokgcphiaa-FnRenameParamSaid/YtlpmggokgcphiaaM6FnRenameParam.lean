-- written by px.py and merge.py (programs of this claim's), over the kit's print. Not trusted: Lean checks it.
import Derived.Test.YtlpmggokgcphiaaQ0
import Derived.Test.YtlpmggokgcphiaaM5FnRenameParam
import Derived.Test.YtlpmggokgcphiaaM1FnRenameParam
import Derived.Test.YtlpmggokgcphiaaM0FnRenameParam
import Derived.Test.YtlpmggokgcphiaaM4FnRenameParam
namespace Go.Proofs.Ytlpmggokgcphiaa.Q
open Go.RowKit Go.Proofs.YtlpmggokgcphiaaL.PrintWords Go.Proofs.YtlpmggokgcphiaaL.PrintLast Go.Proofs.YtlpmggokgcphiaaL.PrintMore
attribute [local go_sem] max2_int min2_int max_two min_two max_three min_three max_four min_four   -- for this text's walks alone
set_option linter.unusedVariables false
set_option linter.unusedSimpArgs false

def PxChg (g : Nat) (lb : Array Value) (mf : S33 → S33) (mb : S33 → Bool) (w : World) : Prop :=
 ∀ (W : World) (base go co i : Nat) (t : List S33), Below w.heap.size w W → w.heap.size ≤ base → base ≤ go → base ≤ W.heap.size → i < t.length → Kd.R k33 33 W base (fun _ => True) (.slice (some ⟨go, 0, none⟩) t.length co) t →
  Calls Try.prog g (#[.pointer (some ⟨go, i * 4, none⟩)] ++ lb) W fun e w' => e = .returned (.bool (mb (t.getD i z33))) ∧ Kd.R k33 33 w' base (fun _ => True) (.slice (some ⟨go, 0, none⟩) t.length co) (t.set i (mf (t.getD i z33))) ∧ W.grownBy w' (some go) ∧ Below base W w'
theorem chg_below {W w' : World} {go base : Nat} (hg : W.grownBy w' (some go)) (hb : base ≤ go) (hs : base ≤ W.heap.size) : Below base W w' :=
 ⟨hg.os, hg.tape, hg.output, hg.size, fun i hi => hg.block i (by omega) (by simp only [Ne, Option.some.injEq]; omega)⟩
theorem chg_trans {a w w' : World} {row : Option Nat} (h : a.grownBy w row) (k : w.grownBy w' row) : a.grownBy w' row :=
 ⟨k.os.trans h.os, k.tape.trans h.tape, k.output.trans h.output, Nat.le_trans h.size k.size, fun i hi hr => (k.block i (Nat.lt_of_lt_of_le hi h.size) hr).trans (h.block i hi hr)⟩
theorem chg_cells {W : World} {base go co i : Nat} {t : List S33} (hi : i < t.length) (hR : Kd.R k33 33 W base (fun _ => True) (.slice (some ⟨go, 0, none⟩) t.length co) t) :
  (W.cell? ⟨go, i * 4, none⟩ = some (.string (t.getD i z33).f0) ∧ W.cell? ⟨go, i * 4 + 1, none⟩ = some (.int .i64 (t.getD i z33).f1) ∧ W.cell? ⟨go, i * 4 + 2, none⟩ = some (.bool (t.getD i z33).f2) ∧ W.cell? ⟨go, i * 4 + 3, none⟩ = some (.int .i64 (t.getD i z33).f3)) ∧ ∀ j, W.frozen? ⟨go, i * 4 + j, none⟩ = false := by
 obtain ⟨ce, hcl, hM, hcc, hfr⟩ := Kd.R_elem hR z33 (i : Int) (by omega) (by omega); obtain rfl := k33_openM hM; exact ⟨⟨hcc 0 _ rfl, hcc 1 _ rfl, hcc 2 _ rfl, hcc 3 _ rfl⟩, hfr⟩
theorem chg_seg {W : World} {base go co i : Nat} {t : List S33} (hi : i < t.length) (hR : Kd.R k33 33 W base (fun _ => True) (.slice (some ⟨go, 0, none⟩) t.length co) t) (x' : S33) (seg : List Value) (j : Nat) (hj : j + seg.length ≤ 4)
  (he : ([.string (t.getD i z33).f0, .int .i64 (t.getD i z33).f1, .bool (t.getD i z33).f2, .int .i64 (t.getD i z33).f3] : List Value).take j ++ seg ++ ([.string (t.getD i z33).f0, .int .i64 (t.getD i z33).f1, .bool (t.getD i z33).f2, .int .i64 (t.getD i z33).f3] : List Value).drop (j + seg.length) = [.string x'.f0, .int .i64 x'.f1, .bool x'.f2, .int .i64 x'.f3]) :
  Kd.R k33 33 (W.setCells go (i * 4 + j) seg) base (fun _ => True) (.slice (some ⟨go, 0, none⟩) t.length co) (t.set i x') ∧ W.grownBy (W.setCells go (i * 4 + j) seg) (some go) := by
 obtain ⟨ce, hcl, hM, hcc, hfr⟩ := Kd.R_elem hR z33 (i : Int) (by omega) (by omega); obtain rfl := k33_openM hM; exact Kd.R_seg hR (i : Int) (by omega) (by omega) (seg := seg) (j := j) hcl hcc hj (x' := x') (by rw [Int.toNat_natCast, he]; exact k33_mkM _ _ _ x') (fun _ hk => hk)
def chgF (k : Nat) (mf : S33 → S33) (mb : S33 → Bool) (l : List S33) (a1 : ByteArray) : Option (List S33 × Bool) :=
 (impl_FindParam.f k l a1).bind fun t => if t < 0 then some ([], false) else (impl_Signature_copyOf.f l).bind fun c => if t < (c.length : Int) then (if mb (c.getD t.toNat z33) = true then (impl_ValidSignature.f k (c.set t.toNat (mf (c.getD t.toNat z33)))).bind fun v => (if v = true then some (c.set t.toNat (mf (c.getD t.toNat z33)), true) else some ([], false)) else some ([], false)) else none
theorem chgF.mono : ∀ (mf : S33 → S33) (mb : S33 → Bool) (l : List S33) (a : ByteArray) (k : Nat), LeO (chgF k mf mb l a) (chgF (k + 1) mf mb l a) := by
 intro mf mb l a k; unfold chgF; exact LeO.bind (impl_FindParam.mono _ _ _) (fun t => LeO.ite (LeO.refl _) (LeO.bind (LeO.refl _) (fun c => LeO.ite (LeO.ite (LeO.bind (impl_ValidSignature.mono _ _) (fun v => LeO.ite (LeO.refl _) (LeO.refl _))) (LeO.refl _)) (LeO.refl _))))
set_option maxHeartbeats 8000000 in
set_option maxRecDepth 100000 in
theorem chg75 (k : Nat) (mf : S33 → S33) (mb : S33 → Bool) (g : Nat) (lb : Array Value) (eg : ∀ args w, (callFunc g args).run Try.prog w = .ok (.enter g args) w) (A0 : Option Addr) (c0 : Nat) (l0 : List S33) (a1 : ByteArray) (r1 : List S33) (r2 : Bool) (w : World)
  (hp : PxChg g lb mf mb w) (hr0 : Kd.C k33 w A0 l0.length l0) (hc0 : l0.length ≤ c0) (h : chgF k mf mb l0 a1 = some (r1, r2)) :
  Calls Try.prog 75 #[.agg #[.slice A0 l0.length c0], .string a1, .func (.func g) #[] lb] w fun e w' => ∃ v0_ : Value, e = .returned (.tuple #[.agg #[v0_], .bool r2]) ∧ Kd.R k33 33 w' w.heap.size (fun _ => True) v0_ r1 ∧ Below w.heap.size w w' := by
 have hu25 := Try.underlying25; have hu33 := Try.underlying33; have HR := Aside0.mk hr0; have HC := Aside0.mk hc0; have HP := Aside0.mk hp; clear hr0 hc0 hp; have HB := Aside0.mk (Below.refl w.heap.size w); unfold chgF at h; replace h := Option.bind_eq_some_iff.mp h; obtain ⟨t, A40, h⟩ := h; have A4 := Aside0.mk A40; have HH := Aside0.mk h; clear h A40; go_enter Try.func75, Try.ntmps75; go_upto_region 2 with (first | ((with_reducible refine gate_dst (N := 3) rfl ?_); refine zx (N := 3) (cs := #[.slice A0 l0.length c0]) (t := 25) ?_; intro gb3 hg w1 hbox hb; have BK3 := Aside0.mk (hbox); have GE3 := Aside0.mk ((by rw [hg]; exact (below_size (zB HB)) : w.heap.size ≤ gb3)); replace HB := Aside0.mk (below_step (zB HB) hb); clear hb hbox hg) | ((with_reducible refine gate_dst (N := 6) rfl ?_); refine zx (N := 6) (cs := #[.slice none 0 0]) (t := 25) ?_; intro gb6 hg w2 hbox hb; have BK6 := Aside0.mk (hbox); have GE6 := Aside0.mk ((by rw [hg]; exact (below_size (zB HB)) : w.heap.size ≤ gb6)); replace HB := Aside0.mk (below_step (zB HB) hb); have NB3_6 := Aside0.mk ((by rw [hg]; exact Nat.ne_of_lt (blk_lt (g := gb3) (o := .cells #[.slice A0 l0.length c0] 25 (0, 0)) (zb BK3)) : gb3 ≠ gb6)); have NB6_3 := Aside0.mk NB3_6.out.symm; replace BK3 := Aside0.mk (blk_below (g := gb3) (o := .cells #[.slice A0 l0.length c0] 25 (0, 0)) (zb BK3) hb); have hnb8 := NB3_6.out; have hnc8 := NB6_3.out; have hcz9_0 : w2.cell? ⟨gb3, 0, none⟩ = some (.slice A0 l0.length c0) := (blk_cell BK3.out 0).trans rfl; have hfz9_0 := blk_frozen BK3.out 0; clear hb hbox hg) | ((with_reducible refine gate_callee (f := 19) rfl ?_); refine goesL_ (some 12) rfl rfl Try.func19 (by kernel_rfl) rfl #[.agg #[.slice A0 l0.length c0], .string a1] rfl zl ?_; (with_reducible refine (impl_FindParam.calls k _ _ l0 a1 t _ ?side1 ?side2 A4.out).mono ?_); (case side1 => repeat (first | exact (Kd.C_below HR.out HB.out) | (with_reducible refine Kd.C_alloc ?_ _) | (with_reducible refine Kd.C_drewN ?_ _) | (with_reducible refine Kd.C_drew ?_))); (case side2 => exact HC.out); rintro e w3 ⟨rfl, hb⟩; refine ⟨_, rfl, ?_⟩; replace BK3 := Aside0.mk (blk_below (g := gb3) (o := .cells #[.slice A0 l0.length c0] 25 (0, 0)) (zb BK3) hb); replace BK6 := Aside0.mk (blk_below (g := gb6) (o := .cells #[.slice none 0 0] 25 (0, 0)) (zb BK6) hb); replace HB := Aside0.mk (below_step (zB HB) hb); clear hb))
 have h := HH.out; clear HH
 by_cases c : t < 0
 ·rw [if_pos c] at h; obtain ⟨rfl, rfl⟩ : [] = r1 ∧ false = r2 := by simpa using h
  replace c := eq_true c; have hcz6 : w3.cell? ⟨gb6, 0, none⟩ = some (.slice none 0 0) := (blk_cell BK6.out 0).trans rfl; have hfz6 := blk_frozen BK6.out 0; have hn := NB3_6.out; have hn' := NB6_3.out; go_wp2; refine bodyPost_ret (results_ct rfl _ _ gb6 25 #[.slice none 0 0] (0, 0) _ rfl (by (with_reducible repeat (first | refine blk_drewN ?_ _ | refine blk_drew ?_ | refine blk_alloc ?_ _)); refine blk_put (cs := #[.slice none 0 0]) ?_ 0 _ rfl; (with_reducible repeat (first | refine blk_drewN ?_ _ | refine blk_drew ?_ | refine blk_alloc ?_ _)); exact BK6.out) Try.underlying25 rfl (by kernel_rfl)) rfl ?_; exact ⟨_, rfl, Kd.R_nil _ _ _ _ _, zB HB⟩
 ·rw [if_neg c] at h; replace h := Option.bind_eq_some_iff.mp h; obtain ⟨cp, A170, h⟩ := h; have A17 := Aside0.mk A170; clear A170; obtain ⟨i, rfl⟩ : ∃ i : Nat, t = i := ⟨t.toNat, by omega⟩
  by_cases d : (i : Int) < (cp.length : Int)
  rotate_left
  ·rw [if_neg d] at h; exact absurd h (by simp)
  rw [if_pos d, Int.toNat_natCast] at h; have HH := Aside0.mk h; clear h; have hi : i < cp.length := by omega
  replace c : ((i : Int) < 0) = False := eq_false c; have hcz3 : w3.cell? ⟨gb3, 0, none⟩ = some (.slice A0 l0.length c0) := (blk_cell BK3.out 0).trans rfl; have hfz3 := blk_frozen BK3.out 0; have hn := NB3_6.out; have hn' := NB6_3.out; go_upto_region 5 with (first | ((with_reducible refine gate_callee (f := 89) rfl ?_); refine goesL_ (some 17) rfl rfl Try.func89 (by kernel_rfl) rfl #[.agg #[.slice A0 l0.length c0]] rfl zl ?_; (with_reducible refine (impl_Signature_copyOf.calls _ _ l0 cp _ ?side1 ?side2 A17.out).mono ?_); (case side1 => repeat (first | exact (Kd.C_below HR.out HB.out) | (with_reducible refine Kd.C_alloc ?_ _) | (with_reducible refine Kd.C_drewN ?_ _) | (with_reducible refine Kd.C_drew ?_))); (case side2 => exact HC.out); rintro e w4 ⟨v0, rfl, ho0, hb⟩; refine ⟨_, rfl, ?_⟩; have HO := Aside0.mk (Kd.R_lower ho0 (below_size (zB HB))); replace BK3 := Aside0.mk (blk_below (g := gb3) (o := .cells #[.slice A0 l0.length c0] 25 (0, 0)) (zb BK3) hb); replace BK6 := Aside0.mk (blk_below (g := gb6) (o := .cells #[.slice none 0 0] 25 (0, 0)) (zb BK6) hb); replace HB := Aside0.mk (below_step (zB HB) hb); clear hb ho0; obtain ⟨Ao, co, eo⟩ := Kd.R_slice HO.out; subst eo) | ((with_reducible refine gate_dst (N := 9) rfl ?_); refine zx (N := 9) (cs := #[.slice none 0 0]) (t := 25) ?_; intro gb9 hg w5 hbox hb; have BK9 := Aside0.mk (hbox); have GE9 := Aside0.mk ((by rw [hg]; exact (below_size (zB HB)) : w.heap.size ≤ gb9)); replace HB := Aside0.mk (below_step (zB HB) hb); have NB3_9 := Aside0.mk ((by rw [hg]; exact Nat.ne_of_lt (blk_lt (g := gb3) (o := .cells #[.slice A0 l0.length c0] 25 (0, 0)) (zb BK3)) : gb3 ≠ gb9)); have NB9_3 := Aside0.mk NB3_9.out.symm; replace BK3 := Aside0.mk (blk_below (g := gb3) (o := .cells #[.slice A0 l0.length c0] 25 (0, 0)) (zb BK3) hb); have NB6_9 := Aside0.mk ((by rw [hg]; exact Nat.ne_of_lt (blk_lt (g := gb6) (o := .cells #[.slice none 0 0] 25 (0, 0)) (zb BK6)) : gb6 ≠ gb9)); have NB9_6 := Aside0.mk NB6_9.out.symm; replace BK6 := Aside0.mk (blk_below (g := gb6) (o := .cells #[.slice none 0 0] 25 (0, 0)) (zb BK6) hb); replace HO := Aside0.mk (Kd.R_below (zo HO) hb); have hcz9_9 : w5.cell? ⟨gb9, 0, none⟩ = some (.slice none 0 0) := (blk_cell BK9.out 0).trans rfl; have hfz9_9 := blk_frozen BK9.out 0; clear hb hbox hg))
  have n0_ : Aside0 (Kd.R k33 33 (w5.setCell ⟨gb9, 0, none⟩ (.slice Ao cp.length co)) w.heap.size (fun _ => True) (.slice Ao cp.length co) cp) := ⟨Kd.R_mono (Kd.R_far (p := ⟨gb9, 0, none⟩) (Kd.R_types HO.out BK9.out (by decide)) (fun _ hk => hk.2) (.slice Ao cp.length co)) (fun _ hk => trivial)⟩
  have n1_ : Aside0 ((w5.setCell ⟨gb9, 0, none⟩ (.slice Ao cp.length co)).heap[gb3]? = some (.cells #[.slice A0 l0.length c0] 25 (0, 0))) := ⟨zf BK3⟩
  have n2_ : Aside0 ((w5.setCell ⟨gb9, 0, none⟩ (.slice Ao cp.length co)).heap[gb6]? = some (.cells #[.slice none 0 0] 25 (0, 0))) := ⟨zf BK6⟩
  have n3_ : Aside0 ((w5.setCell ⟨gb9, 0, none⟩ (.slice Ao cp.length co)).heap[gb9]? = some (.cells #[.slice Ao cp.length co] 25 (0, 0))) := ⟨by refine blk_put (cs := #[.slice none 0 0]) ?_ 0 _ rfl; exact BK9.out⟩
  have n4_ : Aside0 (Below w.heap.size w (w5.setCell ⟨gb9, 0, none⟩ (.slice Ao cp.length co))) := ⟨zB HB⟩
  clear HO BK3 BK6 BK9 HB hcz9_9 hfz9_9 hcz3 hfz3; generalize (w5.setCell ⟨gb9, 0, none⟩ (.slice Ao cp.length co)) = w6 at n0_ n1_ n2_ n3_ n4_ ⊢; have HO := n0_; have BK3 := n1_; have BK6 := n2_; have BK9 := n3_; have HB := n4_; clear n0_ n1_ n2_ n3_ n4_; obtain ⟨go, co', eo, gb, gl, cl, HG⟩ := Kd.R_form HO.out (by omega)
  cases eo
  have hcall := HP.out w6 w.heap.size go co i cp HB.out (Nat.le_refl _) gb HB.out.size hi HO.out; have hne3 := Kd.R_ne HO.out BK3.out (by decide); have hne6 := Kd.R_ne HO.out BK6.out (by decide); have hne9 := Kd.R_ne HO.out BK9.out (by decide); have hcz9 : w6.cell? ⟨gb9, 0, none⟩ = some (.slice (some ⟨go, 0, none⟩) cp.length co) := (blk_cell BK9.out 0).trans rfl; have hfz9 := blk_frozen BK9.out 0; have p : (0 ≤ (i : Int)) = True := eq_true (by omega); have q : ((i : Int) < (cp.length : Int)) = True := eq_true d; have HL := Aside0.mk (Kd.R_reads' HO.out).2.1; clear gl HG d HO; generalize cp.getD i z33 = y at hcall HH; have HN3 := Aside0.mk hne3; have HN6 := Aside0.mk hne6; have HN9 := Aside0.mk hne9; clear hne3 hne6 hne9; have HCALL := Aside0.mk hcall; clear hcall hi cl; have hn9 := NB3_9.out; have hn9' := NB6_9.out; go_wp2_with fail; refine HCALL.out.mono ?_; clear HCALL; rintro e w7 ⟨rfl, hR7, hg7, hb7⟩; replace BK3 := Aside0.mk (blk_grown BK3.out hg7 HN3.out); replace BK6 := Aside0.mk (blk_grown BK6.out hg7 HN6.out); replace BK9 := Aside0.mk (blk_grown BK9.out hg7 HN9.out); replace HB := Aside0.mk (HB.out.trans hb7); have HR7 := Aside0.mk hR7; clear hR7 hg7 hb7 hcz9 hfz9 p q; have h := HH.out; clear HH
  cases hm : mb y with
  | false =>
   rw [hm, if_neg (by decide)] at h; obtain ⟨rfl, rfl⟩ : [] = r1 ∧ false = r2 := by simpa using h
   have hcz6 : w7.cell? ⟨gb6, 0, none⟩ = some (.slice none 0 0) := (blk_cell BK6.out 0).trans rfl; have hfz6 := blk_frozen BK6.out 0; go_wp2; refine bodyPost_ret (results_ct rfl _ _ gb6 25 #[.slice none 0 0] (0, 0) _ rfl (by (with_reducible repeat (first | refine blk_drewN ?_ _ | refine blk_drew ?_ | refine blk_alloc ?_ _)); refine blk_put (cs := #[.slice none 0 0]) ?_ 0 _ rfl; (with_reducible repeat (first | refine blk_drewN ?_ _ | refine blk_drew ?_ | refine blk_alloc ?_ _)); exact BK6.out) Try.underlying25 rfl (by kernel_rfl)) rfl ?_; exact ⟨_, rfl, Kd.R_nil _ _ _ _ _, zB HB⟩
  | true =>
   rw [hm, if_pos rfl] at h; obtain ⟨c', hc'⟩ : ∃ c', c' = cp.set i (mf y) := ⟨_, rfl⟩
   have hl : c'.length = cp.length := by rw [hc', List.length_set]
   rw [← hc'] at h HR7; rw [← hl] at HR7 BK9 HL; clear hc' hl; replace h := Option.bind_eq_some_iff.mp h; obtain ⟨v, A270, h⟩ := h; have A27 := Aside0.mk A270; have HH := Aside0.mk h; clear A270 h; have hcz9 : w7.cell? ⟨gb9, 0, none⟩ = some (.slice (some ⟨go, 0, none⟩) c'.length co) := (blk_cell BK9.out 0).trans rfl; have hfz9 := blk_frozen BK9.out 0
   cases v with
   | false =>
    obtain ⟨rfl, rfl⟩ : [] = r1 ∧ false = r2 := by simpa using HH.out
    clear HH; go_wp2_with fail; refine (impl_ValidSignature.calls k _ _ c' false _ (Kd.R_reads' HR7.out).2.2 HL.out A27.out).mono ?_; rintro e w8 ⟨rfl, hb⟩; replace BK6 := Aside0.mk (blk_below (g := gb6) (o := .cells #[.slice none 0 0] 25 (0, 0)) (zb BK6) hb); replace BK9 := Aside0.mk (blk_below (g := gb9) (o := .cells #[.slice (some ⟨go, 0, none⟩) c'.length co] 25 (0, 0)) (zb BK9) hb); replace HR7 := Aside0.mk (Kd.R_below (zo HR7) hb); replace HB := Aside0.mk (below_step (zB HB) hb); clear hb hcz9 hfz9; have hcz6 : w8.cell? ⟨gb6, 0, none⟩ = some (.slice none 0 0) := (blk_cell BK6.out 0).trans rfl; have hfz6 := blk_frozen BK6.out 0; have hcz9 : w8.cell? ⟨gb9, 0, none⟩ = some (.slice (some ⟨go, 0, none⟩) c'.length co) := (blk_cell BK9.out 0).trans rfl; have hfz9 := blk_frozen BK9.out 0; go_wp2; refine bodyPost_ret (results_ct rfl _ _ gb6 25 #[.slice none 0 0] (0, 0) _ rfl (by (with_reducible repeat (first | refine blk_drewN ?_ _ | refine blk_drew ?_ | refine blk_alloc ?_ _)); refine blk_put (cs := #[.slice none 0 0]) ?_ 0 _ rfl; (with_reducible repeat (first | refine blk_drewN ?_ _ | refine blk_drew ?_ | refine blk_alloc ?_ _)); exact BK6.out) Try.underlying25 rfl (by kernel_rfl)) rfl ?_; exact ⟨_, rfl, Kd.R_nil _ _ _ _ _, zB HB⟩
   | true =>
    obtain ⟨rfl, rfl⟩ : c' = r1 ∧ true = r2 := by simpa using HH.out
    clear HH; go_wp2_with fail; refine (impl_ValidSignature.calls k _ _ c' true _ (Kd.R_reads' HR7.out).2.2 HL.out A27.out).mono ?_; rintro e w8 ⟨rfl, hb⟩; replace BK6 := Aside0.mk (blk_below (g := gb6) (o := .cells #[.slice none 0 0] 25 (0, 0)) (zb BK6) hb); replace BK9 := Aside0.mk (blk_below (g := gb9) (o := .cells #[.slice (some ⟨go, 0, none⟩) c'.length co] 25 (0, 0)) (zb BK9) hb); replace HR7 := Aside0.mk (Kd.R_below (zo HR7) hb); replace HB := Aside0.mk (below_step (zB HB) hb); clear hb hcz9 hfz9; have hcz6 : w8.cell? ⟨gb6, 0, none⟩ = some (.slice none 0 0) := (blk_cell BK6.out 0).trans rfl; have hfz6 := blk_frozen BK6.out 0; have hcz9 : w8.cell? ⟨gb9, 0, none⟩ = some (.slice (some ⟨go, 0, none⟩) c'.length co) := (blk_cell BK9.out 0).trans rfl; have hfz9 := blk_frozen BK9.out 0; go_wp2; refine bodyPost_ret (results_ct rfl _ _ gb6 25 #[.slice (some ⟨go, 0, none⟩) c'.length co] (0, 0) _ rfl (by (with_reducible repeat (first | refine blk_drewN ?_ _ | refine blk_drew ?_ | refine blk_alloc ?_ _)); refine blk_put (cs := #[.slice none 0 0]) ?_ 0 _ rfl; (with_reducible repeat (first | refine blk_drewN ?_ _ | refine blk_drew ?_ | refine blk_alloc ?_ _)); exact BK6.out) Try.underlying25 rfl (by kernel_rfl)) rfl ?_; exact ⟨_, rfl, Kd.R_mono (Kd.R_far (p := ⟨gb6, 0, none⟩) (Kd.R_types HR7.out BK6.out (by decide)) (fun _ hk => hk.2) (.slice (some ⟨go, 0, none⟩) c'.length co)) (fun _ hk => trivial), zB HB⟩
/-! RenameParam$1 -/
set_option maxHeartbeats 8000000 in
set_option maxRecDepth 100000 in
theorem chg76 (a1 : ByteArray) (B : Nat) (w : World) (hc : w.cell? ⟨B, 0, none⟩ = some (.string a1)) : PxChg 76 #[.pointer (some ⟨B, 0, none⟩)] (fun x => ⟨a1, x.f1, x.f2, x.f3⟩) (fun _ => true) w := by
 intro W base go co i t hb hwb hbg hbs hi hR; have hc' := px_cell hb hc; have hB' : B < W.heap.size := World.block_lt_of_cell? W _ hc'; clear hc
 show Calls Try.prog 76 #[.pointer (some ⟨go, i * 4, none⟩), .pointer (some ⟨B, 0, none⟩)] W _
 obtain ⟨⟨x0, x1, x2, x3⟩, hf⟩ := chg_cells hi hR; have hf0 : W.frozen? ⟨go, i * 4, none⟩ = false := hf 0; have hs := chg_seg hi hR ⟨a1, (t.getD i z33).f1, (t.getD i z33).f2, (t.getD i z33).f3⟩ [.string a1] 0 (by simp) rfl; have hu33 := Try.underlying33; generalize t.getD i z33 = y at *; go_enter Try.func76, Try.ntmps76; go_wp2; go_ret; exact ⟨rfl, hs.1, hs.2, chg_below hs.2 hbg hbs⟩
/-! ### impl_RenameParam: function 30 (a contract of our own) -/
def impl_RenameParam.f (k : Nat) (l0_0 : List (S33)) (a1 : ByteArray) (a2 : ByteArray) : Option ((List (S33)) × Bool) := chgF k (fun x => ⟨a2, x.f1, x.f2, x.f3⟩) (fun _ => true) l0_0 a1
theorem impl_RenameParam.mono : ∀ a0 a1 a2 k, LeO (impl_RenameParam.f k a0 a1 a2) (impl_RenameParam.f (k + 1) a0 a1 a2) := fun a0 a1 a2 k => chgF.mono _ _ a0 a1 k
set_option maxHeartbeats 8000000 in
set_option maxRecDepth 100000 in
theorem impl_RenameParam.calls (k : Nat) (A0_0 : Option Addr) (c0_0 : Nat) (l0_0 : List (S33)) (a1 : ByteArray) (a2 : ByteArray) (r1 : List (S33)) (r2 : Bool) (w : World) (hr0_0 : Kd.C k33 w A0_0 l0_0.length l0_0) (hc0_0 : l0_0.length ≤ c0_0) (h : impl_RenameParam.f k l0_0 a1 a2 = some (r1, r2)) :
  Calls Try.prog 30 #[.agg #[.slice A0_0 l0_0.length c0_0], .string a1, .string a2] w fun e w' => ∃ v0_ : Value, e = .returned (.tuple #[.agg #[v0_], .bool r2]) ∧ Kd.R k33 33 w' w.heap.size (fun _ => True) v0_ r1 ∧ Below w.heap.size w w' := by
 have hu25 := Try.underlying25; have HR := Aside0.mk hr0_0; have HC := Aside0.mk hc0_0; clear hr0_0 hc0_0; have HB := Aside0.mk (Below.refl w.heap.size w); have eg := px_enters Try.func76 (by kernel_rfl) rfl; have HH := Aside0.mk h; clear h; go_enter Try.func30, Try.ntmps30; go_wp2_with (first | ((with_reducible refine gate_dst (N := 3) rfl ?_); refine zx (N := 3) (cs := #[.slice A0_0 l0_0.length c0_0]) (t := 25) ?_; intro gb3 hg w1 hbox hb; have BK3 := Aside0.mk (hbox); have GE3 := Aside0.mk ((by rw [hg]; exact (below_size (zB HB)) : w.heap.size ≤ gb3)); replace HB := Aside0.mk (below_step (zB HB) hb); clear hb hbox hg) | ((with_reducible refine gate_dst (N := 5) rfl ?_); refine zx (N := 5) (cs := #[.string a2]) (t := 9) ?_; intro gb5 hg w2 hbox hb; have BK5 := Aside0.mk (hbox); have GE5 := Aside0.mk ((by rw [hg]; exact (below_size (zB HB)) : w.heap.size ≤ gb5)); replace HB := Aside0.mk (below_step (zB HB) hb); have NB3_5 := Aside0.mk ((by rw [hg]; exact Nat.ne_of_lt (blk_lt (g := gb3) (o := .cells #[.slice A0_0 l0_0.length c0_0] 25 (0, 0)) (zb BK3)) : gb3 ≠ gb5)); have NB5_3 := Aside0.mk NB3_5.out.symm; replace BK3 := Aside0.mk (blk_below (g := gb3) (o := .cells #[.slice A0_0 l0_0.length c0_0] 25 (0, 0)) (zb BK3) hb); clear hb hbox hg) | ((with_reducible refine gate_dst (N := 6) rfl ?_); refine zx (N := 6) (cs := #[.slice none 0 0]) (t := 25) ?_; intro gb6 hg w3 hbox hb; have BK6 := Aside0.mk (hbox); have GE6 := Aside0.mk ((by rw [hg]; exact (below_size (zB HB)) : w.heap.size ≤ gb6)); replace HB := Aside0.mk (below_step (zB HB) hb); have NB3_6 := Aside0.mk ((by rw [hg]; exact Nat.ne_of_lt (blk_lt (g := gb3) (o := .cells #[.slice A0_0 l0_0.length c0_0] 25 (0, 0)) (zb BK3)) : gb3 ≠ gb6)); have NB6_3 := Aside0.mk NB3_6.out.symm; replace BK3 := Aside0.mk (blk_below (g := gb3) (o := .cells #[.slice A0_0 l0_0.length c0_0] 25 (0, 0)) (zb BK3) hb); have NB5_6 := Aside0.mk ((by rw [hg]; exact Nat.ne_of_lt (blk_lt (g := gb5) (o := .cells #[.string a2] 9 (0, 0)) (zb BK5)) : gb5 ≠ gb6)); have NB6_5 := Aside0.mk NB5_6.out.symm; replace BK5 := Aside0.mk (blk_below (g := gb5) (o := .cells #[.string a2] 9 (0, 0)) (zb BK5) hb); have hcz1 : w3.cell? ⟨gb3, 0, none⟩ = some (.slice A0_0 l0_0.length c0_0) := (blk_cell BK3.out 0).trans rfl; have hfz1 := blk_frozen BK3.out 0; have hcz2 : w3.cell? ⟨gb5, 0, none⟩ = some (.string a2) := (blk_cell BK5.out 0).trans rfl; clear hb hbox hg)); refine (chg75 k _ _ 76 _ eg A0_0 c0_0 l0_0 a1 r1 r2 _ (chg76 a2 gb5 _ hcz2) (Kd.C_below HR.out HB.out) HC.out HH.out).mono ?_; rintro e w4 ⟨v0, rfl, ho, hb⟩; have HO := Aside0.mk (Kd.R_lower ho (below_size (zB HB))); replace BK6 := Aside0.mk (blk_below (g := gb6) (o := .cells #[.slice none 0 0] 25 (0, 0)) (zb BK6) hb); replace HB := Aside0.mk (below_step (zB HB) hb); clear hb ho hcz1 hfz1 hcz2; obtain ⟨Ao, co, eo⟩ := Kd.R_slice HO.out; subst eo; have hcz6 : w4.cell? ⟨gb6, 0, none⟩ = some (.slice none 0 0) := (blk_cell BK6.out 0).trans rfl; have hfz6 := blk_frozen BK6.out 0; go_wp2; refine bodyPost_ret (results_ct rfl _ _ gb6 25 #[.slice Ao r1.length co] (0, 0) _ rfl (by (with_reducible repeat (first | refine blk_drewN ?_ _ | refine blk_drew ?_ | refine blk_alloc ?_ _)); refine blk_put (cs := #[.slice none 0 0]) ?_ 0 _ rfl; (with_reducible repeat (first | refine blk_drewN ?_ _ | refine blk_drew ?_ | refine blk_alloc ?_ _)); exact BK6.out) Try.underlying25 rfl (by kernel_rfl)) rfl ?_; exact ⟨_, rfl, Kd.R_mono (Kd.R_far (p := ⟨gb6, 0, none⟩) (Kd.R_types HO.out BK6.out (by decide)) (fun _ hk => hk.2) (.slice Ao r1.length co)) (fun _ hk => trivial), zB HB⟩

end Go.Proofs.Ytlpmggokgcphiaa.Q

namespace Go.Proofs.Ytlpmggokgcphiaa.Q
open Go.RowKit Go.Proofs.YtlpmggokgcphiaaL.PrintWords Go.Proofs.YtlpmggokgcphiaaL.PrintLast Go.Proofs.YtlpmggokgcphiaaL.PrintMore
attribute [local go_sem] max2_int min2_int max_two min_two max_three min_three max_four min_four   -- for this text's walks alone
set_option linter.unusedVariables false
set_option linter.unusedSimpArgs false

/-! ### spec_validSignature: function 56 -/
def spec_validSignature.f (k : Nat) (l0_0 : List (S33)) : Option (Bool) := (spec_validParams.f k l0_0).bind fun t305 => (some t305)
theorem spec_validSignature.mono : ∀ a0 k, LeO (spec_validSignature.f k a0) (spec_validSignature.f (k + 1) a0) := by
 intro a0 k; unfold spec_validSignature.f
 repeat' first
   | (with_reducible exact spec_validParams.mono _ _)
   | (with_reducible exact LeO.refl _)
   | (with_reducible exact LeO.none _)
   | (with_reducible refine LeO.ite ?_ ?_)
   | (with_reducible refine LeO.bind ?_ (fun _ => ?_))
   | exact spec_validParams.mono _ _
   | exact LeO.none _
   | refine LeO.ite ?_ ?_
   | refine LeO.bind ?_ (fun _ => ?_)
set_option maxHeartbeats 8000000 in
set_option maxRecDepth 100000 in
theorem spec_validSignature.calls (k : Nat) (A0_0 : Option Addr) (c0_0 : Nat) (l0_0 : List (S33)) (r : Bool) (w : World) (hr0_0 : Kd.C k33 w A0_0 l0_0.length l0_0) (hc0_0 : l0_0.length ≤ c0_0) (h : spec_validSignature.f k l0_0 = some r) :
  Calls Try.prog 56 #[.agg #[.slice A0_0 l0_0.length c0_0]] w fun e w' => e = .returned (.bool r) ∧ Below w.heap.size w w' := by
 have hu25 := Try.underlying25; have HR0_0 := Aside0.mk hr0_0; have HC0_0 := Aside0.mk hc0_0; clear hr0_0 hc0_0; have HB := Aside0.mk (Below.refl w.heap.size w); have H : ((spec_validParams.f k l0_0).bind fun t305 => (some t305)) = some r := h; clear h; replace H := Option.bind_eq_some_iff.mp H; obtain ⟨t305, A20, H⟩ := H
 (try dsimp only at H)
 have A2 := Aside0.mk A20; clear A20; obtain rfl := Option.some.inj H; go_enter Try.func56, Try.ntmps56; go_wp2_with (first | ((with_reducible refine gate_dst (N := 1) rfl ?_); refine zx (N := 1) (cs := #[.slice A0_0 l0_0.length c0_0]) (t := 25) ?_; intro gb304 hg w3 hbox hb; have BK304 := Aside0.mk (hbox); have GW304 := Aside0.mk ((by rw [hg]; exact (below_size (zB HB)) : w.heap.size ≤ gb304)); have GE304 := GW304; replace HB := Aside0.mk (below_step (zB HB) hb); clear hb hbox hg; have hcz4_0 : w3.cell? ⟨gb304, 0, none⟩ = some (.slice A0_0 l0_0.length c0_0) := (blk_cell BK304.out 0).trans rfl; have hfz4_0 := blk_frozen BK304.out 0) | ((with_reducible refine gate_callee (f := 102) rfl ?_); refine goesL_ (some 5) rfl rfl Try.func102 (by kernel_rfl) rfl #[.slice A0_0 l0_0.length c0_0] rfl zl ?_; (with_reducible refine (spec_validParams.calls k _ _ l0_0 t305 _ ?side1 ?side2 A2.out).mono ?_); (case side1 => repeat (first | exact (Kd.C_below HR0_0.out HB.out) | (with_reducible refine Kd.C_alloc ?_ _) | (with_reducible refine Kd.C_drewN ?_ _) | (with_reducible refine Kd.C_drew ?_))); (case side2 => exact HC0_0.out); rintro e w5 ⟨rfl, hb⟩; refine ⟨_, rfl, ?_⟩; replace BK304 := Aside0.mk (blk_below (g := gb304) (o := .cells #[.slice A0_0 l0_0.length c0_0] 25 (0, 0)) (zb BK304) hb); replace HB := Aside0.mk (below_step (zB HB) hb); (try clear hb); (try clear hb2); (try clear hk); (try clear hi))); go_ret; exact ⟨by first | rfl | (simp [errW_none, errW_some] <;> rfl) | (simp [*, errW_none, errW_some] <;> rfl), zB HB⟩

end Go.Proofs.Ytlpmggokgcphiaa.Q

namespace Go.Proofs.Ytlpmggokgcphiaa.Q
open Go.RowKit Go.Proofs.YtlpmggokgcphiaaL.PrintWords Go.Proofs.YtlpmggokgcphiaaL.PrintLast Go.Proofs.YtlpmggokgcphiaaL.PrintMore
attribute [local go_sem] max2_int min2_int max_two min_two max_three min_three max_four min_four   -- for this text's walks alone
set_option linter.unusedVariables false
set_option linter.unusedSimpArgs false

/-! ### spec_checkedSignature: function 69 -/
def spec_checkedSignature.f (k : Nat) (l0 : List (S33)) : Option ((List (S33)) × Bool) := (spec_validParams.f k l0).bind fun t419 => (if t419 = true then (some (l0, true)) else (some (([] : List (S33)), false)))
theorem spec_checkedSignature.mono : ∀ a0 k, LeO (spec_checkedSignature.f k a0) (spec_checkedSignature.f (k + 1) a0) := by
 intro a0 k; unfold spec_checkedSignature.f
 repeat' first
   | (with_reducible exact spec_validParams.mono _ _)
   | (with_reducible exact LeO.refl _)
   | (with_reducible exact LeO.none _)
   | (with_reducible refine LeO.ite ?_ ?_)
   | (with_reducible refine LeO.bind ?_ (fun _ => ?_))
   | exact spec_validParams.mono _ _
   | exact LeO.none _
   | refine LeO.ite ?_ ?_
   | refine LeO.bind ?_ (fun _ => ?_)
set_option maxHeartbeats 8000000 in
set_option maxRecDepth 100000 in
theorem spec_checkedSignature.calls (k : Nat) (P0_ : Nat → Prop) (u9000_ : Value) (l0 : List (S33)) (r1 : List (S33)) (r2 : Bool) (w0 w : World) (hB : Below w0.heap.size w0 w) (ho0 : Kd.R k33 33 w w0.heap.size P0_ u9000_ l0) (h : spec_checkedSignature.f k l0 = some (r1, r2)) :
  Calls Try.prog 69 #[u9000_] w fun e w' => ∃ v0_ : Value, e = .returned (.tuple #[.agg #[v0_], .bool r2]) ∧ Kd.R k33 33 w' w0.heap.size (fun k_ => (P0_ k_ ∨ w.heap.size ≤ k_)) v0_ r1 ∧ Below w0.heap.size w0 w' ∧ Kept w w' (fun k_ => P0_ k_) := by
 have hu25 := Try.underlying25; have HO0 := Aside0.mk (show Kd.R k33 33 w w0.heap.size (fun k_ => (P0_ k_ ∨ w.heap.size ≤ k_)) u9000_ l0 from Kd.R_mono ho0 (fun k_ hk => (.inl hk))); have HK := Aside0.mk (Kept.refl w (fun k_ => P0_ k_)); have HW0 := Aside0.mk hB.size; have HB := Aside0.mk hB; clear hB; have H : ((spec_validParams.f k l0).bind fun t419 => (if t419 = true then (some (l0, true)) else (some (([] : List (S33)), false)))) = some (r1, r2) := h; clear h; replace H := Option.bind_eq_some_iff.mp H; obtain ⟨t419, A20, H⟩ := H
 (try dsimp only at H)
 have A2 := Aside0.mk A20; clear A20
 by_cases c3 : t419 = true
 ·subst c3; rw [if_pos rfl] at H; simp only [Option.some.injEq, Prod.mk.injEq] at H; obtain ⟨rfl, rfl⟩ := H; go_enter Try.func69, Try.ntmps69; go_wp2_with (first | ((with_reducible refine gate_dst (N := 2) rfl ?_); refine zx (N := 2) (cs := #[.slice none 0 0]) (t := 25) ?_; intro gb418 hg w4 hbox hb; replace HO0 := Aside0.mk (Kd.R_below (zo HO0) hb); have BK418 := Aside0.mk (hbox); have GW418 := Aside0.mk ((by rw [hg]; exact (by first | exact HK.out.1 | exact (show Kept w _ (fun k_ => P0_ k_) from by repeat (first | (with_reducible first | exact HK.out | apply Kept.alloc | apply Kept.drewN | apply Kept.drew) | exact HK.out)).1) : w.heap.size ≤ gb418)); replace HK := Aside0.mk (Kept.below (S := (fun k_ => P0_ k_)) (by repeat (first | (with_reducible first | exact HK.out | apply Kept.alloc | apply Kept.drewN | apply Kept.drew) | exact HK.out)) hb); have GE418 := Aside0.mk ((by rw [hg]; exact (below_size (zB HB)) : w0.heap.size ≤ gb418)); replace HB := Aside0.mk (below_step (zB HB) hb); clear hb hbox hg; obtain ⟨Ao5, co5, eo5⟩ := Kd.R_slice HO0.out; subst eo5) | ((with_reducible refine gate_callee (f := 102) rfl ?_); refine goesL_ (some 5) rfl rfl Try.func102 (by kernel_rfl) rfl #[.slice Ao5 l0.length co5] rfl zl ?_; (with_reducible refine (spec_validParams.calls k _ _ l0 true _ ?side1 ?side2 A2.out).mono ?_); (case side1 => repeat (first | exact (Kd.R_reads' HO0.out).2.2 | (with_reducible refine Kd.C_alloc ?_ _) | (with_reducible refine Kd.C_drewN ?_ _) | (with_reducible refine Kd.C_drew ?_))); (case side2 => exact (Kd.R_reads' HO0.out).2.1); rintro e w6 ⟨rfl, hb⟩; refine ⟨_, rfl, ?_⟩; replace HO0 := Aside0.mk (Kd.R_below (zo HO0) hb); replace BK418 := Aside0.mk (blk_below (g := gb418) (o := .cells #[.slice none 0 0] 25 (0, 0)) (zb BK418) hb); replace HK := Aside0.mk (Kept.below (S := (fun k_ => P0_ k_)) (by repeat (first | (with_reducible first | exact HK.out | apply Kept.alloc | apply Kept.drewN | apply Kept.drew | refine Kept.setCell ?_ (.inr GW418.out) _) | exact HK.out)) hb); replace HB := Aside0.mk (below_step (zB HB) hb); (try clear hb); (try clear hb2); (try clear hk); (try clear hi); have hcz7_0 : w6.cell? ⟨gb418, 0, none⟩ = some (.slice none 0 0) := (blk_cell BK418.out 0).trans rfl; have hfz7_0 := blk_frozen BK418.out 0)); refine bodyPost_ret (results_ct rfl _ _ gb418 25 #[.slice Ao5 l0.length co5] (0, 0) _ rfl (by (with_reducible repeat (first | refine blk_drewN ?_ _ | refine blk_drew ?_ | refine blk_alloc ?_ _)); refine blk_put (cs := #[.slice none 0 0]) ?_ 0 _ rfl; (with_reducible repeat (first | refine blk_drewN ?_ _ | refine blk_drew ?_ | refine blk_alloc ?_ _)); exact BK418.out) Try.underlying25 rfl (by kernel_rfl)) rfl ?_; exact ⟨_, by first | rfl | (simp [errW_none, errW_some] <;> rfl) | (simp [*, errW_none, errW_some] <;> rfl), by (with_reducible repeat (first | apply Kd.R_alloc | apply Kd.R_drewN | apply Kd.R_drew)); exact Kd.R_mono (Kd.R_far (p := ⟨gb418, 0, none⟩) (Kd.R_types HO0.out BK418.out (by decide)) (fun _ hk => hk.2) (.slice Ao5 l0.length co5)) (fun _ hk => hk.1), by repeat (first | (with_reducible first | exact HB.out | apply below_alloc | apply pw_below_drewN | apply below_drew1 | refine below_set ?_ GE418.out) | exact HB.out), by repeat (first | (with_reducible first | exact HK.out | apply Kept.alloc | apply Kept.drewN | apply Kept.drew | refine Kept.setCell ?_ (.inr GW418.out) _) | exact HK.out)⟩
 ·replace c3 := Bool.eq_false_iff.mpr c3; subst c3; rw [if_neg (show ¬ (false = true) by decide)] at H; simp only [Option.some.injEq, Prod.mk.injEq] at H; obtain ⟨rfl, rfl⟩ := H; go_enter Try.func69, Try.ntmps69; go_wp2_with (first | ((with_reducible refine gate_dst (N := 2) rfl ?_); refine zx (N := 2) (cs := #[.slice none 0 0]) (t := 25) ?_; intro gb418 hg w8 hbox hb; replace HO0 := Aside0.mk (Kd.R_below (zo HO0) hb); have BK418 := Aside0.mk (hbox); have GW418 := Aside0.mk ((by rw [hg]; exact (by first | exact HK.out.1 | exact (show Kept w _ (fun k_ => P0_ k_) from by repeat (first | (with_reducible first | exact HK.out | apply Kept.alloc | apply Kept.drewN | apply Kept.drew) | exact HK.out)).1) : w.heap.size ≤ gb418)); replace HK := Aside0.mk (Kept.below (S := (fun k_ => P0_ k_)) (by repeat (first | (with_reducible first | exact HK.out | apply Kept.alloc | apply Kept.drewN | apply Kept.drew) | exact HK.out)) hb); have GE418 := Aside0.mk ((by rw [hg]; exact (below_size (zB HB)) : w0.heap.size ≤ gb418)); replace HB := Aside0.mk (below_step (zB HB) hb); clear hb hbox hg; obtain ⟨Ao9, co9, eo9⟩ := Kd.R_slice HO0.out; subst eo9) | ((with_reducible refine gate_callee (f := 102) rfl ?_); refine goesL_ (some 5) rfl rfl Try.func102 (by kernel_rfl) rfl #[.slice Ao9 l0.length co9] rfl zl ?_; (with_reducible refine (spec_validParams.calls k _ _ l0 false _ ?side1 ?side2 A2.out).mono ?_); (case side1 => repeat (first | exact (Kd.R_reads' HO0.out).2.2 | (with_reducible refine Kd.C_alloc ?_ _) | (with_reducible refine Kd.C_drewN ?_ _) | (with_reducible refine Kd.C_drew ?_))); (case side2 => exact (Kd.R_reads' HO0.out).2.1); rintro e w10 ⟨rfl, hb⟩; refine ⟨_, rfl, ?_⟩; replace HO0 := Aside0.mk (Kd.R_below (zo HO0) hb); replace BK418 := Aside0.mk (blk_below (g := gb418) (o := .cells #[.slice none 0 0] 25 (0, 0)) (zb BK418) hb); replace HK := Aside0.mk (Kept.below (S := (fun k_ => P0_ k_)) (by repeat (first | (with_reducible first | exact HK.out | apply Kept.alloc | apply Kept.drewN | apply Kept.drew | refine Kept.setCell ?_ (.inr GW418.out) _) | exact HK.out)) hb); replace HB := Aside0.mk (below_step (zB HB) hb); (try clear hb); (try clear hb2); (try clear hk); (try clear hi); have hcz11_0 : w10.cell? ⟨gb418, 0, none⟩ = some (.slice none 0 0) := (blk_cell BK418.out 0).trans rfl; have hfz11_0 := blk_frozen BK418.out 0)); refine bodyPost_ret (results_ct rfl _ _ gb418 25 #[.slice none 0 0] (0, 0) _ rfl (by (with_reducible repeat (first | refine blk_drewN ?_ _ | refine blk_drew ?_ | refine blk_alloc ?_ _)); refine blk_put (cs := #[.slice none 0 0]) ?_ 0 _ rfl; (with_reducible repeat (first | refine blk_drewN ?_ _ | refine blk_drew ?_ | refine blk_alloc ?_ _)); exact BK418.out) Try.underlying25 rfl (by kernel_rfl)) rfl ?_; exact ⟨_, by first | rfl | (simp [errW_none, errW_some] <;> rfl) | (simp [*, errW_none, errW_some] <;> rfl), by first | exact Kd.R_nil _ _ _ _ _ | exact Kd.N_nil _ _ _ _ _ | exact Kd.V_nil _ _ _ _ _ | exact Kd.Q_nil _ _ _ _ _ | exact Kd.S_nil _ _ _ _ _, by repeat (first | (with_reducible first | exact HB.out | apply below_alloc | apply pw_below_drewN | apply below_drew1 | refine below_set ?_ GE418.out) | exact HB.out), by repeat (first | (with_reducible first | exact HK.out | apply Kept.alloc | apply Kept.drewN | apply Kept.drew | refine Kept.setCell ?_ (.inr GW418.out) _) | exact HK.out)⟩

end Go.Proofs.Ytlpmggokgcphiaa.Q

namespace Go.Proofs.Ytlpmggokgcphiaa.Q
open Go.RowKit Go.Proofs.YtlpmggokgcphiaaL.PrintWords Go.Proofs.YtlpmggokgcphiaaL.PrintLast Go.Proofs.YtlpmggokgcphiaaL.PrintMore
attribute [local go_sem] max2_int min2_int max_two min_two max_three min_three max_four min_four   -- for this text's walks alone
set_option linter.unusedVariables false
set_option linter.unusedSimpArgs false

/-! ### spec_RenameParam: function 31 -/
def spec_RenameParam.j0 : Nat → ByteArray → Int → Bool → List (S33) → Option ((List (S33)) × Bool)
 | 0, _, _, _, _ => none
 | k + 1, x2, x8, x20, x612000 => if x20 = true then (some (([] : List (S33)), false)) else ((spec_copyParams.f x612000).bind fun t615 => (if 0 ≤ x8 then (if x8 < (t615.length : Int) then ((spec_checkedSignature.f k (t615.set (x8 : Int).toNat (⟨x2, (rd_T33 t615 x8).f1, (rd_T33 t615 x8).f2, (rd_T33 t615 x8).f3⟩ : S33))).bind fun bt619 => (some (bt619.1, bt619.2))) else (none)) else (none)))
def spec_RenameParam.f (k : Nat) (l0_0 : List (S33)) (a1 : ByteArray) (a2 : ByteArray) : Option ((List (S33)) × Bool) := (spec_findParam.f k l0_0 a1).bind fun t613 => ((spec_validSignature.f k l0_0).bind fun t614 => (if t614 = true then (spec_RenameParam.j0 k a2 t613 (decide (t613 < 0)) l0_0) else (spec_RenameParam.j0 k a2 t613 true l0_0)))
theorem spec_RenameParam.mono_l : ∀ k, (∀ y0 y1 y2 y3, LeO (spec_RenameParam.j0 k y0 y1 y2 y3) (spec_RenameParam.j0 (k + 1) y0 y1 y2 y3))
 | 0 => fun _ _ _ _ r h => by simp [spec_RenameParam.j0] at h
 | k + 1 => by
  have ih0 := spec_RenameParam.mono_l k
  ·intro y0 y1 y2 y3; unfold spec_RenameParam.j0
   repeat' first
   | (with_reducible exact ih0 _ _ _ _)
   | (with_reducible exact spec_checkedSignature.mono _ _)
   | (with_reducible exact spec_findParam.mono _ _ _)
   | (with_reducible exact spec_validSignature.mono _ _)
   | (with_reducible exact LeO.refl _)
   | (with_reducible exact LeO.none _)
   | (with_reducible refine LeO.ite ?_ ?_)
   | (with_reducible refine LeO.bind ?_ (fun _ => ?_))
   | exact ih0 _ _ _ _
   | exact spec_checkedSignature.mono _ _
   | exact spec_findParam.mono _ _ _
   | exact spec_validSignature.mono _ _
   | exact LeO.none _
   | refine LeO.ite ?_ ?_
   | refine LeO.bind ?_ (fun _ => ?_)
theorem spec_RenameParam.mono : ∀ a0 a1 a2 k, LeO (spec_RenameParam.f k a0 a1 a2) (spec_RenameParam.f (k + 1) a0 a1 a2) := by
 intro a0 a1 a2 k; have ih0 := spec_RenameParam.mono_l k; unfold spec_RenameParam.f
 repeat' first
   | (with_reducible exact ih0 _ _ _ _)
   | (with_reducible exact spec_checkedSignature.mono _ _)
   | (with_reducible exact spec_findParam.mono _ _ _)
   | (with_reducible exact spec_validSignature.mono _ _)
   | (with_reducible exact LeO.refl _)
   | (with_reducible exact LeO.none _)
   | (with_reducible refine LeO.ite ?_ ?_)
   | (with_reducible refine LeO.bind ?_ (fun _ => ?_))
   | exact ih0 _ _ _ _
   | exact spec_checkedSignature.mono _ _
   | exact spec_findParam.mono _ _ _
   | exact spec_validSignature.mono _ _
   | exact LeO.none _
   | refine LeO.ite ?_ ?_
   | refine LeO.bind ?_ (fun _ => ?_)
set_option maxHeartbeats 8000000 in
set_option maxRecDepth 100000 in
theorem spec_RenameParam.calls (k : Nat) (A0_0 : Option Addr) (c0_0 : Nat) (l0_0 : List (S33)) (a1 : ByteArray) (a2 : ByteArray) (r1 : List (S33)) (r2 : Bool) (w : World) (hr0_0 : Kd.C k33 w A0_0 l0_0.length l0_0) (hc0_0 : l0_0.length ≤ c0_0) (h : spec_RenameParam.f k l0_0 a1 a2 = some (r1, r2)) :
  Calls Try.prog 31 #[.agg #[.slice A0_0 l0_0.length c0_0], .string a1, .string a2] w fun e w' => ∃ v0_ : Value, e = .returned (.tuple #[.agg #[v0_], .bool r2]) ∧ Kd.R k33 33 w' w.heap.size (fun _ => True) v0_ r1 ∧ Below w.heap.size w w' := by
 have hu25 := Try.underlying25; have HR0_0 := Aside0.mk hr0_0; have HC0_0 := Aside0.mk hc0_0; clear hr0_0 hc0_0; have HB := Aside0.mk (Below.refl w.heap.size w); have H : ((spec_findParam.f k l0_0 a1).bind fun t613 => ((spec_validSignature.f k l0_0).bind fun t614 => (if t614 = true then (spec_RenameParam.j0 k a2 t613 (decide (t613 < 0)) l0_0) else (spec_RenameParam.j0 k a2 t613 true l0_0)))) = some (r1, r2) := h; clear h; replace H := Option.bind_eq_some_iff.mp H; obtain ⟨t613, A40, H⟩ := H
 (try dsimp only at H)
 have A4 := Aside0.mk A40; clear A40; have HC5 := Aside0.mk H; clear H; go_enter Try.func31, Try.ntmps31; go_upto_region 2 with (first | ((with_reducible refine gate_dst (N := 3) rfl ?_); refine zx (N := 3) (cs := #[.slice A0_0 l0_0.length c0_0]) (t := 25) ?_; intro gb611 hg w6 hbox hb; have BK611 := Aside0.mk (hbox); have GW611 := Aside0.mk ((by rw [hg]; exact (below_size (zB HB)) : w.heap.size ≤ gb611)); have GE611 := GW611; replace HB := Aside0.mk (below_step (zB HB) hb); clear hb hbox hg) | ((with_reducible refine gate_dst (N := 6) rfl ?_); refine zx (N := 6) (cs := #[.slice none 0 0]) (t := 25) ?_; intro gb612 hg w7 hbox hb; have BK612 := Aside0.mk (hbox); have GW612 := Aside0.mk ((by rw [hg]; exact (below_size (zB HB)) : w.heap.size ≤ gb612)); have GE612 := GW612; replace HB := Aside0.mk (below_step (zB HB) hb); have NB611_612 := Aside0.mk ((by rw [hg]; exact Nat.ne_of_lt (blk_lt (g := gb611) (o := .cells #[.slice A0_0 l0_0.length c0_0] 25 (0, 0)) (zb BK611)) : gb611 ≠ gb612)); have NB612_611 := Aside0.mk NB611_612.out.symm; replace BK611 := Aside0.mk (blk_below (g := gb611) (o := .cells #[.slice A0_0 l0_0.length c0_0] 25 (0, 0)) (zb BK611) hb); clear hb hbox hg; have hnb8 := NB611_612.out; have hnc8 := NB612_611.out; have hcz9_0 : w7.cell? ⟨gb611, 0, none⟩ = some (.slice A0_0 l0_0.length c0_0) := (blk_cell BK611.out 0).trans rfl; have hfz9_0 := blk_frozen BK611.out 0) | ((with_reducible refine gate_callee (f := 55) rfl ?_); refine goesL_ (some 13) rfl rfl Try.func55 (by kernel_rfl) rfl #[.slice A0_0 l0_0.length c0_0, .string a1] rfl zl ?_; (with_reducible refine (spec_findParam.calls k _ _ l0_0 a1 t613 _ ?side1 ?side2 A4.out).mono ?_); (case side1 => repeat (first | exact (Kd.C_below HR0_0.out HB.out) | (with_reducible refine Kd.C_alloc ?_ _) | (with_reducible refine Kd.C_drewN ?_ _) | (with_reducible refine Kd.C_drew ?_))); (case side2 => exact HC0_0.out); rintro e w' ⟨rfl, ⟨nd, rfl⟩⟩; refine ⟨_, rfl, ?_⟩))
 (try simp only [Act.put, List.setIfInBounds_toArray, List.set_cons_zero, List.set_cons_succ])
 go_cut [20] (fun v20 wc => ∃ (kq : Nat) (x20_4 : Bool), v20 = .bool x20_4 ∧ Aside0 (spec_RenameParam.j0 kq a2 t613 x20_4 l0_0 = some (r1, r2)) ∧ Aside0 (kq ≤ k) ∧ Aside0 (wc.heap[gb611]? = some (.cells #[(.slice A0_0 l0_0.length c0_0)] 25 (0, 0))) ∧ Aside0 (wc.heap[gb612]? = some (.cells #[(.slice none 0 0)] 25 (0, 0))) ∧ Aside0 (Below w.heap.size w wc))
 case first =>
  have H := HC5.out; clear HC5; replace H := Option.bind_eq_some_iff.mp H; obtain ⟨t614, A100, H⟩ := H
  (try dsimp only at H)
  have A10 := Aside0.mk A100; clear A100
  by_cases c11 : t614 = true
  ·subst c11; rw [if_pos rfl] at H; have H' := Aside0.mk H; clear H; have hnb12 := NB611_612.out; have hnc12 := NB612_611.out; have hcz13_0 : w7.cell? ⟨gb611, 0, none⟩ = some (.slice A0_0 l0_0.length c0_0) := (blk_cell BK611.out 0).trans rfl; have hfz13_0 := blk_frozen BK611.out 0; go_wp2_with (first | ((with_reducible refine gate_callee (f := 56) rfl ?_); refine goesL_ (some 15) rfl rfl Try.func56 (by kernel_rfl) rfl #[.agg #[.slice A0_0 l0_0.length c0_0]] rfl zl ?_; (with_reducible refine (spec_validSignature.calls k _ _ l0_0 true _ ?side1 ?side2 A10.out).mono ?_); (case side1 => repeat (first | exact (Kd.C_below HR0_0.out HB.out) | (with_reducible refine Kd.C_alloc ?_ _) | (with_reducible refine Kd.C_drewN ?_ _) | (with_reducible refine Kd.C_drew ?_))); (case side2 => exact HC0_0.out); rintro e w14 ⟨rfl, hb⟩; refine ⟨_, rfl, ?_⟩; replace BK611 := Aside0.mk (blk_below (g := gb611) (o := .cells #[.slice A0_0 l0_0.length c0_0] 25 (0, 0)) (zb BK611) hb); replace BK612 := Aside0.mk (blk_below (g := gb612) (o := .cells #[.slice none 0 0] 25 (0, 0)) (zb BK612) hb); replace HB := Aside0.mk (below_step (zB HB) hb); (try clear hb); (try clear hb2); (try clear hk); (try clear hi))); go_meet
   case rel => exact ⟨_, (decide (t613 < 0)), zr, H', ⟨by first | omega | exact Nat.le_refl _⟩, ⟨zb BK611⟩, ⟨zb BK612⟩, ⟨zB HB⟩⟩
  ·replace c11 := Bool.eq_false_iff.mpr c11; subst c11; rw [if_neg (show ¬ (false = true) by decide)] at H; have H' := Aside0.mk H; clear H; have hnb15 := NB611_612.out; have hnc15 := NB612_611.out; have hcz16_0 : w7.cell? ⟨gb611, 0, none⟩ = some (.slice A0_0 l0_0.length c0_0) := (blk_cell BK611.out 0).trans rfl; have hfz16_0 := blk_frozen BK611.out 0; go_wp2_with (first | ((with_reducible refine gate_callee (f := 56) rfl ?_); refine goesL_ (some 15) rfl rfl Try.func56 (by kernel_rfl) rfl #[.agg #[.slice A0_0 l0_0.length c0_0]] rfl zl ?_; (with_reducible refine (spec_validSignature.calls k _ _ l0_0 false _ ?side1 ?side2 A10.out).mono ?_); (case side1 => repeat (first | exact (Kd.C_below HR0_0.out HB.out) | (with_reducible refine Kd.C_alloc ?_ _) | (with_reducible refine Kd.C_drewN ?_ _) | (with_reducible refine Kd.C_drew ?_))); (case side2 => exact HC0_0.out); rintro e w17 ⟨rfl, hb⟩; refine ⟨_, rfl, ?_⟩; replace BK611 := Aside0.mk (blk_below (g := gb611) (o := .cells #[.slice A0_0 l0_0.length c0_0] 25 (0, 0)) (zb BK611) hb); replace BK612 := Aside0.mk (blk_below (g := gb612) (o := .cells #[.slice none 0 0] 25 (0, 0)) (zb BK612) hb); replace HB := Aside0.mk (below_step (zB HB) hb); (try clear hb); (try clear hb2); (try clear hk); (try clear hi))); go_meet
   case rel => exact ⟨_, (true), zr, H', ⟨by first | omega | exact Nat.le_refl _⟩, ⟨zb BK611⟩, ⟨zb BK612⟩, ⟨zB HB⟩⟩
 case rest =>
  clear HC5; (try clear c1); (try clear p2); (try clear c3); (try clear c5); (try clear c8); (try clear c11); (try clear c12); (try clear c15); (try clear hcz13_0); (try clear hcz16_0); (try clear hcz9_0); (try clear hfz13_0); (try clear hfz16_0); (try clear hfz9_0); obtain ⟨kq, x20_4, rfl, HA, HJ4, BK611, BK612, HB⟩ := hcut
  cases kq with
  | zero => exact absurd HA.out (by simp [spec_RenameParam.j0])
  | succ kj4 =>
   have H := HA.out; clear HA; simp only [spec_RenameParam.j0] at H
   by_cases c18 : x20_4 = true
   ·subst c18; rw [if_pos rfl] at H; simp only [Option.some.injEq, Prod.mk.injEq] at H; obtain ⟨rfl, rfl⟩ := H; have hnb19 := NB612_611.out; have hnc19 := NB611_612.out; have hcz20_0 : wc.cell? ⟨gb612, 0, none⟩ = some (.slice none 0 0) := (blk_cell BK612.out 0).trans rfl; have hfz20_0 := blk_frozen BK612.out 0; go_wp2; refine bodyPost_ret (results_ct rfl _ _ gb612 25 #[.slice none 0 0] (0, 0) _ rfl (by (with_reducible repeat (first | refine blk_drewN ?_ _ | refine blk_drew ?_ | refine blk_alloc ?_ _)); refine blk_put (cs := #[.slice none 0 0]) ?_ 0 _ rfl; (with_reducible repeat (first | refine blk_drewN ?_ _ | refine blk_drew ?_ | refine blk_alloc ?_ _)); exact BK612.out) Try.underlying25 rfl (by kernel_rfl)) rfl ?_; exact ⟨_, by first | rfl | (simp [errW_none, errW_some] <;> rfl) | (simp [*, errW_none, errW_some] <;> rfl), by first | exact Kd.R_nil _ _ _ _ _ | exact Kd.N_nil _ _ _ _ _ | exact Kd.V_nil _ _ _ _ _ | exact Kd.Q_nil _ _ _ _ _ | exact Kd.S_nil _ _ _ _ _, zB HB⟩
   ·replace c18 := Bool.eq_false_iff.mpr c18; subst c18; rw [if_neg (show ¬ (false = true) by decide)] at H; replace H := Option.bind_eq_some_iff.mp H; obtain ⟨t615, A210, H⟩ := H
    (try dsimp only at H)
    have A21 := Aside0.mk A210; clear A210
    by_cases c22 : 0 ≤ t613
    ·rw [if_pos c22] at H; have c22b0 : decide (0 ≤ t613) = true := decide_eq_true c22; clear c22
     by_cases c23 : t613 < (t615.length : Int)
     ·rw [if_pos c23] at H; have c23b0 : decide (t613 < (t615.length : Int)) = true := decide_eq_true c23; clear c23; obtain ⟨y618, hy618⟩ : ∃ y_ : List (S33), y_ = (t615.set (t613 : Int).toNat (⟨a2, (rd_T33 t615 t613).f1, (rd_T33 t615 t613).f2, (rd_T33 t615 t613).f3⟩ : S33)) := ⟨_, rfl⟩
      replace H : ((spec_checkedSignature.f kj4 y618).bind fun bt619 => (some (bt619.1, bt619.2))) = some (r1, r2) := by first | (rw [hy618]; with_reducible exact H) | (have H2_ := (Option.bind_some _ _).symm.trans H; rw [hy618]; with_reducible exact H2_) | (have H2_ := (Option.bind_some _ _).symm.trans H; with_reducible exact H2_) | with_reducible exact H | (rw [hy618]; exact H) | exact H
      have Ny618 := Aside0.mk hy618; clear hy618; replace H := Option.bind_eq_some_iff.mp H; obtain ⟨⟨t619, t622⟩, A250, H⟩ := H
      (try dsimp only at H)
      have A25 := Aside0.mk A250; clear A250; simp only [Option.some.injEq, Prod.mk.injEq] at H; obtain ⟨rfl, rfl⟩ := H; have hnb26 := NB611_612.out; have hnc26 := NB612_611.out; have hcz27_0 : wc.cell? ⟨gb611, 0, none⟩ = some (.slice A0_0 l0_0.length c0_0) := (blk_cell BK611.out 0).trans rfl; have hfz27_0 := blk_frozen BK611.out 0; go_wp2_with (first | ((with_reducible refine gate_callee (f := 57) rfl ?_); refine goesL_ (some 24) rfl rfl Try.func57 (by kernel_rfl) rfl #[.slice A0_0 l0_0.length c0_0] rfl zl ?_; (with_reducible refine (spec_copyParams.calls _ _ l0_0 t615 _ ?side1 ?side2 A21.out).mono ?_); (case side1 => repeat (first | exact (Kd.C_below HR0_0.out HB.out) | (with_reducible refine Kd.C_alloc ?_ _) | (with_reducible refine Kd.C_drewN ?_ _) | (with_reducible refine Kd.C_drew ?_))); (case side2 => exact HC0_0.out); rintro e w28 ⟨v616, rfl, ho0, hb⟩; refine ⟨_, rfl, ?_⟩; have HO617 := Aside0.mk (Kd.R_lower ho0 (below_size (zB HB))); replace BK611 := Aside0.mk (blk_below (g := gb611) (o := .cells #[.slice A0_0 l0_0.length c0_0] 25 (0, 0)) (zb BK611) hb); replace BK612 := Aside0.mk (blk_below (g := gb612) (o := .cells #[.slice none 0 0] 25 (0, 0)) (zb BK612) hb); replace HB := Aside0.mk (below_step (zB HB) hb); (try clear hb); (try clear hb2); (try clear hk); (try clear hi); (try clear ho0); have p24 : 0 ≤ (t613 : Int) := of_decide_eq_true za; have q24 : (t613 : Int) < ((t615.length : Int) : Int) := of_decide_eq_true za; obtain ⟨go24, co24, eo24, gb24, gl24, cl24, HG24⟩ := Kd.R_form HO617.out (by omega); (first | cases eo24 | (injection eo24 with ea_ en_ ec_; (first | subst ea_ | (injection ea_ with ea_; subst ea_)); subst ec_; clear en_)); have GB24 := Aside0.mk gb24; have GG24 := Aside0.mk HG24; clear gb24 gl24 HG24; obtain ⟨ce24, hcl24, hM24, hcc24, hfr24⟩ := Kd.R_elem HO617.out z33 (t613 : Int) p24 q24; obtain rfl := k33_openM hM24; have hx24_0 : w28.cell? ⟨go24, (t613 : Int).toNat * 4, none⟩ = some (.string ((rd_T33 t615 t613).f0)) := hcc24 0 _ rfl; have hx24_1 : w28.cell? ⟨go24, (t613 : Int).toNat * 4 + 1, none⟩ = some (.int .i64 ((rd_T33 t615 t613).f1)) := hcc24 1 _ rfl; have hx24_2 : w28.cell? ⟨go24, (t613 : Int).toNat * 4 + 2, none⟩ = some (.bool ((rd_T33 t615 t613).f2)) := hcc24 2 _ rfl; have hx24_3 : w28.cell? ⟨go24, (t613 : Int).toNat * 4 + 3, none⟩ = some (.int .i64 ((rd_T33 t615 t613).f3)) := hcc24 3 _ rfl; have hf24_0 : w28.frozen? ⟨go24, (t613 : Int).toNat * 4, none⟩ = false := hfr24 0; have hf24_1 : w28.frozen? ⟨go24, (t613 : Int).toNat * 4 + 1, none⟩ = false := hfr24 1; have hf24_2 : w28.frozen? ⟨go24, (t613 : Int).toNat * 4 + 2, none⟩ = false := hfr24 2; have hf24_3 : w28.frozen? ⟨go24, (t613 : Int).toNat * 4 + 3, none⟩ = false := hfr24 3; clear hcl24 hcc24 hfr24 hM24; replace p24 := eq_true p24; replace q24 := eq_true q24; have HX29 := Aside0.mk (show Kd.R k33 33 w28 w.heap.size (fun _ => True) (.slice (some ⟨go24, 0, none⟩) t615.length co24) t615 from (zo HO617)); obtain ⟨ce29, hcl29, hM29, hcc29, hfr29⟩ := Kd.R_elem HX29.out z33 (t613 : Int) (of_decide_eq_true za) (by have h_ : (t613 : Int) < ((t615.length : Int) : Int) := of_decide_eq_true za; first | exact h_ | (have e_ := (Kd.R_reads' HO617.out).1; omega) | simpa using h_); obtain rfl := k33_openM hM29; have HP29 := Kd.R_seg HX29.out (t613 : Int) (of_decide_eq_true za) (by have h_ : (t613 : Int) < ((t615.length : Int) : Int) := of_decide_eq_true za; first | exact h_ | (have e_ := (Kd.R_reads' HO617.out).1; omega) | simpa using h_) (seg := [.string a2]) (j := 0) hcl29 hcc29 (show 1 ≤ 4 from by decide) (x' := (⟨a2, (rd_T33 t615 t613).f1, (rd_T33 t615 t613).f2, (rd_T33 t615 t613).f3⟩ : S33)) (k33_mkM _ _ _ (⟨a2, (rd_T33 t615 t613).f1, (rd_T33 t615 t613).f2, (rd_T33 t615 t613).f3⟩ : S33) ) (fun _ hk => hk); have hx29_0 := hcc29 0 _ rfl; (try simp only [show (k33).sz = 4 from rfl, Nat.mul_one, Nat.add_zero] at hx29_0); have hf29_0 := hfr29 0; (try simp only [show (k33).sz = 4 from rfl, Nat.mul_one, Nat.add_zero] at hf29_0); clear hcl29 hcc29 hfr29 hM29) | ((with_reducible refine gate_store (t := 9) (p := 29) rfl ?_); refine store_event (t := 9) (p := 29) (v := ?vo_w30) (w1 := (w28.setCell ⟨go24, (t613 : Int).toNat * 4, none⟩ (.string a2))) ?hg ?ho ?hn ?hr ?_; (case ho => rfl); (case hg => rfl); (case hn => rfl); (case hr => first | (go_simp; done) | (go_simp; rfl)); intro w30 hw; have hg : w28.grownBy w30 (some go24) := (by rw [hw]; exact HP29.2); have hp_ : Kd.R k33 33 w30 w.heap.size (fun _ => True) (.slice (some ⟨go24, 0, none⟩) t615.length co24) y618 := (by rw [hw, Ny618.out]; exact HP29.1); clear HP29; replace BK611 := Aside0.mk (blk_grown (g := gb611) (o := .cells #[.slice A0_0 l0_0.length c0_0] 25 (0, 0)) (zb BK611) hg (Kd.R_ne HO617.out BK611.out (by decide))); replace BK612 := Aside0.mk (blk_grown (g := gb612) (o := .cells #[.slice none 0 0] 25 (0, 0)) (zb BK612) hg (Kd.R_ne HO617.out BK612.out (by decide))); replace HO617 := Aside0.mk (hp_); replace HB := Aside0.mk ((by rw [hw]; exact below_set (HB.out) GB24.out : Below w.heap.size w w30)); clear hg hw hp_) | ((with_reducible refine gate_callee (f := 69) rfl ?_); refine goesL_ (some 31) rfl rfl Try.func69 (by kernel_rfl) rfl #[.slice (some ⟨go24, 0, none⟩) t615.length co24] rfl zl ?_; (with_reducible refine (spec_checkedSignature.calls kj4 (fun k_ => some k_ = (.slice (some ⟨go24, 0, none⟩) t615.length co24 : Value).ownBlock) (.slice (some ⟨go24, 0, none⟩) t615.length co24) y618 t619 t622 w _ ?side1 ?side2 A25.out).mono ?_); (case side1 => exact zB HB); (case side2 => exact Kd.R_tight rfl HO617.out); rintro e w31 ⟨v620, rfl, ho0, hb, hkp⟩; refine ⟨_, rfl, ?_⟩; have n0_ := Aside0.mk (blk_kept (zb BK611) hkp (fun hs_ => (fun e_ => (Kd.R_ne HO617.out BK611.out (by decide)) e_) hs_)); have n1_ := Aside0.mk (blk_kept (zb BK612) hkp (fun hs_ => (fun e_ => (Kd.R_ne HO617.out BK612.out (by decide)) e_) hs_)); have n2_ := Aside0.mk (Kd.R_mono (ok' := fun k_ => True) ho0 (fun k_ hk_ => trivial)); have n3_ := Aside0.mk (hb); clear BK611; clear BK612; clear HB; clear HO617; have BK611 := n0_; have BK612 := n1_; have HO621 := n2_; have HB := n3_; clear n0_ n1_ n2_ n3_; (try clear hb); (try clear hkp); (try clear ho0); obtain ⟨Ao32, co32, eo32⟩ := Kd.R_slice HO621.out; subst eo32; have hcz33_0 : w31.cell? ⟨gb612, 0, none⟩ = some (.slice none 0 0) := (blk_cell BK612.out 0).trans rfl; have hfz33_0 := blk_frozen BK612.out 0)); refine bodyPost_ret (results_ct rfl _ _ gb612 25 #[.slice Ao32 t619.length co32] (0, 0) _ rfl (by (with_reducible repeat (first | refine blk_drewN ?_ _ | refine blk_drew ?_ | refine blk_alloc ?_ _)); refine blk_put (cs := #[.slice none 0 0]) ?_ 0 _ rfl; (with_reducible repeat (first | refine blk_drewN ?_ _ | refine blk_drew ?_ | refine blk_alloc ?_ _)); exact BK612.out) Try.underlying25 rfl (by kernel_rfl)) rfl ?_; exact ⟨_, by first | rfl | (simp [errW_none, errW_some] <;> rfl) | (simp [*, errW_none, errW_some] <;> rfl), by (with_reducible repeat (first | apply Kd.R_alloc | apply Kd.R_drewN | apply Kd.R_drew)); exact Kd.R_mono (Kd.R_far (p := ⟨gb612, 0, none⟩) (Kd.R_types HO621.out BK612.out (by decide)) (fun _ hk => hk.2) (.slice Ao32 t619.length co32)) (fun _ hk => trivial), zB HB⟩
     ·rw [if_neg c23] at H; exact absurd H (by simp)
    ·rw [if_neg c22] at H; exact absurd H (by simp)

end Go.Proofs.Ytlpmggokgcphiaa.Q

namespace Go.Proofs.Ytlpmggokgcphiaa.Q
open Go.RowKit Go.Proofs.YtlpmggokgcphiaaL.PrintWords Go.Proofs.YtlpmggokgcphiaaL.PrintLast Go.Proofs.YtlpmggokgcphiaaL.PrintMore
attribute [local go_sem] max2_int min2_int max_two min_two max_three min_three max_four min_four   -- for this text's walks alone
set_option linter.unusedVariables false
set_option linter.unusedSimpArgs false

/-! ### slices.ContainsFunc at impl.Param: function 109 -/
set_option maxHeartbeats 8000000 in
set_option maxRecDepth 100000 in
theorem cf109.calls (p : S33 → Bool) (g : Nat) (lb : Array Value) (eg : ∀ args w, (callFunc g args).run Try.prog w = .ok (.enter g args) w) (A0 : Option Addr) (c0 : Nat) (l0 : List (S33)) (w : World)
  (hp : PxPred Try.prog g lb (fun x : S33 => .agg #[.string x.f0, .int .i64 x.f1, .bool x.f2, .int .i64 x.f3]) p w) (hr0 : Kd.C k33 w A0 l0.length l0) :
  Calls Try.prog 109 #[.slice A0 l0.length c0, .func (.func g) #[] lb] w fun e w' => e = .returned (.bool (l0.any p)) ∧ Below w.heap.size w w' := by
 rw [← pxIdx_any p l0]; go_enter Try.func109, Try.ntmps109; go_wp2_with fail; refine (ix103.calls p g lb eg A0 c0 l0 w hp hr0).mono ?_; rintro e w' ⟨rfl, hb'⟩; clear hp hr0; go_wp2; go_ret; exact ⟨by first | rfl | simp, hb'⟩
set_option maxHeartbeats 8000000 in
set_option maxRecDepth 100000 in
theorem impl_Signature_has.pred110 (a1 : Int) (B : Nat) (w : World) (hc : w.cell? ⟨B, 0, none⟩ = some (.int .i64 a1)) :
  PxPred Try.prog 110 #[.pointer (some ⟨B, 0, none⟩)] (fun x : S33 => .agg #[.string x.f0, .int .i64 x.f1, .bool x.f2, .int .i64 x.f3]) (fun x : S33 => x.f1 == a1) w := by
 intro W x hb; have hc' := px_cell hb hc; have hB' : B < W.heap.size := World.block_lt_of_cell? W _ hc'; clear hc
 show Calls Try.prog 110 #[.agg #[.string x.f0, .int .i64 x.f1, .bool x.f2, .int .i64 x.f3], .pointer (some ⟨B, 0, none⟩)] W _
 have hu33 := Try.underlying33; go_enter Try.func110, Try.ntmps110; go_wp2; go_ret; exact ⟨rfl, px_alloc _ _⟩
/-! ### impl_Signature_has: function 77 (a contract of our own) -/
def impl_Signature_has.f (l0_0 : List (S33)) (a1 : Int) : Option (Bool) := some (l0_0.any (fun x : S33 => x.f1 == a1))
set_option maxHeartbeats 8000000 in
set_option maxRecDepth 100000 in
theorem impl_Signature_has.calls (A0_0 : Option Addr) (c0_0 : Nat) (l0_0 : List (S33)) (a1 : Int) (r : Bool) (w : World) (hr0_0 : Kd.C k33 w A0_0 l0_0.length l0_0) (hc0_0 : l0_0.length ≤ c0_0) (h : impl_Signature_has.f l0_0 a1 = some r) :
  Calls Try.prog 77 #[.agg #[.slice A0_0 l0_0.length c0_0], .int .i64 a1] w fun e w' => e = .returned (.bool r) ∧ Below w.heap.size w w' := by
 have HR := Aside0.mk hr0_0; clear hr0_0; obtain rfl := Option.some.inj h; clear h; have hu25 := Try.underlying25; have eg := px_enters Try.func110 (by kernel_rfl) rfl; go_enter Try.func77, Try.ntmps77; go_wp2_with fail; refine (cf109.calls (fun x : S33 => x.f1 == a1) 110 _ eg A0_0 c0_0 l0_0 _ (impl_Signature_has.pred110 a1 (w.heap.size + 1) _ ?_) ?_).mono ?_
 ·go_simp
 ·exact Kd.C_below HR.out (below_alloc (px_alloc _ _) _)
 rintro e w' ⟨rfl, hb'⟩; go_wp2; go_ret; exact ⟨rfl, below_then (below_alloc (px_alloc _ _) _) (by simp; omega) hb'⟩

/-! ### slices_Clip_string_string: function 111 (a contract of our own) -/
def slices_Clip_string_string.f (l0 : List (ByteArray)) : Option (List (ByteArray)) := some l0
set_option maxHeartbeats 8000000 in
set_option maxRecDepth 100000 in
theorem slices_Clip_string_string.calls (P0_ : Nat → Prop) (u9000_ : Value) (l0 : List (ByteArray)) (r : List (ByteArray)) (w0 w : World) (hB : Below w0.heap.size w0 w) (ho0 : Kd.R Kd.string 9 w w0.heap.size P0_ u9000_ l0) (h : slices_Clip_string_string.f l0 = some r) :
  Calls Try.prog 111 #[u9000_] w fun e w' => ∃ v0_ : Value, e = .returned (v0_) ∧ Kd.R Kd.string 9 w' w0.heap.size (fun k_ => (P0_ k_ ∨ w.heap.size ≤ k_)) v0_ r ∧ Below w0.heap.size w0 w' ∧ Kept w w' (fun k_ => P0_ k_) := by
 obtain rfl := Option.some.inj h; clear h; obtain ⟨A0, c0, rfl⟩ := Kd.R_slice ho0; obtain ⟨_, hl, hC⟩ := Kd.R_reads' ho0; have hbig : l0.length ≤ 9223372036854775807 := hC.2.1; have HO := Aside0.mk ho0; have HB := Aside0.mk hB; clear ho0 hB hC; go_enter Try.func111, Try.ntmps111; go_wp2; go_ret; exact ⟨_, rfl, Kd.R_mono (Kd.R_clip HO.out (Nat.le_refl _) hl) (fun _ h => .inl h), HB.out, Kept.refl _ _⟩

end Go.Proofs.Ytlpmggokgcphiaa.Q

namespace Go.Proofs.Ytlpmggokgcphiaa.Q
open Go.RowKit Go.Proofs.YtlpmggokgcphiaaL.PrintWords Go.Proofs.YtlpmggokgcphiaaL.PrintLast Go.Proofs.YtlpmggokgcphiaaL.PrintMore
attribute [local go_sem] max2_int min2_int max_two min_two max_three min_three max_four min_four   -- for this text's walks alone
set_option linter.unusedVariables false
set_option linter.unusedSimpArgs false

/-! ### (impl.Signature).namesOf: function 79 -/
set_option maxHeartbeats 8000000 in
set_option maxRecDepth 100000 in
theorem nm79.calls (p : S33 → Bool) (g : Nat) (lb : Array Value) (eg : ∀ args w, (callFunc g args).run Try.prog w = .ok (.enter g args) w) (A0 : Option Addr) (c0 : Nat) (l0 : List S33) (w : World)
  (hp : PxPred Try.prog g lb (fun x : S33 => .agg #[.string x.f0, .int .i64 x.f1, .bool x.f2, .int .i64 x.f3]) p w) (hr0 : Kd.C k33 w A0 l0.length l0) (hl : l0.length * 16 ≤ 140737488355328) :
  Calls Try.prog 79 #[.agg #[.slice A0 l0.length c0], .func (.func g) #[] lb] w fun e w' => ∃ v0_ : Value, e = .returned (v0_) ∧ Kd.R Kd.string 9 w' w.heap.size (fun _ => True) v0_ ((l0.filter p).map S33.f0) ∧ Below w.heap.size w w' := by
 have HR := Aside0.mk hr0; clear hr0; have hbig : l0.length ≤ 9223372036854775807 := HR.out.2.1; have hu25 := Try.underlying25; have hu33 := Try.underlying33; go_enter Try.func79, Try.ntmps79; go_wp2; go_loopg [5, 11] l0.length (fun gg v5 v11 wr => ∃ kk : Nat, kk ≤ l0.length ∧ l0.length - kk ≤ gg ∧ v11 = .int .i64 kk ∧ Aside0 (Kd.R Kd.string 9 wr w.heap.size (fun _ => True) v5 (((l0.take kk).filter p).map S33.f0)) ∧ Aside0 (Below w.heap.size w wr))
 case atStart => exact ⟨0, Nat.zero_le _, by omega, rfl, ⟨Kd.R_nil _ _ _ _ _⟩, ⟨px_alloc _ _⟩⟩
 case round =>
  obtain ⟨kk, hkk, hg, rfl, HO, BW⟩ := hrel
  by_cases hlt : kk < l0.length
  ·have hltz : (kk : Int) < (l0.length : Int) := by omega
   have hz0 : (0 : Int) ≤ (kk : Int) := by omega
   obtain ⟨ad, e, hx0, hx1, hx2, hx3⟩ := at_T33 (Kd.C_below HR.out BW.out) (kk : Int) hz0 hltz; simp only [Int.toNat_natCast] at hx0 hx1 hx2 hx3
   cases e
   have hcall := fun (W : World) (h : Below wr.heap.size wr W) => hp W (rd_T33 l0 (kk : Int)) (below_then BW.out BW.out.size h)
   clear hp; have hft := px_filter_take p S33.f0 l0 kk hlt z33; rw [show rd_T33 l0 (kk : Int) = l0.getD kk z33 from rfl] at hx0 hx1 hx2 hx3 hcall; generalize l0.getD kk z33 = y at *; have HF := Aside0.mk hft; have HN := Aside0.mk (px_filter_len p S33.f0 l0 kk); clear hft; generalize ((l0.take kk).filter p).map S33.f0 = acc at *; obtain ⟨A5, c5, rfl⟩ := Kd.R_slice HO.out; go_wp2_with fail; refine (hcall _ (px_alloc _ _)).mono ?_; rintro e w' ⟨rfl, hb'⟩; clear hcall; have hcl : w'.cell? ⟨wr.heap.size, 0, none⟩ = some (.string y.f0) := (hb'.cell (p := ⟨wr.heap.size, 0, none⟩) (by simp)).trans (by go_simp); have HB := Aside0.mk (below_then (px_alloc _ _) (by simp) hb'); have HO2 := Aside0.mk (Kd.R_below HO.out HB.out); have HW := Aside0.mk (below_then BW.out BW.out.size HB.out); clear hb'
   cases hq : p y with
   | true =>
    rw [hq] at HF; have HQ := Aside0.mk hq; clear hq; go_wp2_with (first | ((with_reducible refine gate_dst (N := 22) rfl ?_); refine Kd.R_append Kd.string (w0 := w) w.heap.size (by rfl) (.tmp 18) (.tmp 21) 50 9 (.string ⟨#[]⟩) 16 rfl Try.underlying50 info9 rfl (by decide) (by decide) _ acc y.f0 [.string y.f0] (fun _ => True) (fun _ => False) rfl rfl rfl (fun _ h => h.elim) (fun _ _ => trivial) HO2.out HW.out HW.out.size ?aL ?_; (case aL => have := HN.out; omega); intro v7 w7 ho7 hb7 hg_ hnew_; clear hg_ hnew_; have HO7 := Aside0.mk ho7; have HB7 := Aside0.mk hb7; clear ho7 hb7)); go_roundg (l0.length - (kk + 1))
    case measure => omega
    case rel => exact ⟨kk + 1, by omega, by omega, by go_num, ⟨by rw [HF.out]; exact HO7.out⟩, HB7⟩
   | false =>
    rw [hq] at HF; have HQ := Aside0.mk hq; clear hq; go_wp2; go_roundg (l0.length - (kk + 1))
    case measure => omega
    case rel => exact ⟨kk + 1, by omega, by omega, by go_num, ⟨by rw [HF.out]; simpa using HO2.out⟩, HW⟩
  ·have : kk = l0.length := by omega
   subst this; have hltz : ¬ (l0.length : Int) < (l0.length : Int) := by omega
   have HO2 := Aside0.mk (by have h := HO.out; rwa [List.take_length] at h); clear HO; go_wp2_with fail; refine (slices_Clip_string_string.calls (fun _ => True) _ _ _ w _ BW.out HO2.out rfl).mono ?_; rintro e w2 ⟨v2, rfl, hv2, hb2, hk2⟩; have HOx := Aside0.mk hv2; have HBx := Aside0.mk hb2; clear hv2 hb2 hk2; go_wp2; go_ret; exact ⟨_, rfl, Kd.R_mono HOx.out (fun _ _ => trivial), HBx.out⟩
theorem impl_Param_placed.eq (a : ByteArray) (b : Int) (c : Bool) (d : Int) : impl_Param_placed.f a b c d = some (b == 0 || b == 1) := by
 unfold impl_Param_placed.f
 by_cases h : b = 0
 ·simp [h]
 ·simp [h]
theorem impl_Param_single.eq (a : ByteArray) (b : Int) (c : Bool) (d : Int) : impl_Param_single.f a b c d = some ((b == 0 || b == 1) || b == 3) := by
 unfold impl_Param_single.f; rw [impl_Param_placed.eq]
 by_cases h : (b == 0 || b == 1) = true
 ·simp [h]
 ·simp [h]
set_option maxHeartbeats 8000000 in
set_option maxRecDepth 100000 in
theorem impl_Signature_places.pred63 (w : World) :
  PxPred Try.prog 63 #[] (fun x : S33 => .agg #[.string x.f0, .int .i64 x.f1, .bool x.f2, .int .i64 x.f3]) (fun x : S33 => x.f1 == 0 || x.f1 == 1) w := by
 intro W x hb; exact impl_Param_placed.calls _ _ _ _ _ _ (impl_Param_placed.eq x.f0 x.f1 x.f2 x.f3)
/-! ### impl_Signature_places: function 78 (a contract of our own) -/
def impl_Signature_places.f (l0_0 : List (S33)) : Option (Int) := if l0_0.length * 16 ≤ 140737488355328 then some (((l0_0.filter (fun x : S33 => x.f1 == 0 || x.f1 == 1)).length : Nat) : Int) else none
set_option maxHeartbeats 8000000 in
set_option maxRecDepth 100000 in
theorem impl_Signature_places.calls (A0_0 : Option Addr) (c0_0 : Nat) (l0_0 : List (S33)) (r : Int) (w : World) (hr0_0 : Kd.C k33 w A0_0 l0_0.length l0_0) (hc0_0 : l0_0.length ≤ c0_0) (h : impl_Signature_places.f l0_0 = some r) :
  Calls Try.prog 78 #[.agg #[.slice A0_0 l0_0.length c0_0]] w fun e w' => e = .returned (.int .i64 r) ∧ Below w.heap.size w w' := by
 have HR := Aside0.mk hr0_0; have HC := Aside0.mk hc0_0; clear hr0_0 hc0_0; unfold impl_Signature_places.f at h
 have hl : l0_0.length * 16 ≤ 140737488355328 := by
  by_cases hh : l0_0.length * 16 ≤ 140737488355328
  ·exact hh
  ·simp [hh] at h
 simp only [if_pos hl] at h; obtain rfl := Option.some.inj h; clear h; have HL := Aside0.mk hl; clear hl; have hu25 := Try.underlying25; have eg := px_enters Try.func63 (by kernel_rfl) rfl; go_enter Try.func78, Try.ntmps78; go_wp2_with fail; refine (nm79.calls (fun x : S33 => x.f1 == 0 || x.f1 == 1) 63 _ eg A0_0 c0_0 l0_0 _ (impl_Signature_places.pred63 _) (Kd.C_below HR.out (px_alloc _ _)) HL.out).mono ?_; rintro e w2 ⟨v2, rfl, hv2, hb2⟩; obtain ⟨A2, c2, rfl⟩ := Kd.R_slice hv2; have HB2 := Aside0.mk (below_then (px_alloc _ _) (by simp) hb2); clear hv2 hb2; go_wp2; go_ret; exact ⟨by simp, HB2.out⟩

end Go.Proofs.Ytlpmggokgcphiaa.Q

namespace Go.Proofs.Ytlpmggokgcphiaa.Q
open Go.RowKit Go.Proofs.YtlpmggokgcphiaaL.PrintWords Go.Proofs.YtlpmggokgcphiaaL.PrintLast Go.Proofs.YtlpmggokgcphiaaL.PrintMore
attribute [local go_sem] max2_int min2_int max_two min_two max_three min_three max_four min_four   -- for this text's walks alone
set_option linter.unusedVariables false
set_option linter.unusedSimpArgs false

/-! ### impl_MostPlaces: function 32 -/
def impl_MostPlaces.f (k : Nat) (l0_0 : List (S33)) : Option (Int) := (impl_ValidSignature.f k l0_0).bind fun t624 => (if t624 = true then ((impl_Signature_has.f l0_0 2).bind fun t625 => (if t625 = true then (some (-1)) else ((impl_Signature_places.f l0_0).bind fun t626 => (some t626)))) else (some (-2)))
theorem impl_MostPlaces.mono : ∀ a0 k, LeO (impl_MostPlaces.f k a0) (impl_MostPlaces.f (k + 1) a0) := by
 intro a0 k; unfold impl_MostPlaces.f
 repeat' first
   | (with_reducible exact impl_ValidSignature.mono _ _)
   | (with_reducible exact LeO.refl _)
   | (with_reducible exact LeO.none _)
   | (with_reducible refine LeO.ite ?_ ?_)
   | (with_reducible refine LeO.bind ?_ (fun _ => ?_))
   | exact impl_ValidSignature.mono _ _
   | exact LeO.none _
   | refine LeO.ite ?_ ?_
   | refine LeO.bind ?_ (fun _ => ?_)
set_option maxHeartbeats 8000000 in
set_option maxRecDepth 100000 in
theorem impl_MostPlaces.calls (k : Nat) (A0_0 : Option Addr) (c0_0 : Nat) (l0_0 : List (S33)) (r : Int) (w : World) (hr0_0 : Kd.C k33 w A0_0 l0_0.length l0_0) (hc0_0 : l0_0.length ≤ c0_0) (h : impl_MostPlaces.f k l0_0 = some r) :
  Calls Try.prog 32 #[.agg #[.slice A0_0 l0_0.length c0_0]] w fun e w' => e = .returned (.int .i64 r) ∧ Below w.heap.size w w' := by
 have hu25 := Try.underlying25; have HR0_0 := Aside0.mk hr0_0; have HC0_0 := Aside0.mk hc0_0; clear hr0_0 hc0_0; have HB := Aside0.mk (Below.refl w.heap.size w); have H : ((impl_ValidSignature.f k l0_0).bind fun t624 => (if t624 = true then ((impl_Signature_has.f l0_0 2).bind fun t625 => (if t625 = true then (some (-1)) else ((impl_Signature_places.f l0_0).bind fun t626 => (some t626)))) else (some (-2)))) = some r := h; clear h; replace H := Option.bind_eq_some_iff.mp H; obtain ⟨t624, A20, H⟩ := H
 (try dsimp only at H)
 have A2 := Aside0.mk A20; clear A20
 by_cases c3 : t624 = true
 ·subst c3; rw [if_pos rfl] at H; replace H := Option.bind_eq_some_iff.mp H; obtain ⟨t625, A40, H⟩ := H
  (try dsimp only at H)
  have A4 := Aside0.mk A40; clear A40
  by_cases c5 : t625 = true
  ·subst c5; rw [if_pos rfl] at H; obtain rfl := Option.some.inj H; go_enter Try.func32, Try.ntmps32; go_wp2_with (first | ((with_reducible refine gate_dst (N := 1) rfl ?_); refine zx (N := 1) (cs := #[.slice A0_0 l0_0.length c0_0]) (t := 25) ?_; intro gb623 hg w6 hbox hb; have BK623 := Aside0.mk (hbox); have GW623 := Aside0.mk ((by rw [hg]; exact (below_size (zB HB)) : w.heap.size ≤ gb623)); have GE623 := GW623; replace HB := Aside0.mk (below_step (zB HB) hb); clear hb hbox hg; have hcz7_0 : w6.cell? ⟨gb623, 0, none⟩ = some (.slice A0_0 l0_0.length c0_0) := (blk_cell BK623.out 0).trans rfl; have hfz7_0 := blk_frozen BK623.out 0) | ((with_reducible refine gate_callee (f := 20) rfl ?_); refine goesL_ (some 5) rfl rfl Try.func20 (by kernel_rfl) rfl #[.agg #[.slice A0_0 l0_0.length c0_0]] rfl zl ?_; (with_reducible refine (impl_ValidSignature.calls k _ _ l0_0 true _ ?side1 ?side2 A2.out).mono ?_); (case side1 => repeat (first | exact (Kd.C_below HR0_0.out HB.out) | (with_reducible refine Kd.C_alloc ?_ _) | (with_reducible refine Kd.C_drewN ?_ _) | (with_reducible refine Kd.C_drew ?_))); (case side2 => exact HC0_0.out); rintro e w8 ⟨rfl, hb⟩; refine ⟨_, rfl, ?_⟩; replace BK623 := Aside0.mk (blk_below (g := gb623) (o := .cells #[.slice A0_0 l0_0.length c0_0] 25 (0, 0)) (zb BK623) hb); replace HB := Aside0.mk (below_step (zB HB) hb); (try clear hb); (try clear hb2); (try clear hk); (try clear hi); have hcz9_0 : w8.cell? ⟨gb623, 0, none⟩ = some (.slice A0_0 l0_0.length c0_0) := (blk_cell BK623.out 0).trans rfl; have hfz9_0 := blk_frozen BK623.out 0) | ((with_reducible refine gate_callee (f := 77) rfl ?_); refine goesL_ (some 9) rfl rfl Try.func77 (by kernel_rfl) rfl #[.agg #[.slice A0_0 l0_0.length c0_0], .int .i64 2] rfl zl ?_; (with_reducible refine (impl_Signature_has.calls _ _ l0_0 2 true _ ?side1 ?side2 A4.out).mono ?_); (case side1 => repeat (first | exact (Kd.C_below HR0_0.out HB.out) | (with_reducible refine Kd.C_alloc ?_ _) | (with_reducible refine Kd.C_drewN ?_ _) | (with_reducible refine Kd.C_drew ?_))); (case side2 => exact HC0_0.out); rintro e w10 ⟨rfl, hb⟩; refine ⟨_, rfl, ?_⟩; replace BK623 := Aside0.mk (blk_below (g := gb623) (o := .cells #[.slice A0_0 l0_0.length c0_0] 25 (0, 0)) (zb BK623) hb); replace HB := Aside0.mk (below_step (zB HB) hb); (try clear hb); (try clear hb2); (try clear hk); (try clear hi))); go_ret; exact ⟨by first | rfl | (simp [errW_none, errW_some] <;> rfl) | (simp [*, errW_none, errW_some] <;> rfl), zB HB⟩
  ·replace c5 := Bool.eq_false_iff.mpr c5; subst c5; rw [if_neg (show ¬ (false = true) by decide)] at H; replace H := Option.bind_eq_some_iff.mp H; obtain ⟨t626, A110, H⟩ := H
   (try dsimp only at H)
   have A11 := Aside0.mk A110; clear A110; obtain rfl := Option.some.inj H; go_enter Try.func32, Try.ntmps32; go_wp2_with (first | ((with_reducible refine gate_dst (N := 1) rfl ?_); refine zx (N := 1) (cs := #[.slice A0_0 l0_0.length c0_0]) (t := 25) ?_; intro gb623 hg w12 hbox hb; have BK623 := Aside0.mk (hbox); have GW623 := Aside0.mk ((by rw [hg]; exact (below_size (zB HB)) : w.heap.size ≤ gb623)); have GE623 := GW623; replace HB := Aside0.mk (below_step (zB HB) hb); clear hb hbox hg; have hcz13_0 : w12.cell? ⟨gb623, 0, none⟩ = some (.slice A0_0 l0_0.length c0_0) := (blk_cell BK623.out 0).trans rfl; have hfz13_0 := blk_frozen BK623.out 0) | ((with_reducible refine gate_callee (f := 20) rfl ?_); refine goesL_ (some 5) rfl rfl Try.func20 (by kernel_rfl) rfl #[.agg #[.slice A0_0 l0_0.length c0_0]] rfl zl ?_; (with_reducible refine (impl_ValidSignature.calls k _ _ l0_0 true _ ?side1 ?side2 A2.out).mono ?_); (case side1 => repeat (first | exact (Kd.C_below HR0_0.out HB.out) | (with_reducible refine Kd.C_alloc ?_ _) | (with_reducible refine Kd.C_drewN ?_ _) | (with_reducible refine Kd.C_drew ?_))); (case side2 => exact HC0_0.out); rintro e w14 ⟨rfl, hb⟩; refine ⟨_, rfl, ?_⟩; replace BK623 := Aside0.mk (blk_below (g := gb623) (o := .cells #[.slice A0_0 l0_0.length c0_0] 25 (0, 0)) (zb BK623) hb); replace HB := Aside0.mk (below_step (zB HB) hb); (try clear hb); (try clear hb2); (try clear hk); (try clear hi); have hcz15_0 : w14.cell? ⟨gb623, 0, none⟩ = some (.slice A0_0 l0_0.length c0_0) := (blk_cell BK623.out 0).trans rfl; have hfz15_0 := blk_frozen BK623.out 0) | ((with_reducible refine gate_callee (f := 77) rfl ?_); refine goesL_ (some 9) rfl rfl Try.func77 (by kernel_rfl) rfl #[.agg #[.slice A0_0 l0_0.length c0_0], .int .i64 2] rfl zl ?_; (with_reducible refine (impl_Signature_has.calls _ _ l0_0 2 false _ ?side1 ?side2 A4.out).mono ?_); (case side1 => repeat (first | exact (Kd.C_below HR0_0.out HB.out) | (with_reducible refine Kd.C_alloc ?_ _) | (with_reducible refine Kd.C_drewN ?_ _) | (with_reducible refine Kd.C_drew ?_))); (case side2 => exact HC0_0.out); rintro e w16 ⟨rfl, hb⟩; refine ⟨_, rfl, ?_⟩; replace BK623 := Aside0.mk (blk_below (g := gb623) (o := .cells #[.slice A0_0 l0_0.length c0_0] 25 (0, 0)) (zb BK623) hb); replace HB := Aside0.mk (below_step (zB HB) hb); (try clear hb); (try clear hb2); (try clear hk); (try clear hi); have hcz17_0 : w16.cell? ⟨gb623, 0, none⟩ = some (.slice A0_0 l0_0.length c0_0) := (blk_cell BK623.out 0).trans rfl; have hfz17_0 := blk_frozen BK623.out 0) | ((with_reducible refine gate_callee (f := 78) rfl ?_); refine goesL_ (some 11) rfl rfl Try.func78 (by kernel_rfl) rfl #[.agg #[.slice A0_0 l0_0.length c0_0]] rfl zl ?_; (with_reducible refine (impl_Signature_places.calls _ _ l0_0 t626 _ ?side1 ?side2 A11.out).mono ?_); (case side1 => repeat (first | exact (Kd.C_below HR0_0.out HB.out) | (with_reducible refine Kd.C_alloc ?_ _) | (with_reducible refine Kd.C_drewN ?_ _) | (with_reducible refine Kd.C_drew ?_))); (case side2 => exact HC0_0.out); rintro e w18 ⟨rfl, hb⟩; refine ⟨_, rfl, ?_⟩; replace BK623 := Aside0.mk (blk_below (g := gb623) (o := .cells #[.slice A0_0 l0_0.length c0_0] 25 (0, 0)) (zb BK623) hb); replace HB := Aside0.mk (below_step (zB HB) hb); (try clear hb); (try clear hb2); (try clear hk); (try clear hi))); go_ret; exact ⟨by first | rfl | (simp [errW_none, errW_some] <;> rfl) | (simp [*, errW_none, errW_some] <;> rfl), zB HB⟩
 ·replace c3 := Bool.eq_false_iff.mpr c3; subst c3; rw [if_neg (show ¬ (false = true) by decide)] at H; obtain rfl := Option.some.inj H; go_enter Try.func32, Try.ntmps32; go_wp2_with (first | ((with_reducible refine gate_dst (N := 1) rfl ?_); refine zx (N := 1) (cs := #[.slice A0_0 l0_0.length c0_0]) (t := 25) ?_; intro gb623 hg w19 hbox hb; have BK623 := Aside0.mk (hbox); have GW623 := Aside0.mk ((by rw [hg]; exact (below_size (zB HB)) : w.heap.size ≤ gb623)); have GE623 := GW623; replace HB := Aside0.mk (below_step (zB HB) hb); clear hb hbox hg; have hcz20_0 : w19.cell? ⟨gb623, 0, none⟩ = some (.slice A0_0 l0_0.length c0_0) := (blk_cell BK623.out 0).trans rfl; have hfz20_0 := blk_frozen BK623.out 0) | ((with_reducible refine gate_callee (f := 20) rfl ?_); refine goesL_ (some 5) rfl rfl Try.func20 (by kernel_rfl) rfl #[.agg #[.slice A0_0 l0_0.length c0_0]] rfl zl ?_; (with_reducible refine (impl_ValidSignature.calls k _ _ l0_0 false _ ?side1 ?side2 A2.out).mono ?_); (case side1 => repeat (first | exact (Kd.C_below HR0_0.out HB.out) | (with_reducible refine Kd.C_alloc ?_ _) | (with_reducible refine Kd.C_drewN ?_ _) | (with_reducible refine Kd.C_drew ?_))); (case side2 => exact HC0_0.out); rintro e w21 ⟨rfl, hb⟩; refine ⟨_, rfl, ?_⟩; replace BK623 := Aside0.mk (blk_below (g := gb623) (o := .cells #[.slice A0_0 l0_0.length c0_0] 25 (0, 0)) (zb BK623) hb); replace HB := Aside0.mk (below_step (zB HB) hb); (try clear hb); (try clear hb2); (try clear hk); (try clear hi))); go_ret; exact ⟨by first | rfl | (simp [errW_none, errW_some] <;> rfl) | (simp [*, errW_none, errW_some] <;> rfl), zB HB⟩

set_option maxHeartbeats 8000000 in
set_option maxRecDepth 100000 in
theorem impl_NeededParams.pred80 (w : World) :
  PxPred Try.prog 80 #[] (fun x : S33 => .agg #[.string x.f0, .int .i64 x.f1, .bool x.f2, .int .i64 x.f3]) (fun x : S33 => ((x.f1 == 0 || x.f1 == 1) || x.f1 == 3) && !x.f2) w := by
 intro W x hb
 show Calls Try.prog 80 #[.agg #[.string x.f0, .int .i64 x.f1, .bool x.f2, .int .i64 x.f3]] W _
 have hu33 := Try.underlying33; obtain ⟨y0, y1, y2, y3⟩ := x; dsimp only
 cases y2
 ·cases hq : ((y1 == 0 || y1 == 1) || y1 == 3) <;> (
   have HQ := Aside0.mk hq; clear hq; go_enter Try.func80, Try.ntmps80; go_wp2_with fail; refine (impl_Param_single.calls _ _ _ _ _ _ ((impl_Param_single.eq y0 y1 false y3).trans (congrArg some HQ.out))).mono ?_; rintro e w1 ⟨rfl, hb1⟩; have hcl : w1.cell? ⟨W.heap.size, 2, none⟩ = some (.bool false) := (hb1.cell (p := ⟨W.heap.size, 2, none⟩) (by simp)).trans (by go_simp); have HB := Aside0.mk (below_then (px_alloc _ _) (by simp) hb1); clear hb1; go_wp2; go_ret
   exact ⟨by first | rfl | (rw [HQ.out]; rfl), HB.out⟩)
 ·cases hq : ((y1 == 0 || y1 == 1) || y1 == 3) <;> (
   have HQ := Aside0.mk hq; clear hq; go_enter Try.func80, Try.ntmps80; go_wp2_with fail; refine (impl_Param_single.calls _ _ _ _ _ _ ((impl_Param_single.eq y0 y1 true y3).trans (congrArg some HQ.out))).mono ?_; rintro e w1 ⟨rfl, hb1⟩; have hcl : w1.cell? ⟨W.heap.size, 2, none⟩ = some (.bool true) := (hb1.cell (p := ⟨W.heap.size, 2, none⟩) (by simp)).trans (by go_simp); have HB := Aside0.mk (below_then (px_alloc _ _) (by simp) hb1); clear hb1; go_wp2; go_ret
   exact ⟨by first | rfl | (rw [HQ.out]; rfl), HB.out⟩)
/-! ### impl_NeededParams: function 33 (a contract of our own) -/
def impl_NeededParams.f (k : Nat) (l0_0 : List (S33)) : Option (List ByteArray) := (impl_ValidSignature.f k l0_0).bind fun b => if b = true then (if l0_0.length * 16 ≤ 140737488355328 then some ((l0_0.filter (fun x : S33 => ((x.f1 == 0 || x.f1 == 1) || x.f1 == 3) && !x.f2)).map S33.f0) else none) else some []
theorem impl_NeededParams.mono : ∀ a0 k, LeO (impl_NeededParams.f k a0) (impl_NeededParams.f (k + 1) a0) := by
 intro a0 k; unfold impl_NeededParams.f
 repeat' first
   | (with_reducible exact impl_ValidSignature.mono _ _)
   | (with_reducible exact LeO.refl _)
   | (with_reducible exact LeO.none _)
   | (with_reducible refine LeO.ite ?_ ?_)
   | (with_reducible refine LeO.bind ?_ (fun _ => ?_))
   | exact impl_ValidSignature.mono _ _
   | exact LeO.none _
   | refine LeO.ite ?_ ?_
   | refine LeO.bind ?_ (fun _ => ?_)
set_option maxHeartbeats 8000000 in
set_option maxRecDepth 100000 in
theorem impl_NeededParams.calls (k : Nat) (A0_0 : Option Addr) (c0_0 : Nat) (l0_0 : List (S33)) (r : List ByteArray) (w : World) (hr0_0 : Kd.C k33 w A0_0 l0_0.length l0_0) (hc0_0 : l0_0.length ≤ c0_0) (h : impl_NeededParams.f k l0_0 = some r) :
  Calls Try.prog 33 #[.agg #[.slice A0_0 l0_0.length c0_0]] w fun e w' => ∃ v0_ : Value, e = .returned (v0_) ∧ Kd.R Kd.string 9 w' w.heap.size (fun _ => True) v0_ r ∧ Below w.heap.size w w' := by
 have HR := Aside0.mk hr0_0; have HC := Aside0.mk hc0_0; clear hr0_0 hc0_0; unfold impl_NeededParams.f at h; obtain ⟨b, hv, h⟩ := Option.bind_eq_some_iff.1 h; have HV := Aside0.mk hv; clear hv; have hu25 := Try.underlying25; have eg := px_enters Try.func80 (by kernel_rfl) rfl
 cases b with
 | false =>
  obtain rfl : [] = r := by simpa using h
  clear h; go_enter Try.func33, Try.ntmps33; go_wp2_with fail; refine (impl_ValidSignature.calls k A0_0 c0_0 l0_0 false _ (Kd.C_below HR.out (px_alloc _ _)) HC.out HV.out).mono ?_; rintro e w1 ⟨rfl, hb1⟩; have HB := Aside0.mk (below_then (px_alloc _ _) (by simp <;> omega) hb1); clear hb1; go_wp2; go_ret; exact ⟨_, rfl, Kd.R_nil _ _ _ _ _, HB.out⟩
 | true =>
 have hl : l0_0.length * 16 ≤ 140737488355328 := by
  by_cases hh : l0_0.length * 16 ≤ 140737488355328
  ·exact hh
  ·simp [hh] at h
 simp only [if_pos hl, if_true] at h; obtain rfl := Option.some.inj h; clear h; have HL := Aside0.mk hl; clear hl; go_enter Try.func33, Try.ntmps33; go_wp2_with fail; refine (impl_ValidSignature.calls k A0_0 c0_0 l0_0 true _ (Kd.C_below HR.out (px_alloc _ _)) HC.out HV.out).mono ?_; rintro e w1 ⟨rfl, hb1⟩; have hcl : w1.cell? ⟨w.heap.size, 0, none⟩ = some (.slice A0_0 l0_0.length c0_0) := (hb1.cell (p := ⟨w.heap.size, 0, none⟩) (by simp <;> omega)).trans (by go_simp); have HB := Aside0.mk (below_then (px_alloc _ _) (by simp <;> omega) hb1); clear hb1; go_wp2_with fail; refine (nm79.calls (fun x : S33 => ((x.f1 == 0 || x.f1 == 1) || x.f1 == 3) && !x.f2) 80 _ eg A0_0 c0_0 l0_0 _ (impl_NeededParams.pred80 _) (Kd.C_below HR.out HB.out) HL.out).mono ?_; rintro e w2 ⟨v2, rfl, hv2, hb2⟩; have HO2 := Aside0.mk (Kd.R_lower hv2 (below_size HB.out)); have HB2 := Aside0.mk (below_then HB.out (below_size HB.out) hb2); clear hv2 hb2; go_wp2; go_ret; exact ⟨_, rfl, HO2.out, HB2.out⟩

end Go.Proofs.Ytlpmggokgcphiaa.Q
