-- written by px.py and merge.py (programs of this claim's), over the kit's print. Not trusted: Lean checks it.
import Derived.Test.YtlpmggokgcphiaaM0FnWrappedSignatureNone
import Derived.Test.YtlpmggokgcphiaaM1FnWrappedSignatureNone
import Derived.Test.YtlpmggokgcphiaaM4FnWrappedSignatureNone
namespace Go.Proofs.Ytlpmggokgcphiaa.Q
open Go.RowKit Go.Proofs.YtlpmggokgcphiaaL.PrintWords Go.Proofs.YtlpmggokgcphiaaL.PrintLast Go.Proofs.YtlpmggokgcphiaaL.PrintMore
attribute [local go_sem] max2_int min2_int max_two min_two max_three min_three max_four min_four   -- for this text's walks alone
set_option linter.unusedVariables false
set_option linter.unusedSimpArgs false

set_option maxHeartbeats 8000000 in
set_option maxRecDepth 100000 in
theorem wr_pred88 (c : Int) (B : Nat) (w : World) (hc : w.cell? ⟨B, 0, none⟩ = some (.int .i64 c)) :
  PxPred Try.prog 88 #[.pointer (some ⟨B, 0, none⟩)] (fun x : S33 => .agg #[.string x.f0, .int .i64 x.f1, .bool x.f2, .int .i64 x.f3]) (fun x : S33 => x.f1 == c) w := by
 intro W x hb; have hc' := px_cell hb hc; have hB' : B < W.heap.size := World.block_lt_of_cell? W _ hc'; clear hc
 show Calls Try.prog 88 #[.agg #[.string x.f0, .int .i64 x.f1, .bool x.f2, .int .i64 x.f3], .pointer (some ⟨B, 0, none⟩)] W _
 have hu33 := Try.underlying33; go_enter Try.func88, Try.ntmps88; go_wp2; go_ret; exact ⟨rfl, px_alloc _ _⟩
set_option maxHeartbeats 8000000 in
set_option maxRecDepth 100000 in
theorem wr_pred63 (w : World) : PxPred Try.prog 63 #[] (fun x : S33 => .agg #[.string x.f0, .int .i64 x.f1, .bool x.f2, .int .i64 x.f3]) (fun x : S33 => x.f1 == 0 || x.f1 == 1) w := by
 intro W x hb
 show Calls Try.prog 63 #[.agg #[.string x.f0, .int .i64 x.f1, .bool x.f2, .int .i64 x.f3]] W _
 have hu33 := Try.underlying33; obtain ⟨y0, y1, y2, y3⟩ := x; dsimp only; go_enter Try.func63, Try.ntmps63
 cases h0 : (y1 == 0) <;> cases h1 : (y1 == 1) <;> (
  go_wp2; go_ret
  exact ⟨by simp, px_alloc _ _⟩)
theorem px_end0 {P : Program} {fn : Func} {R : Ending → World → Prop} {a : Act} {w : World} (hr : fn.results = #[]) (hd : a.defers = []) (hR : R (.returned (.tuple #[])) w) : bodyPost P fn R .normal a w :=
 bodyPost_end (results_none hr _ _ _) hd hR
structure OutKept (W w' : World) (gbo : Nat) (v : Value) : Prop where
 os : w'.os = W.os
 tape : w'.tape = W.tape
 output : w'.output = W.output
 size : W.heap.size ≤ w'.heap.size
 block : ∀ k, k < W.heap.size → k ≠ gbo → some k ≠ v.ownBlock → w'.heap[k]? = W.heap[k]?
theorem ok_below {W a b : World} {gbo B : Nat} {v : Value} (h : OutKept W a gbo v) (hb : Below B a b) (hs : W.heap.size ≤ B) : OutKept W b gbo v :=
 ⟨hb.os.trans h.os, hb.tape.trans h.tape, hb.output.trans h.output, Nat.le_trans h.size hb.size, fun k hk h1 h2 => (hb.block k (by omega)).trans (h.block k hk h1 h2)⟩
theorem ok_grown {W a b : World} {gbo : Nat} {v v' : Value} (h : OutKept W a gbo v) (hg : a.grownBy b v'.ownBlock) (ho : v'.ownBlock = v.ownBlock ∨ ∃ q, v'.ownBlock = some q ∧ W.heap.size ≤ q) : OutKept W b gbo v :=
 ⟨hg.os.trans h.os, hg.tape.trans h.tape, hg.output.trans h.output, Nat.le_trans h.size hg.size, fun k hk h1 h2 => by
  have hne : some k ≠ v'.ownBlock := by
   rcases ho with e | ⟨q, e, hq⟩
   ·rw [e]; exact h2
   ·rw [e]; intro e2; cases e2; omega
  exact (hg.block k (Nat.lt_of_lt_of_le hk h.size) hne).trans (h.block k hk h1 h2)⟩
theorem ok_set {W a : World} {gbo : Nat} {v : Value} (h : OutKept W a gbo v) (u : Value) : OutKept W (a.setCell ⟨gbo, 0, none⟩ u) gbo v :=
 ⟨h.os, h.tape, h.output, by simpa using h.size, fun k hk h1 h2 => (Below.heap_setCell a ⟨gbo, 0, none⟩ u k h1).trans (h.block k hk h1 h2)⟩
theorem ok_own {W a : World} {v v' v9 : Value} (hs : W.heap.size ≤ a.heap.size) (ho : v'.ownBlock = v.ownBlock ∨ ∃ q, v'.ownBlock = some q ∧ W.heap.size ≤ q) (hat : v9.ownBlock = v'.ownBlock ∨ ∃ b, v9.ownBlock = some b ∧ a.heap.size ≤ b) : v9.ownBlock = v.ownBlock ∨ ∃ q, v9.ownBlock = some q ∧ W.heap.size ≤ q := by
 rcases hat with e | ⟨b, e, hb⟩
 ·rw [e]; exact ho
 ·exact .inr ⟨b, e, Nat.le_trans hs hb⟩
set_option maxHeartbeats 8000000 in
set_option maxRecDepth 100000 in
theorem add86 (p : S33 → Bool) (g : Nat) (lb : Array Value) (inv : World → Prop) (eg : ∀ args w, (callFunc g args).run Try.prog w = .ok (.enter g args) w)
  (hp : ∀ (W : World) (x : S33), inv W → Calls Try.prog g (#[.agg #[.string x.f0, .int .i64 x.f1, .bool x.f2, .int .i64 x.f3]] ++ lb) W fun e w' => e = .returned (.bool (p x)) ∧ Below W.heap.size W w')
  (w0 W : World) (gbo : Nat) (v : Value) (acc : List S33) (A : Option Addr) (c : Nat) (l : List S33) (hB : Below w0.heap.size w0 W) (hgb : w0.heap.size ≤ gbo) (hbx : W.heap[gbo]? = some (.cells #[v] 25 (0, 0)))
  (hR : Kd.R k33 33 W w0.heap.size (fun _ => True) v acc) (hC : Kd.C k33 w0 A l.length l) (hc : l.length ≤ c) (hi : ∀ w', OutKept W w' gbo v → inv w') (hroom : acc.length + l.length < 3518437208883) :
  Calls Try.prog 86 #[.agg #[.slice A l.length c], .func (.func g) #[] lb, .pointer (some ⟨gbo, 0, none⟩)] W fun e w' => e = .returned (.tuple #[]) ∧ ∃ v', w'.heap[gbo]? = some (.cells #[v'] 25 (0, 0)) ∧ Kd.R k33 33 w' w0.heap.size (fun _ => True) v' (acc ++ l.filter p) ∧ Below w0.heap.size w0 w' ∧ OutKept W w' gbo v := by
 have hu25 := Try.underlying25; have hu33 := Try.underlying33; have HB := Aside0.mk hB; have HC := Aside0.mk hC; have HR := Aside0.mk hR; have BX := Aside0.mk hbx; have hbig : l.length ≤ 9223372036854775807 := hC.2.1; clear hB hC hR hbx; go_enter Try.func86, Try.ntmps86; go_wp2_with fail; go_loopg [10] l.length (fun gg s10 wr => ∃ (kk : Nat) (acc' : List S33) (v' : Value), kk ≤ l.length ∧ l.length - kk ≤ gg ∧ s10 = .int .i64 kk ∧ Aside0 (acc' = acc ++ (l.take kk).filter p) ∧ Aside0 (wr.heap[gbo]? = some (.cells #[v'] 25 (0, 0))) ∧ Aside0 (Kd.R k33 33 wr w0.heap.size (fun _ => True) v' acc') ∧ Aside0 (Below w0.heap.size w0 wr) ∧ Aside0 (OutKept W wr gbo v) ∧ Aside0 (v'.ownBlock = v.ownBlock ∨ ∃ b, v'.ownBlock = some b ∧ W.heap.size ≤ b))
 case atStart => exact ⟨0, acc, v, Nat.zero_le _, by omega, rfl, ⟨by simp⟩, ⟨zb BX⟩, ⟨zo HR⟩, ⟨below_alloc HB.out _⟩, ⟨⟨rfl, rfl, rfl, by simp, fun k hk _ _ => by first | exact Below.block (px_alloc W _) k hk | simp⟩⟩, ⟨.inl rfl⟩⟩
 case round =>
  obtain ⟨kk, acc', v', hkk, hg, rfl, HA, BO, HO, BW, OK, OB⟩ := hrel
  by_cases hlt : kk < l.length
  ·have hltz : (kk : Int) < (l.length : Int) := by omega
   have hz0 : (0 : Int) ≤ (kk : Int) := by omega
   obtain ⟨ad, e, hx0, hx1, hx2, hx3⟩ := at_T33 (Kd.C_below HC.out BW.out) (kk : Int) hz0 hltz
   cases e
   simp only [Int.toNat_natCast] at hx0 hx1 hx2 hx3; have E : rd_T33 l (kk : Int) = l.getD kk z33 := rfl; rw [E] at hx0 hx1 hx2 hx3; generalize hy : l.getD kk z33 = y at hx0 hx1 hx2 hx3; have HY := Aside0.mk hy; clear E hy; go_upto_region 4 with (first | ((with_reducible refine gate_dst (N := 6) rfl ?_); refine zx (N := 6) (cs := #[.string ⟨#[]⟩, .int .i64 0, .bool false, .int .i64 0]) (t := 33) ?_; intro gb6 hg6 w4 hbox hb; have BK6 := Aside0.mk hbox; have GE6 := Aside0.mk ((by rw [hg6]; exact BW.out.size : w0.heap.size ≤ gb6)); have GO6 := Aside0.mk ((by rw [hg6]; exact OK.out.size : W.heap.size ≤ gb6)); have NB6 := Aside0.mk ((by rw [hg6]; exact Nat.ne_of_lt (blk_lt BO.out) : gbo ≠ gb6)); have OK4 := Aside0.mk hb; replace HO := Aside0.mk (Kd.R_below (Kd.R_elderB HO.out gb6 (by rw [hg6]; exact Nat.le_refl _)) hb); replace BO := Aside0.mk (blk_below BO.out hb); replace BW := Aside0.mk (below_step BW.out hb); clear hb hbox hg6; have hce0 : w4.cell? ⟨gb6, 0, none⟩ = some (.string ⟨#[]⟩) := (blk_cell BK6.out 0).trans rfl; have hfe0 : w4.frozen? ⟨gb6, 0, none⟩ = false := blk_frozen BK6.out 0; have hce1 : w4.cell? ⟨gb6, 1, none⟩ = some (.int .i64 0) := (blk_cell BK6.out 1).trans rfl; have hfe1 : w4.frozen? ⟨gb6, 1, none⟩ = false := blk_frozen BK6.out 1; have hce2 : w4.cell? ⟨gb6, 2, none⟩ = some (.bool false) := (blk_cell BK6.out 2).trans rfl; have hfe2 : w4.frozen? ⟨gb6, 2, none⟩ = false := blk_frozen BK6.out 2; have hce3 : w4.cell? ⟨gb6, 3, none⟩ = some (.int .i64 0) := (blk_cell BK6.out 3).trans rfl; have hfe3 : w4.frozen? ⟨gb6, 3, none⟩ = false := blk_frozen BK6.out 3))
   have n0_ : Aside0 (Kd.R k33 33 ((((w4.setCell ⟨gb6, 0, none⟩ (.string y.f0)).setCell ⟨gb6, 1, none⟩ (.int .i64 y.f1)).setCell ⟨gb6, 2, none⟩ (.bool y.f2)).setCell ⟨gb6, 3, none⟩ (.int .i64 y.f3)) w0.heap.size (fun _ => True) v' acc') := ⟨Kd.R_mono (Kd.R_far (p := ⟨gb6, 3, none⟩) (Kd.R_far (p := ⟨gb6, 2, none⟩) (Kd.R_far (p := ⟨gb6, 1, none⟩) (Kd.R_far (p := ⟨gb6, 0, none⟩) HO.out (fun _ hk => hk.2) (.string y.f0)) (fun _ hk => hk.2) (.int .i64 y.f1)) (fun _ hk => hk.2) (.bool y.f2)) (fun _ hk => hk.2) (.int .i64 y.f3)) (fun _ _ => trivial)⟩
   have n1_ : Aside0 (((((w4.setCell ⟨gb6, 0, none⟩ (.string y.f0)).setCell ⟨gb6, 1, none⟩ (.int .i64 y.f1)).setCell ⟨gb6, 2, none⟩ (.bool y.f2)).setCell ⟨gb6, 3, none⟩ (.int .i64 y.f3)).heap[gb6]? = some (.cells #[.string y.f0, .int .i64 y.f1, .bool y.f2, .int .i64 y.f3] 33 (0, 0))) := ⟨by refine blk_put (cs := #[.string y.f0, .int .i64 y.f1, .bool y.f2, .int .i64 0]) ?_ 3 _ rfl; refine blk_put (cs := #[.string y.f0, .int .i64 y.f1, .bool false, .int .i64 0]) ?_ 2 _ rfl; refine blk_put (cs := #[.string y.f0, .int .i64 0, .bool false, .int .i64 0]) ?_ 1 _ rfl; refine blk_put (cs := #[.string ⟨#[]⟩, .int .i64 0, .bool false, .int .i64 0]) ?_ 0 _ rfl; exact BK6.out⟩
   have n2_ : Aside0 (((((w4.setCell ⟨gb6, 0, none⟩ (.string y.f0)).setCell ⟨gb6, 1, none⟩ (.int .i64 y.f1)).setCell ⟨gb6, 2, none⟩ (.bool y.f2)).setCell ⟨gb6, 3, none⟩ (.int .i64 y.f3)).heap[gbo]? = some (.cells #[v'] 25 (0, 0))) := ⟨zf BO⟩
   have n3_ : Aside0 (Below w0.heap.size w0 ((((w4.setCell ⟨gb6, 0, none⟩ (.string y.f0)).setCell ⟨gb6, 1, none⟩ (.int .i64 y.f1)).setCell ⟨gb6, 2, none⟩ (.bool y.f2)).setCell ⟨gb6, 3, none⟩ (.int .i64 y.f3))) := ⟨zB BW⟩
   have n4_ : Aside0 (OutKept W ((((w4.setCell ⟨gb6, 0, none⟩ (.string y.f0)).setCell ⟨gb6, 1, none⟩ (.int .i64 y.f1)).setCell ⟨gb6, 2, none⟩ (.bool y.f2)).setCell ⟨gb6, 3, none⟩ (.int .i64 y.f3)) gbo v) := ⟨ok_below (ok_below OK.out OK4.out OK.out.size) (((((Below.refl W.heap.size w4).setCell GO6.out _).setCell GO6.out _).setCell GO6.out _).setCell GO6.out _) (Nat.le_refl _)⟩
   clear HO BK6 BO BW OK OK4 hce0 hce1 hce2 hce3 hfe0 hfe1 hfe2 hfe3 hx0 hx1 hx2 hx3; generalize ((((w4.setCell ⟨gb6, 0, none⟩ (.string y.f0)).setCell ⟨gb6, 1, none⟩ (.int .i64 y.f1)).setCell ⟨gb6, 2, none⟩ (.bool y.f2)).setCell ⟨gb6, 3, none⟩ (.int .i64 y.f3)) = w5 at n0_ n1_ n2_ n3_ n4_ ⊢; have HO := n0_; have BK6 := n1_; have BO := n2_; have BW := n3_; have OK := n4_; clear n0_ n1_ n2_ n3_ n4_; have hcf0 : w5.cell? ⟨gb6, 0, none⟩ = some (.string y.f0) := (blk_cell BK6.out 0).trans rfl; have hcf1 : w5.cell? ⟨gb6, 1, none⟩ = some (.int .i64 y.f1) := (blk_cell BK6.out 1).trans rfl; have hcf2 : w5.cell? ⟨gb6, 2, none⟩ = some (.bool y.f2) := (blk_cell BK6.out 2).trans rfl; have hcf3 : w5.cell? ⟨gb6, 3, none⟩ = some (.int .i64 y.f3) := (blk_cell BK6.out 3).trans rfl; have hcall := hp w5 y (hi w5 OK.out); have HCALL := Aside0.mk hcall; clear hcall; go_wp2_with fail; refine HCALL.out.mono ?_; clear HCALL; rintro e w6 ⟨rfl, hb⟩; replace HO := Aside0.mk (Kd.R_below HO.out hb); replace BO := Aside0.mk (blk_below BO.out hb); replace BK6 := Aside0.mk (blk_below BK6.out hb); replace BW := Aside0.mk (below_step BW.out hb); replace OK := Aside0.mk (ok_below OK.out hb OK.out.size); clear hb hcf0 hcf1 hcf2 hcf3
   have HX : Aside0 ((l.take (kk + 1)).filter p = (l.take kk).filter p ++ (if p y = true then [y] else [])) := ⟨by
    have e : l.take (kk + 1) = l.take kk ++ [y] := by
     rw [List.take_succ_eq_append_getElem hlt, ← HY.out, List.getD_eq_getElem?_getD, List.getElem?_eq_getElem hlt]; rfl
    rw [e, List.filter_append]
    congr 1
    cases hq : p y <;> simp [hq]⟩
   cases hq : p y with
   | false =>
    have HQ := Aside0.mk hq; clear hq; go_wp2; go_roundg (l.length - (kk + 1))
    case measure => omega
    case rel => exact ⟨kk + 1, acc', v', by omega, by omega, by go_num, ⟨by rw [HX.out, HQ.out, HA.out]; simp⟩, BO, HO, BW, OK, OB⟩
   | true =>
    have hcf0 : w6.cell? ⟨gb6, 0, none⟩ = some (.string y.f0) := (blk_cell BK6.out 0).trans rfl; have hcf1 : w6.cell? ⟨gb6, 1, none⟩ = some (.int .i64 y.f1) := (blk_cell BK6.out 1).trans rfl; have hcf2 : w6.cell? ⟨gb6, 2, none⟩ = some (.bool y.f2) := (blk_cell BK6.out 2).trans rfl; have hcf3 : w6.cell? ⟨gb6, 3, none⟩ = some (.int .i64 y.f3) := (blk_cell BK6.out 3).trans rfl; have hcg0 : w6.cell? ⟨gbo, 0, none⟩ = some v' := (blk_cell BO.out 0).trans rfl; have hfg0 : w6.frozen? ⟨gbo, 0, none⟩ = false := blk_frozen BO.out 0
    have LM : Aside0 (acc'.length + 1 ≤ 3518437208883) := ⟨by
     rw [HA.out, List.length_append]; have := List.length_filter_le p (l.take kk); rw [List.length_take] at this
     omega⟩
    go_wp2_with (first | ((with_reducible refine gate_builtin (b := .append) (xs := #[.tmp 18, .tmp 20]) rfl ?_); at_builtin; refine Kd.R_append k33 (w0 := w0) w0.heap.size rfl (.tmp 18) (.tmp 20) 23 33 (.agg #[(.string ⟨#[]⟩), (.int .i64 0), (.bool false), (.int .i64 0)]) 40 rfl Try.underlying23 info33 rfl (by decide) (by omega) v' acc' y [.string y.f0, .int .i64 y.f1, .bool y.f2, .int .i64 y.f3] (fun _ => True) (fun _ => False) rfl rfl ?aP (fun _ hk => hk.elim) ?aF ?aO ?aB ?aS ?aL ?_; (case aP => exact k33_mkM _ _ _ y); (case aB => exact (zB BW)); (case aF => exact (fun _ _ => trivial)); (case aO => exact (zo HO)); (case aS => exact BW.out.size); (case aL => have := LM.out; omega); intro v9 w9 ho hb hg hat; replace BO := Aside0.mk (blk_grown (zb BO) hg (Kd.R_ne HO.out BO.out (by decide))); have OB2 := Aside0.mk (ok_own OK.out.size OB.out hat); replace OK := Aside0.mk (ok_grown OK.out hg OB.out); clear OB; have OB := OB2; clear OB2; replace BW := Aside0.mk hb; obtain ⟨A9, c9, e9⟩ := Kd.R_slice ho; subst e9; replace HO := Aside0.mk ho; clear ho hb hg hat; have hch0 : w9.cell? ⟨gbo, 0, none⟩ = some v' := (blk_cell BO.out 0).trans rfl; have hfh0 : w9.frozen? ⟨gbo, 0, none⟩ = false := blk_frozen BO.out 0)); have el : (acc' ++ [y]).length = acc'.length + 1 := by rw [List.length_append]; rfl
    rw [el] at HO OB; go_roundg (l.length - (kk + 1))
    case measure => omega
    case rel => exact ⟨kk + 1, acc' ++ [y], .slice A9 (acc'.length + 1) c9, by omega, by omega, by go_num, ⟨by rw [HX.out, hq, if_pos rfl, ← List.append_assoc, ← HA.out]⟩, ⟨blk_put BO.out 0 _ rfl⟩, ⟨Kd.R_mono (Kd.R_far (p := ⟨gbo, 0, none⟩) (Kd.R_types HO.out BO.out (by decide)) (fun _ hk => hk.2) _) (fun _ _ => trivial)⟩, ⟨below_set BW.out hgb⟩, ⟨ok_set OK.out _⟩, OB⟩
  ·have hltz : ¬ (kk : Int) < (l.length : Int) := by omega
   have hke : kk = l.length := by omega
   subst hke; go_wp2; rw [List.take_length] at HA; rw [← HA.out]; refine px_end0 rfl rfl ?_; exact ⟨by first | rfl | simp, _, BO.out, HO.out, BW.out, OK.out⟩
set_option maxHeartbeats 8000000 in
set_option maxRecDepth 100000 in
theorem wr_kind (c : Int) (w : World) : Calls Try.prog 87 #[.int .i64 c] w fun e w' => ∃ B : Nat, e = .returned (.func (.func 88) #[] #[.pointer (some ⟨B, 0, none⟩)]) ∧ w'.heap[B]? = some (.cells #[.int .i64 c] 3 (0, 0)) ∧ Below w.heap.size w w' := by
 go_enter Try.func87, Try.ntmps87; go_wp2; go_ret; exact ⟨_, rfl, blk_new _ _, px_alloc _ _⟩
theorem ok_blk {W w' : World} {gbo g base t : Nat} {v : Value} {cs : Array Value} {acc : List S33} (h : OutKept W w' gbo v) (hb : W.heap[g]? = some (.cells cs t (0, 0))) (hne : g ≠ gbo) (hR : Kd.R k33 33 W base (fun _ => True) v acc) (ht : 33 ≠ t) : w'.heap[g]? = some (.cells cs t (0, 0)) :=
 (h.block g (blk_lt hb) hne (Kd.R_ne hR hb ht)).trans hb
def wrP : S33 → Bool := fun x => x.f1 == 0 || x.f1 == 1
def wrK (c : Int) : S33 → Bool := fun x => x.f1 == c
def wrOut (l0 l1 : List S33) : List S33 := ((((([] ++ l0.filter wrP) ++ l1.filter wrP) ++ l1.filter (wrK 2)) ++ l0.filter (wrK 3)) ++ l1.filter (wrK 3)) ++ l1.filter (wrK 4)
/-! ### impl_WrappedSignature: function 41 (a contract of our own) -/
def impl_WrappedSignature.f (k : Nat) (l0_0 : List (S33)) (l1_0 : List (S33)) : Option ((List (S33)) × Bool) := (impl_IsWrapper.f k l0_0).bind fun b => if b = true then (impl_ValidSignature.f k l1_0).bind fun v => if v = true then (if (l0_0.length + l1_0.length) * 7 < 3518437208883 then (impl_ValidSignature.f k (wrOut l0_0 l1_0)).bind fun u => if u = true then (impl_Signature_copyOf.f (wrOut l0_0 l1_0)).bind fun c => some (c, true) else some ([], false) else none) else some ([], false) else some ([], false)
theorem impl_WrappedSignature.mono : ∀ a0 a1 k, LeO (impl_WrappedSignature.f k a0 a1) (impl_WrappedSignature.f (k + 1) a0 a1) := fun a0 a1 k => LeO.bind (impl_IsWrapper.mono _ _) (fun _ => LeO.ite (LeO.bind (impl_ValidSignature.mono _ _) (fun _ => LeO.ite (LeO.ite (LeO.bind (impl_ValidSignature.mono _ _) (fun _ => LeO.refl _)) (LeO.refl _)) (LeO.refl _))) (LeO.refl _))
set_option maxHeartbeats 8000000 in
set_option maxRecDepth 100000 in
theorem impl_WrappedSignature.calls (k : Nat) (A0_0 : Option Addr) (c0_0 : Nat) (l0_0 : List (S33)) (A1_0 : Option Addr) (c1_0 : Nat) (l1_0 : List (S33)) (r1 : List (S33)) (r2 : Bool) (w : World) (hr0_0 : Kd.C k33 w A0_0 l0_0.length l0_0) (hc0_0 : l0_0.length ≤ c0_0) (hr1_0 : Kd.C k33 w A1_0 l1_0.length l1_0) (hc1_0 : l1_0.length ≤ c1_0) (h : impl_WrappedSignature.f k l0_0 l1_0 = some (r1, r2)) :
  Calls Try.prog 41 #[.agg #[.slice A0_0 l0_0.length c0_0], .agg #[.slice A1_0 l1_0.length c1_0]] w fun e w' => ∃ v0_ : Value, e = .returned (.tuple #[.agg #[v0_], .bool r2]) ∧ Kd.R k33 33 w' w.heap.size (fun _ => True) v0_ r1 ∧ Below w.heap.size w w' := by
 have hu25 := Try.underlying25; have HR0 := Aside0.mk hr0_0; have HC0 := Aside0.mk hc0_0; have HR1 := Aside0.mk hr1_0; have HC1 := Aside0.mk hc1_0; clear hr0_0 hc0_0 hr1_0 hc1_0; unfold impl_WrappedSignature.f at h; replace h := Option.bind_eq_some_iff.mp h; obtain ⟨b, A10, h⟩ := h; have A1 := Aside0.mk A10; have HH := Aside0.mk h; clear h A10; have eg63 := px_enters Try.func63 (by kernel_rfl) rfl; have eg86 := px_enters Try.func86 (by kernel_rfl) rfl; have eg88 := px_enters Try.func88 (by kernel_rfl) rfl; have eg87 := px_enters Try.func87 (by kernel_rfl) rfl; go_enter Try.func41, Try.ntmps41; go_upto_region 1 with fail
 have BK2 : Aside0 ((((w.alloc (.cells #[.slice A0_0 l0_0.length c0_0] 25 (0, 0))).alloc (.cells #[.slice A1_0 l1_0.length c1_0] 25 (0, 0))).alloc (.cells #[.slice none 0 0] 25 (0, 0))).heap[w.heap.size]? = some (.cells #[.slice A0_0 l0_0.length c0_0] 25 (0, 0))) := ⟨blk_alloc (blk_alloc (blk_new w _) _) _⟩
 have BK3 : Aside0 ((((w.alloc (.cells #[.slice A0_0 l0_0.length c0_0] 25 (0, 0))).alloc (.cells #[.slice A1_0 l1_0.length c1_0] 25 (0, 0))).alloc (.cells #[.slice none 0 0] 25 (0, 0))).heap[(w.heap.size + 1)]? = some (.cells #[.slice A1_0 l1_0.length c1_0] 25 (0, 0))) := ⟨by have h_ := blk_alloc (blk_new (w.alloc (.cells #[.slice A0_0 l0_0.length c0_0] 25 (0, 0))) (.cells #[.slice A1_0 l1_0.length c1_0] 25 (0, 0))) (.cells #[.slice none 0 0] 25 (0, 0)); simpa using h_⟩
 have BK4 : Aside0 ((((w.alloc (.cells #[.slice A0_0 l0_0.length c0_0] 25 (0, 0))).alloc (.cells #[.slice A1_0 l1_0.length c1_0] 25 (0, 0))).alloc (.cells #[.slice none 0 0] 25 (0, 0))).heap[(w.heap.size + 1 + 1)]? = some (.cells #[.slice none 0 0] 25 (0, 0))) := ⟨by have h_ := blk_new ((w.alloc (.cells #[.slice A0_0 l0_0.length c0_0] 25 (0, 0))).alloc (.cells #[.slice A1_0 l1_0.length c1_0] 25 (0, 0))) (.cells #[.slice none 0 0] 25 (0, 0)); simpa using h_⟩
 have HB : Aside0 (Below w.heap.size w (((w.alloc (.cells #[.slice A0_0 l0_0.length c0_0] 25 (0, 0))).alloc (.cells #[.slice A1_0 l1_0.length c1_0] 25 (0, 0))).alloc (.cells #[.slice none 0 0] 25 (0, 0)))) := ⟨below_alloc (below_alloc (below_alloc (Below.refl _ _) _) _) _⟩
 generalize (((w.alloc (.cells #[.slice A0_0 l0_0.length c0_0] 25 (0, 0))).alloc (.cells #[.slice A1_0 l1_0.length c1_0] 25 (0, 0))).alloc (.cells #[.slice none 0 0] 25 (0, 0))) = w1 at BK2 BK3 BK4 HB ⊢; have hc2 : w1.cell? ⟨w.heap.size, 0, none⟩ = some (.slice A0_0 l0_0.length c0_0) := (blk_cell BK2.out 0).trans rfl; have hf2 : w1.frozen? ⟨w.heap.size, 0, none⟩ = false := blk_frozen BK2.out 0; have hc3 : w1.cell? ⟨(w.heap.size + 1), 0, none⟩ = some (.slice A1_0 l1_0.length c1_0) := (blk_cell BK3.out 0).trans rfl; have hf3 : w1.frozen? ⟨(w.heap.size + 1), 0, none⟩ = false := blk_frozen BK3.out 0; have hc4 : w1.cell? ⟨(w.heap.size + 1 + 1), 0, none⟩ = some (.slice none 0 0) := (blk_cell BK4.out 0).trans rfl; have hf4 : w1.frozen? ⟨(w.heap.size + 1 + 1), 0, none⟩ = false := blk_frozen BK4.out 0
 cases b with
 | false =>
  obtain ⟨rfl, rfl⟩ : [] = r1 ∧ false = r2 := by simpa using HH.out
  clear HH; go_upto_region 3 with fail
  refine (impl_IsWrapper.calls k _ _ l0_0 false _ (Kd.C_below HR0.out HB.out) HC0.out A1.out).mono ?_; rintro e w2 ⟨rfl, hb⟩; replace BK2 := Aside0.mk (blk_below BK2.out hb); replace BK3 := Aside0.mk (blk_below BK3.out hb); replace BK4 := Aside0.mk (blk_below BK4.out hb); replace HB := Aside0.mk (below_step HB.out hb); clear hb hc2 hf2 hc3 hf3 hc4 hf4; have hc2 : w2.cell? ⟨w.heap.size, 0, none⟩ = some (.slice A0_0 l0_0.length c0_0) := (blk_cell BK2.out 0).trans rfl; have hf2 : w2.frozen? ⟨w.heap.size, 0, none⟩ = false := blk_frozen BK2.out 0; have hc3 : w2.cell? ⟨(w.heap.size + 1), 0, none⟩ = some (.slice A1_0 l1_0.length c1_0) := (blk_cell BK3.out 0).trans rfl; have hf3 : w2.frozen? ⟨(w.heap.size + 1), 0, none⟩ = false := blk_frozen BK3.out 0; have hc4 : w2.cell? ⟨(w.heap.size + 1 + 1), 0, none⟩ = some (.slice none 0 0) := (blk_cell BK4.out 0).trans rfl; have hf4 : w2.frozen? ⟨(w.heap.size + 1 + 1), 0, none⟩ = false := blk_frozen BK4.out 0; go_wp2; refine bodyPost_ret (results_ct rfl _ _ (w.heap.size + 1 + 1) 25 #[.slice none 0 0] (0, 0) _ rfl (by (with_reducible repeat (first | refine blk_drewN ?_ _ | refine blk_drew ?_ | refine blk_alloc ?_ _)); refine blk_put (cs := #[.slice none 0 0]) ?_ 0 _ rfl; (with_reducible repeat (first | refine blk_drewN ?_ _ | refine blk_drew ?_ | refine blk_alloc ?_ _)); exact BK4.out) Try.underlying25 rfl (by kernel_rfl)) rfl ?_; exact ⟨_, rfl, Kd.R_nil _ _ _ _ _, below_set HB.out (by omega)⟩
 | true =>
  have h := HH.out; rw [if_pos rfl] at h; clear HH; replace h := Option.bind_eq_some_iff.mp h; obtain ⟨v, A20, h⟩ := h; have A2 := Aside0.mk A20; have HH := Aside0.mk h; clear h A20; go_upto_region 3 with fail
  refine (impl_IsWrapper.calls k _ _ l0_0 true _ (Kd.C_below HR0.out HB.out) HC0.out A1.out).mono ?_; rintro e w2 ⟨rfl, hb⟩; replace BK2 := Aside0.mk (blk_below BK2.out hb); replace BK3 := Aside0.mk (blk_below BK3.out hb); replace BK4 := Aside0.mk (blk_below BK4.out hb); replace HB := Aside0.mk (below_step HB.out hb); clear hb hc2 hf2 hc3 hf3 hc4 hf4; have hc2 : w2.cell? ⟨w.heap.size, 0, none⟩ = some (.slice A0_0 l0_0.length c0_0) := (blk_cell BK2.out 0).trans rfl; have hf2 : w2.frozen? ⟨w.heap.size, 0, none⟩ = false := blk_frozen BK2.out 0; have hc3 : w2.cell? ⟨(w.heap.size + 1), 0, none⟩ = some (.slice A1_0 l1_0.length c1_0) := (blk_cell BK3.out 0).trans rfl; have hf3 : w2.frozen? ⟨(w.heap.size + 1), 0, none⟩ = false := blk_frozen BK3.out 0; have hc4 : w2.cell? ⟨(w.heap.size + 1 + 1), 0, none⟩ = some (.slice none 0 0) := (blk_cell BK4.out 0).trans rfl; have hf4 : w2.frozen? ⟨(w.heap.size + 1 + 1), 0, none⟩ = false := blk_frozen BK4.out 0; go_upto_region 3 with fail
  refine (impl_ValidSignature.calls k _ _ l1_0 v _ (Kd.C_below HR1.out HB.out) HC1.out A2.out).mono ?_; rintro e w3 ⟨rfl, hb⟩; replace BK2 := Aside0.mk (blk_below BK2.out hb); replace BK3 := Aside0.mk (blk_below BK3.out hb); replace BK4 := Aside0.mk (blk_below BK4.out hb); replace HB := Aside0.mk (below_step HB.out hb); clear hb hc2 hf2 hc3 hf3 hc4 hf4; have hc2 : w3.cell? ⟨w.heap.size, 0, none⟩ = some (.slice A0_0 l0_0.length c0_0) := (blk_cell BK2.out 0).trans rfl; have hf2 : w3.frozen? ⟨w.heap.size, 0, none⟩ = false := blk_frozen BK2.out 0; have hc3 : w3.cell? ⟨(w.heap.size + 1), 0, none⟩ = some (.slice A1_0 l1_0.length c1_0) := (blk_cell BK3.out 0).trans rfl; have hf3 : w3.frozen? ⟨(w.heap.size + 1), 0, none⟩ = false := blk_frozen BK3.out 0; have hc4 : w3.cell? ⟨(w.heap.size + 1 + 1), 0, none⟩ = some (.slice none 0 0) := (blk_cell BK4.out 0).trans rfl; have hf4 : w3.frozen? ⟨(w.heap.size + 1 + 1), 0, none⟩ = false := blk_frozen BK4.out 0
  cases v with
  | false =>
   obtain ⟨rfl, rfl⟩ : [] = r1 ∧ false = r2 := by simpa using HH.out
   clear HH; go_wp2; refine bodyPost_ret (results_ct rfl _ _ (w.heap.size + 1 + 1) 25 #[.slice none 0 0] (0, 0) _ rfl (by (with_reducible repeat (first | refine blk_drewN ?_ _ | refine blk_drew ?_ | refine blk_alloc ?_ _)); refine blk_put (cs := #[.slice none 0 0]) ?_ 0 _ rfl; (with_reducible repeat (first | refine blk_drewN ?_ _ | refine blk_drew ?_ | refine blk_alloc ?_ _)); exact BK4.out) Try.underlying25 rfl (by kernel_rfl)) rfl ?_; exact ⟨_, rfl, Kd.R_nil _ _ _ _ _, below_set HB.out (by omega)⟩
  | true =>
   have h := HH.out; rw [if_pos rfl] at h; clear HH
   by_cases hm : (l0_0.length + l1_0.length) * 7 < 3518437208883
   rotate_left
   ·rw [if_neg hm] at h; cases h
   rw [if_pos hm] at h; replace h := Option.bind_eq_some_iff.mp h; obtain ⟨u, A30, h⟩ := h; have A3 := Aside0.mk A30; have HH := Aside0.mk h; have HM := Aside0.mk hm; clear h A30 hm; go_upto_region 6 with fail
   have hz0 := blk_lt BK2.out; have hz1 := blk_lt BK3.out; have hz2 := blk_lt BK4.out; have BK6 : Aside0 ((w3.alloc (.cells #[.slice none 0 0] 25 (0, 0))).heap[w3.heap.size]? = some (.cells #[.slice none 0 0] 25 (0, 0))) := ⟨blk_new _ _⟩
   replace BK2 := Aside0.mk (blk_alloc BK2.out (.cells #[.slice none 0 0] 25 (0, 0))); replace BK3 := Aside0.mk (blk_alloc BK3.out (.cells #[.slice none 0 0] 25 (0, 0))); replace BK4 := Aside0.mk (blk_alloc BK4.out (.cells #[.slice none 0 0] 25 (0, 0))); replace HB := Aside0.mk (below_alloc HB.out (.cells #[.slice none 0 0] 25 (0, 0))); have GE6 := Aside0.mk (show w.heap.size ≤ w3.heap.size by omega); have NE2 := Aside0.mk (show w.heap.size ≠ w3.heap.size by omega); have NE3 := Aside0.mk (show (w.heap.size + 1) ≠ w3.heap.size by omega); have NE4 := Aside0.mk (show (w.heap.size + 1 + 1) ≠ w3.heap.size by omega); clear hz0 hz1 hz2 hc2 hf2 hc3 hf3 hc4 hf4; generalize w3.alloc (.cells #[.slice none 0 0] 25 (0, 0)) = w4 at BK2 BK3 BK4 BK6 HB ⊢; generalize w3.heap.size = gb6 at BK6 GE6 NE2 NE3 NE4 ⊢; have HR : Aside0 (Kd.R k33 33 w4 w.heap.size (fun _ => True) (.slice none 0 0) []) := ⟨Kd.R_nil _ _ _ _ _⟩
   have hl0 := List.length_filter_le wrP l0_0; have hl1 := List.length_filter_le wrP l1_0; have hl2 := List.length_filter_le (wrK 2) l1_0; have hl3 := List.length_filter_le (wrK 3) l0_0; have hl4 := List.length_filter_le (wrK 3) l1_0; have hl5 := List.length_filter_le (wrK 4) l1_0; have HL := Aside0.mk (And.intro hl0 (And.intro hl1 (And.intro hl2 (And.intro hl3 (And.intro hl4 hl5))))); clear hl0 hl1 hl2 hl3 hl4 hl5; have hc2 : w4.cell? ⟨w.heap.size, 0, none⟩ = some (.slice A0_0 l0_0.length c0_0) := (blk_cell BK2.out 0).trans rfl; have hf2 : w4.frozen? ⟨w.heap.size, 0, none⟩ = false := blk_frozen BK2.out 0; have hc3 : w4.cell? ⟨(w.heap.size + 1), 0, none⟩ = some (.slice A1_0 l1_0.length c1_0) := (blk_cell BK3.out 0).trans rfl; have hf3 : w4.frozen? ⟨(w.heap.size + 1), 0, none⟩ = false := blk_frozen BK3.out 0; have hc4 : w4.cell? ⟨(w.heap.size + 1 + 1), 0, none⟩ = some (.slice none 0 0) := (blk_cell BK4.out 0).trans rfl; have hf4 : w4.frozen? ⟨(w.heap.size + 1 + 1), 0, none⟩ = false := blk_frozen BK4.out 0
   have hroom : ([] : List S33).length + l0_0.length < 3518437208883 := by
    have h1 := HM.out; obtain ⟨h2, h3, h4, h5, h6, h7⟩ := HL.out; simp only [List.length_append, List.length_nil]; omega
   go_wp2_with fail; refine (add86 wrP 63 #[] (fun _ => True) eg63 (fun W x _ => wr_pred63 W W x (Below.refl _ _)) w _ gb6 (.slice none 0 0) ([]) A0_0 c0_0 l0_0 HB.out GE6.out BK6.out HR.out HR0.out HC0.out (fun _ _ => trivial) hroom).mono ?_; clear hroom hc2 hf2 hc3 hf3 hc4 hf4; rintro e w11 ⟨rfl, v1, hb6, hr, hb, hk⟩; replace BK2 := Aside0.mk (ok_blk hk BK2.out NE2.out HR.out (by decide)); replace BK3 := Aside0.mk (ok_blk hk BK3.out NE3.out HR.out (by decide)); replace BK4 := Aside0.mk (ok_blk hk BK4.out NE4.out HR.out (by decide)); replace HR := Aside0.mk hr; replace BK6 := Aside0.mk hb6; replace HB := Aside0.mk hb; clear hr hb6 hb hk; have hc2 : w11.cell? ⟨w.heap.size, 0, none⟩ = some (.slice A0_0 l0_0.length c0_0) := (blk_cell BK2.out 0).trans rfl; have hf2 : w11.frozen? ⟨w.heap.size, 0, none⟩ = false := blk_frozen BK2.out 0; have hc3 : w11.cell? ⟨(w.heap.size + 1), 0, none⟩ = some (.slice A1_0 l1_0.length c1_0) := (blk_cell BK3.out 0).trans rfl; have hf3 : w11.frozen? ⟨(w.heap.size + 1), 0, none⟩ = false := blk_frozen BK3.out 0; have hc4 : w11.cell? ⟨(w.heap.size + 1 + 1), 0, none⟩ = some (.slice none 0 0) := (blk_cell BK4.out 0).trans rfl; have hf4 : w11.frozen? ⟨(w.heap.size + 1 + 1), 0, none⟩ = false := blk_frozen BK4.out 0
   have hroom : ([] ++ l0_0.filter wrP : List S33).length + l1_0.length < 3518437208883 := by
    have h1 := HM.out; obtain ⟨h2, h3, h4, h5, h6, h7⟩ := HL.out; simp only [List.length_append, List.length_nil]; omega
   go_wp2_with fail; refine (add86 wrP 63 #[] (fun _ => True) eg63 (fun W x _ => wr_pred63 W W x (Below.refl _ _)) w _ gb6 v1 ([] ++ l0_0.filter wrP) A1_0 c1_0 l1_0 HB.out GE6.out BK6.out HR.out HR1.out HC1.out (fun _ _ => trivial) hroom).mono ?_; clear hroom hc2 hf2 hc3 hf3 hc4 hf4; rintro e w12 ⟨rfl, v2, hb6, hr, hb, hk⟩; replace BK2 := Aside0.mk (ok_blk hk BK2.out NE2.out HR.out (by decide)); replace BK3 := Aside0.mk (ok_blk hk BK3.out NE3.out HR.out (by decide)); replace BK4 := Aside0.mk (ok_blk hk BK4.out NE4.out HR.out (by decide)); replace HR := Aside0.mk hr; replace BK6 := Aside0.mk hb6; replace HB := Aside0.mk hb; clear hr hb6 hb hk; have hc2 : w12.cell? ⟨w.heap.size, 0, none⟩ = some (.slice A0_0 l0_0.length c0_0) := (blk_cell BK2.out 0).trans rfl; have hf2 : w12.frozen? ⟨w.heap.size, 0, none⟩ = false := blk_frozen BK2.out 0; have hc3 : w12.cell? ⟨(w.heap.size + 1), 0, none⟩ = some (.slice A1_0 l1_0.length c1_0) := (blk_cell BK3.out 0).trans rfl; have hf3 : w12.frozen? ⟨(w.heap.size + 1), 0, none⟩ = false := blk_frozen BK3.out 0; have hc4 : w12.cell? ⟨(w.heap.size + 1 + 1), 0, none⟩ = some (.slice none 0 0) := (blk_cell BK4.out 0).trans rfl; have hf4 : w12.frozen? ⟨(w.heap.size + 1 + 1), 0, none⟩ = false := blk_frozen BK4.out 0
   have hroom : (([] ++ l0_0.filter wrP) ++ l1_0.filter wrP : List S33).length + l1_0.length < 3518437208883 := by
    have h1 := HM.out; obtain ⟨h2, h3, h4, h5, h6, h7⟩ := HL.out; simp only [List.length_append, List.length_nil]; omega
   go_wp2; have hcd : w12.drew.cell? ⟨(w.heap.size + 1), 0, none⟩ = some (.slice A1_0 l1_0.length c1_0) := hc3; refine start_ (n := 5) (S := fun w' => w'.cell? ⟨(w.heap.size + 1), 0, none⟩ = some (.slice A1_0 l1_0.length c1_0)) (ds := []) #[false, false, false, false, false] (by kernel_rfl) rfl rfl hcd (fun hHeld => ?_); replace BK2 := Aside0.mk (blk_drew BK2.out); replace BK3 := Aside0.mk (blk_drew BK3.out); replace BK4 := Aside0.mk (blk_drew BK4.out); replace BK6 := Aside0.mk (blk_drew BK6.out); replace HR := Aside0.mk (Kd.R_drew HR.out); replace HB := Aside0.mk (below_drew1 HB.out); clear hcd hc2 hf2 hc3 hf3 hc4 hf4; generalize w12.drew = w23 at BK2 BK3 BK4 BK6 HR HB hHeld ⊢; refine take_ (i := 1) (N := some 26) (v := ?_) (a' := ?_) #[false, true, false, false, false] rfl rfl (by kernel_rfl) (fun _ _ _ h => h) (Or.inl ⟨by rfl, ?_⟩) hHeld ?_ ?_; rotate_left
   ·intro w' s0; go_simp; with_reducible rfl
   rotate_left
   ·simp only [Act.put, List.setIfInBounds_toArray, List.set_cons_zero, List.set_cons_succ, i64_w, i32_w]; rfl
   refine pure_ (i := 0) (N := some 25) (v := ?_) (a' := ?_) #[true, true, false, false, false] rfl rfl (by kernel_rfl) (fun _ _ _ h => h) (Or.inl ⟨by rfl, ?_⟩) ?_ ?_; rotate_left
   ·intro w'; go_simp; with_reducible rfl
   rotate_left
   ·simp only [Act.put, List.setIfInBounds_toArray, List.set_cons_zero, List.set_cons_succ, i64_w, i32_w]; rfl
   refine pure_ (i := 2) (N := some 27) (v := ?_) (a' := ?_) #[true, true, true, false, false] rfl rfl (by kernel_rfl) (fun _ _ _ h => h) (Or.inl ⟨by rfl, ?_⟩) ?_ ?_; rotate_left
   ·intro w'; go_simp; with_reducible rfl
   rotate_left
   ·simp only [Act.put, List.setIfInBounds_toArray, List.set_cons_zero, List.set_cons_succ, i64_w, i32_w]; rfl
   refine one_ (i := 3) (N := some 28) #[true, true, true, true, false] rfl rfl (by kernel_rfl) (by decide) (fun K hK => ?_); refine call_ 87 #[.int .i64 2] (by rfl) rfl (by unfold execOp; simp [resolve, Deferred.ofValue, invoke, Act.eval, eg87]) ?_; refine (wr_kind 2 _).mono ?_; rintro e w33 ⟨B3, rfl, hB, hb⟩; have hneB : B3 ≠ gb6 := fun e_ => by rw [e_, (blk_below BK6.out hb)] at hB; simp at hB
   replace BK2 := Aside0.mk (blk_below BK2.out hb); replace BK3 := Aside0.mk (blk_below BK3.out hb); replace BK4 := Aside0.mk (blk_below BK4.out hb); replace BK6 := Aside0.mk (blk_below BK6.out hb); replace HR := Aside0.mk (Kd.R_below HR.out hb); replace HB := Aside0.mk (below_step HB.out hb); clear hb; refine ⟨_, rfl, hK.out _ _ ((blk_cell BK3.out 0).trans rfl) (fun hHeld => ?_)⟩; clear hK K; refine norm_ (a' := ?_) ?_ ?_; rotate_left
   ·simp only [Act.put, List.setIfInBounds_toArray, List.set_cons_zero, List.set_cons_succ]; rfl
   refine one_ (i := 4) (N := some 29) #[true, true, true, true, true] rfl rfl (by kernel_rfl) (by decide) (fun K hK => ?_); refine call_ 86 #[.agg #[.slice A1_0 l1_0.length c1_0], .func (.func 88) #[] #[.pointer (some ⟨B3, 0, none⟩)], .pointer (some ⟨gb6, 0, none⟩)] (by rfl) rfl (by unfold execOp; simp [resolve, Deferred.ofValue, invoke, Act.eval, eg86]) ?_; refine (add86 (wrK 2) 88 #[.pointer (some ⟨B3, 0, none⟩)] (fun w' => w'.cell? ⟨B3, 0, none⟩ = some (.int .i64 2)) eg88 (fun W x hc => wr_pred88 2 B3 W hc W x (Below.refl _ _)) w _ gb6 v2 (([] ++ l0_0.filter wrP) ++ l1_0.filter wrP) A1_0 c1_0 l1_0 HB.out GE6.out BK6.out HR.out HR1.out HC1.out (fun w' hk => (blk_cell (ok_blk hk hB hneB HR.out (by decide)) 0).trans rfl) hroom).mono ?_; clear hroom; rintro e w13 ⟨rfl, v3, hb6, hr, hb, hk⟩; replace BK2 := Aside0.mk (ok_blk hk BK2.out NE2.out HR.out (by decide)); replace BK3 := Aside0.mk (ok_blk hk BK3.out NE3.out HR.out (by decide)); replace BK4 := Aside0.mk (ok_blk hk BK4.out NE4.out HR.out (by decide)); replace HR := Aside0.mk hr; replace BK6 := Aside0.mk hb6; replace HB := Aside0.mk hb; clear hr hb6 hb hk; clear hB hneB; refine ⟨_, rfl, hK.out _ _ ((blk_cell BK3.out 0).trans rfl) (fun hHeld => ?_)⟩; clear hK K; refine norm_ (a' := ?_) ?_ ?_; rotate_left
   ·simp only [Act.put, List.setIfInBounds_toArray, List.set_cons_zero, List.set_cons_succ]; rfl
   refine done_ (by kernel_rfl) ?_; clear hHeld; have hc2 : w13.cell? ⟨w.heap.size, 0, none⟩ = some (.slice A0_0 l0_0.length c0_0) := (blk_cell BK2.out 0).trans rfl; have hf2 : w13.frozen? ⟨w.heap.size, 0, none⟩ = false := blk_frozen BK2.out 0; have hc3 : w13.cell? ⟨(w.heap.size + 1), 0, none⟩ = some (.slice A1_0 l1_0.length c1_0) := (blk_cell BK3.out 0).trans rfl; have hf3 : w13.frozen? ⟨(w.heap.size + 1), 0, none⟩ = false := blk_frozen BK3.out 0; have hc4 : w13.cell? ⟨(w.heap.size + 1 + 1), 0, none⟩ = some (.slice none 0 0) := (blk_cell BK4.out 0).trans rfl; have hf4 : w13.frozen? ⟨(w.heap.size + 1 + 1), 0, none⟩ = false := blk_frozen BK4.out 0
   have hroom : ((([] ++ l0_0.filter wrP) ++ l1_0.filter wrP) ++ l1_0.filter (wrK 2) : List S33).length + l0_0.length < 3518437208883 := by
    have h1 := HM.out; obtain ⟨h2, h3, h4, h5, h6, h7⟩ := HL.out; simp only [List.length_append, List.length_nil]; omega
   go_wp2; have hcd : w13.drew.cell? ⟨w.heap.size, 0, none⟩ = some (.slice A0_0 l0_0.length c0_0) := hc2; refine start_ (n := 5) (S := fun w' => w'.cell? ⟨w.heap.size, 0, none⟩ = some (.slice A0_0 l0_0.length c0_0)) (ds := []) #[false, false, false, false, false] (by kernel_rfl) rfl rfl hcd (fun hHeld => ?_); replace BK2 := Aside0.mk (blk_drew BK2.out); replace BK3 := Aside0.mk (blk_drew BK3.out); replace BK4 := Aside0.mk (blk_drew BK4.out); replace BK6 := Aside0.mk (blk_drew BK6.out); replace HR := Aside0.mk (Kd.R_drew HR.out); replace HB := Aside0.mk (below_drew1 HB.out); clear hcd hc2 hf2 hc3 hf3 hc4 hf4; generalize w13.drew = w24 at BK2 BK3 BK4 BK6 HR HB hHeld ⊢; refine take_ (i := 1) (N := some 31) (v := ?_) (a' := ?_) #[false, true, false, false, false] rfl rfl (by kernel_rfl) (fun _ _ _ h => h) (Or.inl ⟨by rfl, ?_⟩) hHeld ?_ ?_; rotate_left
   ·intro w' s0; go_simp; with_reducible rfl
   rotate_left
   ·simp only [Act.put, List.setIfInBounds_toArray, List.set_cons_zero, List.set_cons_succ, i64_w, i32_w]; rfl
   refine pure_ (i := 0) (N := some 30) (v := ?_) (a' := ?_) #[true, true, false, false, false] rfl rfl (by kernel_rfl) (fun _ _ _ h => h) (Or.inl ⟨by rfl, ?_⟩) ?_ ?_; rotate_left
   ·intro w'; go_simp; with_reducible rfl
   rotate_left
   ·simp only [Act.put, List.setIfInBounds_toArray, List.set_cons_zero, List.set_cons_succ, i64_w, i32_w]; rfl
   refine pure_ (i := 2) (N := some 32) (v := ?_) (a' := ?_) #[true, true, true, false, false] rfl rfl (by kernel_rfl) (fun _ _ _ h => h) (Or.inl ⟨by rfl, ?_⟩) ?_ ?_; rotate_left
   ·intro w'; go_simp; with_reducible rfl
   rotate_left
   ·simp only [Act.put, List.setIfInBounds_toArray, List.set_cons_zero, List.set_cons_succ, i64_w, i32_w]; rfl
   refine one_ (i := 3) (N := some 33) #[true, true, true, true, false] rfl rfl (by kernel_rfl) (by decide) (fun K hK => ?_); refine call_ 87 #[.int .i64 3] (by rfl) rfl (by unfold execOp; simp [resolve, Deferred.ofValue, invoke, Act.eval, eg87]) ?_; refine (wr_kind 3 _).mono ?_; rintro e w34 ⟨B4, rfl, hB, hb⟩; have hneB : B4 ≠ gb6 := fun e_ => by rw [e_, (blk_below BK6.out hb)] at hB; simp at hB
   replace BK2 := Aside0.mk (blk_below BK2.out hb); replace BK3 := Aside0.mk (blk_below BK3.out hb); replace BK4 := Aside0.mk (blk_below BK4.out hb); replace BK6 := Aside0.mk (blk_below BK6.out hb); replace HR := Aside0.mk (Kd.R_below HR.out hb); replace HB := Aside0.mk (below_step HB.out hb); clear hb; refine ⟨_, rfl, hK.out _ _ ((blk_cell BK2.out 0).trans rfl) (fun hHeld => ?_)⟩; clear hK K; refine norm_ (a' := ?_) ?_ ?_; rotate_left
   ·simp only [Act.put, List.setIfInBounds_toArray, List.set_cons_zero, List.set_cons_succ]; rfl
   refine one_ (i := 4) (N := some 34) #[true, true, true, true, true] rfl rfl (by kernel_rfl) (by decide) (fun K hK => ?_); refine call_ 86 #[.agg #[.slice A0_0 l0_0.length c0_0], .func (.func 88) #[] #[.pointer (some ⟨B4, 0, none⟩)], .pointer (some ⟨gb6, 0, none⟩)] (by rfl) rfl (by unfold execOp; simp [resolve, Deferred.ofValue, invoke, Act.eval, eg86]) ?_; refine (add86 (wrK 3) 88 #[.pointer (some ⟨B4, 0, none⟩)] (fun w' => w'.cell? ⟨B4, 0, none⟩ = some (.int .i64 3)) eg88 (fun W x hc => wr_pred88 3 B4 W hc W x (Below.refl _ _)) w _ gb6 v3 ((([] ++ l0_0.filter wrP) ++ l1_0.filter wrP) ++ l1_0.filter (wrK 2)) A0_0 c0_0 l0_0 HB.out GE6.out BK6.out HR.out HR0.out HC0.out (fun w' hk => (blk_cell (ok_blk hk hB hneB HR.out (by decide)) 0).trans rfl) hroom).mono ?_; clear hroom; rintro e w14 ⟨rfl, v4, hb6, hr, hb, hk⟩; replace BK2 := Aside0.mk (ok_blk hk BK2.out NE2.out HR.out (by decide)); replace BK3 := Aside0.mk (ok_blk hk BK3.out NE3.out HR.out (by decide)); replace BK4 := Aside0.mk (ok_blk hk BK4.out NE4.out HR.out (by decide)); replace HR := Aside0.mk hr; replace BK6 := Aside0.mk hb6; replace HB := Aside0.mk hb; clear hr hb6 hb hk; clear hB hneB; refine ⟨_, rfl, hK.out _ _ ((blk_cell BK2.out 0).trans rfl) (fun hHeld => ?_)⟩; clear hK K; refine norm_ (a' := ?_) ?_ ?_; rotate_left
   ·simp only [Act.put, List.setIfInBounds_toArray, List.set_cons_zero, List.set_cons_succ]; rfl
   refine done_ (by kernel_rfl) ?_; clear hHeld; have hc2 : w14.cell? ⟨w.heap.size, 0, none⟩ = some (.slice A0_0 l0_0.length c0_0) := (blk_cell BK2.out 0).trans rfl; have hf2 : w14.frozen? ⟨w.heap.size, 0, none⟩ = false := blk_frozen BK2.out 0; have hc3 : w14.cell? ⟨(w.heap.size + 1), 0, none⟩ = some (.slice A1_0 l1_0.length c1_0) := (blk_cell BK3.out 0).trans rfl; have hf3 : w14.frozen? ⟨(w.heap.size + 1), 0, none⟩ = false := blk_frozen BK3.out 0; have hc4 : w14.cell? ⟨(w.heap.size + 1 + 1), 0, none⟩ = some (.slice none 0 0) := (blk_cell BK4.out 0).trans rfl; have hf4 : w14.frozen? ⟨(w.heap.size + 1 + 1), 0, none⟩ = false := blk_frozen BK4.out 0
   have hroom : (((([] ++ l0_0.filter wrP) ++ l1_0.filter wrP) ++ l1_0.filter (wrK 2)) ++ l0_0.filter (wrK 3) : List S33).length + l1_0.length < 3518437208883 := by
    have h1 := HM.out; obtain ⟨h2, h3, h4, h5, h6, h7⟩ := HL.out; simp only [List.length_append, List.length_nil]; omega
   go_wp2; have hcd : w14.drew.cell? ⟨(w.heap.size + 1), 0, none⟩ = some (.slice A1_0 l1_0.length c1_0) := hc3; refine start_ (n := 5) (S := fun w' => w'.cell? ⟨(w.heap.size + 1), 0, none⟩ = some (.slice A1_0 l1_0.length c1_0)) (ds := []) #[false, false, false, false, false] (by kernel_rfl) rfl rfl hcd (fun hHeld => ?_); replace BK2 := Aside0.mk (blk_drew BK2.out); replace BK3 := Aside0.mk (blk_drew BK3.out); replace BK4 := Aside0.mk (blk_drew BK4.out); replace BK6 := Aside0.mk (blk_drew BK6.out); replace HR := Aside0.mk (Kd.R_drew HR.out); replace HB := Aside0.mk (below_drew1 HB.out); clear hcd hc2 hf2 hc3 hf3 hc4 hf4; generalize w14.drew = w25 at BK2 BK3 BK4 BK6 HR HB hHeld ⊢; refine take_ (i := 1) (N := some 36) (v := ?_) (a' := ?_) #[false, true, false, false, false] rfl rfl (by kernel_rfl) (fun _ _ _ h => h) (Or.inl ⟨by rfl, ?_⟩) hHeld ?_ ?_; rotate_left
   ·intro w' s0; go_simp; with_reducible rfl
   rotate_left
   ·simp only [Act.put, List.setIfInBounds_toArray, List.set_cons_zero, List.set_cons_succ, i64_w, i32_w]; rfl
   refine pure_ (i := 0) (N := some 35) (v := ?_) (a' := ?_) #[true, true, false, false, false] rfl rfl (by kernel_rfl) (fun _ _ _ h => h) (Or.inl ⟨by rfl, ?_⟩) ?_ ?_; rotate_left
   ·intro w'; go_simp; with_reducible rfl
   rotate_left
   ·simp only [Act.put, List.setIfInBounds_toArray, List.set_cons_zero, List.set_cons_succ, i64_w, i32_w]; rfl
   refine pure_ (i := 2) (N := some 37) (v := ?_) (a' := ?_) #[true, true, true, false, false] rfl rfl (by kernel_rfl) (fun _ _ _ h => h) (Or.inl ⟨by rfl, ?_⟩) ?_ ?_; rotate_left
   ·intro w'; go_simp; with_reducible rfl
   rotate_left
   ·simp only [Act.put, List.setIfInBounds_toArray, List.set_cons_zero, List.set_cons_succ, i64_w, i32_w]; rfl
   refine one_ (i := 3) (N := some 38) #[true, true, true, true, false] rfl rfl (by kernel_rfl) (by decide) (fun K hK => ?_); refine call_ 87 #[.int .i64 3] (by rfl) rfl (by unfold execOp; simp [resolve, Deferred.ofValue, invoke, Act.eval, eg87]) ?_; refine (wr_kind 3 _).mono ?_; rintro e w35 ⟨B5, rfl, hB, hb⟩; have hneB : B5 ≠ gb6 := fun e_ => by rw [e_, (blk_below BK6.out hb)] at hB; simp at hB
   replace BK2 := Aside0.mk (blk_below BK2.out hb); replace BK3 := Aside0.mk (blk_below BK3.out hb); replace BK4 := Aside0.mk (blk_below BK4.out hb); replace BK6 := Aside0.mk (blk_below BK6.out hb); replace HR := Aside0.mk (Kd.R_below HR.out hb); replace HB := Aside0.mk (below_step HB.out hb); clear hb; refine ⟨_, rfl, hK.out _ _ ((blk_cell BK3.out 0).trans rfl) (fun hHeld => ?_)⟩; clear hK K; refine norm_ (a' := ?_) ?_ ?_; rotate_left
   ·simp only [Act.put, List.setIfInBounds_toArray, List.set_cons_zero, List.set_cons_succ]; rfl
   refine one_ (i := 4) (N := some 39) #[true, true, true, true, true] rfl rfl (by kernel_rfl) (by decide) (fun K hK => ?_); refine call_ 86 #[.agg #[.slice A1_0 l1_0.length c1_0], .func (.func 88) #[] #[.pointer (some ⟨B5, 0, none⟩)], .pointer (some ⟨gb6, 0, none⟩)] (by rfl) rfl (by unfold execOp; simp [resolve, Deferred.ofValue, invoke, Act.eval, eg86]) ?_; refine (add86 (wrK 3) 88 #[.pointer (some ⟨B5, 0, none⟩)] (fun w' => w'.cell? ⟨B5, 0, none⟩ = some (.int .i64 3)) eg88 (fun W x hc => wr_pred88 3 B5 W hc W x (Below.refl _ _)) w _ gb6 v4 (((([] ++ l0_0.filter wrP) ++ l1_0.filter wrP) ++ l1_0.filter (wrK 2)) ++ l0_0.filter (wrK 3)) A1_0 c1_0 l1_0 HB.out GE6.out BK6.out HR.out HR1.out HC1.out (fun w' hk => (blk_cell (ok_blk hk hB hneB HR.out (by decide)) 0).trans rfl) hroom).mono ?_; clear hroom; rintro e w15 ⟨rfl, v5, hb6, hr, hb, hk⟩; replace BK2 := Aside0.mk (ok_blk hk BK2.out NE2.out HR.out (by decide)); replace BK3 := Aside0.mk (ok_blk hk BK3.out NE3.out HR.out (by decide)); replace BK4 := Aside0.mk (ok_blk hk BK4.out NE4.out HR.out (by decide)); replace HR := Aside0.mk hr; replace BK6 := Aside0.mk hb6; replace HB := Aside0.mk hb; clear hr hb6 hb hk; clear hB hneB; refine ⟨_, rfl, hK.out _ _ ((blk_cell BK3.out 0).trans rfl) (fun hHeld => ?_)⟩; clear hK K; refine norm_ (a' := ?_) ?_ ?_; rotate_left
   ·simp only [Act.put, List.setIfInBounds_toArray, List.set_cons_zero, List.set_cons_succ]; rfl
   refine done_ (by kernel_rfl) ?_; clear hHeld; have hc2 : w15.cell? ⟨w.heap.size, 0, none⟩ = some (.slice A0_0 l0_0.length c0_0) := (blk_cell BK2.out 0).trans rfl; have hf2 : w15.frozen? ⟨w.heap.size, 0, none⟩ = false := blk_frozen BK2.out 0; have hc3 : w15.cell? ⟨(w.heap.size + 1), 0, none⟩ = some (.slice A1_0 l1_0.length c1_0) := (blk_cell BK3.out 0).trans rfl; have hf3 : w15.frozen? ⟨(w.heap.size + 1), 0, none⟩ = false := blk_frozen BK3.out 0; have hc4 : w15.cell? ⟨(w.heap.size + 1 + 1), 0, none⟩ = some (.slice none 0 0) := (blk_cell BK4.out 0).trans rfl; have hf4 : w15.frozen? ⟨(w.heap.size + 1 + 1), 0, none⟩ = false := blk_frozen BK4.out 0
   have hroom : ((((([] ++ l0_0.filter wrP) ++ l1_0.filter wrP) ++ l1_0.filter (wrK 2)) ++ l0_0.filter (wrK 3)) ++ l1_0.filter (wrK 3) : List S33).length + l1_0.length < 3518437208883 := by
    have h1 := HM.out; obtain ⟨h2, h3, h4, h5, h6, h7⟩ := HL.out; simp only [List.length_append, List.length_nil]; omega
   go_wp2; have hcd : w15.drew.cell? ⟨(w.heap.size + 1), 0, none⟩ = some (.slice A1_0 l1_0.length c1_0) := hc3; refine start_ (n := 5) (S := fun w' => w'.cell? ⟨(w.heap.size + 1), 0, none⟩ = some (.slice A1_0 l1_0.length c1_0)) (ds := []) #[false, false, false, false, false] (by kernel_rfl) rfl rfl hcd (fun hHeld => ?_); replace BK2 := Aside0.mk (blk_drew BK2.out); replace BK3 := Aside0.mk (blk_drew BK3.out); replace BK4 := Aside0.mk (blk_drew BK4.out); replace BK6 := Aside0.mk (blk_drew BK6.out); replace HR := Aside0.mk (Kd.R_drew HR.out); replace HB := Aside0.mk (below_drew1 HB.out); clear hcd hc2 hf2 hc3 hf3 hc4 hf4; generalize w15.drew = w26 at BK2 BK3 BK4 BK6 HR HB hHeld ⊢; refine take_ (i := 1) (N := some 41) (v := ?_) (a' := ?_) #[false, true, false, false, false] rfl rfl (by kernel_rfl) (fun _ _ _ h => h) (Or.inl ⟨by rfl, ?_⟩) hHeld ?_ ?_; rotate_left
   ·intro w' s0; go_simp; with_reducible rfl
   rotate_left
   ·simp only [Act.put, List.setIfInBounds_toArray, List.set_cons_zero, List.set_cons_succ, i64_w, i32_w]; rfl
   refine pure_ (i := 0) (N := some 40) (v := ?_) (a' := ?_) #[true, true, false, false, false] rfl rfl (by kernel_rfl) (fun _ _ _ h => h) (Or.inl ⟨by rfl, ?_⟩) ?_ ?_; rotate_left
   ·intro w'; go_simp; with_reducible rfl
   rotate_left
   ·simp only [Act.put, List.setIfInBounds_toArray, List.set_cons_zero, List.set_cons_succ, i64_w, i32_w]; rfl
   refine pure_ (i := 2) (N := some 42) (v := ?_) (a' := ?_) #[true, true, true, false, false] rfl rfl (by kernel_rfl) (fun _ _ _ h => h) (Or.inl ⟨by rfl, ?_⟩) ?_ ?_; rotate_left
   ·intro w'; go_simp; with_reducible rfl
   rotate_left
   ·simp only [Act.put, List.setIfInBounds_toArray, List.set_cons_zero, List.set_cons_succ, i64_w, i32_w]; rfl
   refine one_ (i := 3) (N := some 43) #[true, true, true, true, false] rfl rfl (by kernel_rfl) (by decide) (fun K hK => ?_); refine call_ 87 #[.int .i64 4] (by rfl) rfl (by unfold execOp; simp [resolve, Deferred.ofValue, invoke, Act.eval, eg87]) ?_; refine (wr_kind 4 _).mono ?_; rintro e w36 ⟨B6, rfl, hB, hb⟩; have hneB : B6 ≠ gb6 := fun e_ => by rw [e_, (blk_below BK6.out hb)] at hB; simp at hB
   replace BK2 := Aside0.mk (blk_below BK2.out hb); replace BK3 := Aside0.mk (blk_below BK3.out hb); replace BK4 := Aside0.mk (blk_below BK4.out hb); replace BK6 := Aside0.mk (blk_below BK6.out hb); replace HR := Aside0.mk (Kd.R_below HR.out hb); replace HB := Aside0.mk (below_step HB.out hb); clear hb; refine ⟨_, rfl, hK.out _ _ ((blk_cell BK3.out 0).trans rfl) (fun hHeld => ?_)⟩; clear hK K; refine norm_ (a' := ?_) ?_ ?_; rotate_left
   ·simp only [Act.put, List.setIfInBounds_toArray, List.set_cons_zero, List.set_cons_succ]; rfl
   refine one_ (i := 4) (N := some 44) #[true, true, true, true, true] rfl rfl (by kernel_rfl) (by decide) (fun K hK => ?_); refine call_ 86 #[.agg #[.slice A1_0 l1_0.length c1_0], .func (.func 88) #[] #[.pointer (some ⟨B6, 0, none⟩)], .pointer (some ⟨gb6, 0, none⟩)] (by rfl) rfl (by unfold execOp; simp [resolve, Deferred.ofValue, invoke, Act.eval, eg86]) ?_; refine (add86 (wrK 4) 88 #[.pointer (some ⟨B6, 0, none⟩)] (fun w' => w'.cell? ⟨B6, 0, none⟩ = some (.int .i64 4)) eg88 (fun W x hc => wr_pred88 4 B6 W hc W x (Below.refl _ _)) w _ gb6 v5 ((((([] ++ l0_0.filter wrP) ++ l1_0.filter wrP) ++ l1_0.filter (wrK 2)) ++ l0_0.filter (wrK 3)) ++ l1_0.filter (wrK 3)) A1_0 c1_0 l1_0 HB.out GE6.out BK6.out HR.out HR1.out HC1.out (fun w' hk => (blk_cell (ok_blk hk hB hneB HR.out (by decide)) 0).trans rfl) hroom).mono ?_; clear hroom; rintro e w16 ⟨rfl, v6, hb6, hr, hb, hk⟩; replace BK2 := Aside0.mk (ok_blk hk BK2.out NE2.out HR.out (by decide)); replace BK3 := Aside0.mk (ok_blk hk BK3.out NE3.out HR.out (by decide)); replace BK4 := Aside0.mk (ok_blk hk BK4.out NE4.out HR.out (by decide)); replace HR := Aside0.mk hr; replace BK6 := Aside0.mk hb6; replace HB := Aside0.mk hb; clear hr hb6 hb hk; clear hB hneB; refine ⟨_, rfl, hK.out _ _ ((blk_cell BK3.out 0).trans rfl) (fun hHeld => ?_)⟩; clear hK K; refine norm_ (a' := ?_) ?_ ?_; rotate_left
   ·simp only [Act.put, List.setIfInBounds_toArray, List.set_cons_zero, List.set_cons_succ]; rfl
   refine done_ (by kernel_rfl) ?_; clear hHeld; have hc2 : w16.cell? ⟨w.heap.size, 0, none⟩ = some (.slice A0_0 l0_0.length c0_0) := (blk_cell BK2.out 0).trans rfl; have hf2 : w16.frozen? ⟨w.heap.size, 0, none⟩ = false := blk_frozen BK2.out 0; have hc3 : w16.cell? ⟨(w.heap.size + 1), 0, none⟩ = some (.slice A1_0 l1_0.length c1_0) := (blk_cell BK3.out 0).trans rfl; have hf3 : w16.frozen? ⟨(w.heap.size + 1), 0, none⟩ = false := blk_frozen BK3.out 0; have hc4 : w16.cell? ⟨(w.heap.size + 1 + 1), 0, none⟩ = some (.slice none 0 0) := (blk_cell BK4.out 0).trans rfl; have hf4 : w16.frozen? ⟨(w.heap.size + 1 + 1), 0, none⟩ = false := blk_frozen BK4.out 0; have HR0_ := HR.out; clear HR hc2 hf2 hc3 hf3 hc4 hf4; have HR : Aside0 (Kd.R k33 33 w16 w.heap.size (fun _ => True) v6 (wrOut l0_0 l1_0)) := ⟨HR0_⟩
   clear HR0_; obtain ⟨A6, c6, e6⟩ := Kd.R_slice HR.out; subst e6; have hc4 : w16.cell? ⟨(w.heap.size + 1 + 1), 0, none⟩ = some (.slice none 0 0) := (blk_cell BK4.out 0).trans rfl; have hf4 : w16.frozen? ⟨(w.heap.size + 1 + 1), 0, none⟩ = false := blk_frozen BK4.out 0; have hc6 : w16.cell? ⟨gb6, 0, none⟩ = some (.slice A6 (wrOut l0_0 l1_0).length c6) := (blk_cell BK6.out 0).trans rfl
   cases u with
   | false =>
    obtain ⟨rfl, rfl⟩ : [] = r1 ∧ false = r2 := by simpa using HH.out
    clear HH; go_wp2_with fail; refine (impl_ValidSignature.calls k _ _ (wrOut l0_0 l1_0) false _ (Kd.R_reads' HR.out).2.2 (Kd.R_reads' HR.out).2.1 A3.out).mono ?_; rintro e w17 ⟨rfl, hb⟩; replace BK4 := Aside0.mk (blk_below BK4.out hb); replace BK6 := Aside0.mk (blk_below BK6.out hb); replace HR := Aside0.mk (Kd.R_below HR.out hb); replace HB := Aside0.mk (below_step HB.out hb); clear hb hc4 hf4 hc6; have hc4 : w17.cell? ⟨(w.heap.size + 1 + 1), 0, none⟩ = some (.slice none 0 0) := (blk_cell BK4.out 0).trans rfl; have hf4 : w17.frozen? ⟨(w.heap.size + 1 + 1), 0, none⟩ = false := blk_frozen BK4.out 0; have hc6 : w17.cell? ⟨gb6, 0, none⟩ = some (.slice A6 (wrOut l0_0 l1_0).length c6) := (blk_cell BK6.out 0).trans rfl; go_wp2; refine bodyPost_ret (results_ct rfl _ _ (w.heap.size + 1 + 1) 25 #[.slice none 0 0] (0, 0) _ rfl (by (with_reducible repeat (first | refine blk_drewN ?_ _ | refine blk_drew ?_ | refine blk_alloc ?_ _)); refine blk_put (cs := #[.slice none 0 0]) ?_ 0 _ rfl; (with_reducible repeat (first | refine blk_drewN ?_ _ | refine blk_drew ?_ | refine blk_alloc ?_ _)); exact BK4.out) Try.underlying25 rfl (by kernel_rfl)) rfl ?_; exact ⟨_, rfl, Kd.R_nil _ _ _ _ _, below_set HB.out (by omega)⟩
   | true =>
    have h := HH.out; rw [if_pos rfl] at h; clear HH; replace h := Option.bind_eq_some_iff.mp h; obtain ⟨cp, A40, h⟩ := h; obtain ⟨rfl, rfl⟩ : cp = r1 ∧ true = r2 := by simpa using h
    have A4 := Aside0.mk A40; clear A40 h; go_wp2_with fail; refine (impl_ValidSignature.calls k _ _ (wrOut l0_0 l1_0) true _ (Kd.R_reads' HR.out).2.2 (Kd.R_reads' HR.out).2.1 A3.out).mono ?_; rintro e w17 ⟨rfl, hb⟩; replace BK4 := Aside0.mk (blk_below BK4.out hb); replace BK6 := Aside0.mk (blk_below BK6.out hb); replace HR := Aside0.mk (Kd.R_below HR.out hb); replace HB := Aside0.mk (below_step HB.out hb); clear hb hc4 hf4 hc6; have hc4 : w17.cell? ⟨(w.heap.size + 1 + 1), 0, none⟩ = some (.slice none 0 0) := (blk_cell BK4.out 0).trans rfl; have hf4 : w17.frozen? ⟨(w.heap.size + 1 + 1), 0, none⟩ = false := blk_frozen BK4.out 0; have hc6 : w17.cell? ⟨gb6, 0, none⟩ = some (.slice A6 (wrOut l0_0 l1_0).length c6) := (blk_cell BK6.out 0).trans rfl; go_wp2_with fail; refine (impl_Signature_copyOf.calls _ _ (wrOut l0_0 l1_0) cp _ (Kd.R_reads' HR.out).2.2 (Kd.R_reads' HR.out).2.1 A4.out).mono ?_; rintro e w18 ⟨v18, rfl, ho, hb⟩; have HO := Aside0.mk (Kd.R_lower ho HB.out.size); clear ho; replace BK4 := Aside0.mk (blk_below BK4.out hb); replace BK6 := Aside0.mk (blk_below BK6.out hb); replace HR := Aside0.mk (Kd.R_below HR.out hb); replace HB := Aside0.mk (below_step HB.out hb); clear hb hc4 hf4 hc6; have hc4 : w18.cell? ⟨(w.heap.size + 1 + 1), 0, none⟩ = some (.slice none 0 0) := (blk_cell BK4.out 0).trans rfl; have hf4 : w18.frozen? ⟨(w.heap.size + 1 + 1), 0, none⟩ = false := blk_frozen BK4.out 0; have hc6 : w18.cell? ⟨gb6, 0, none⟩ = some (.slice A6 (wrOut l0_0 l1_0).length c6) := (blk_cell BK6.out 0).trans rfl; obtain ⟨A9, c9, e9⟩ := Kd.R_slice HO.out; subst e9; go_wp2; refine bodyPost_ret (results_ct rfl _ _ (w.heap.size + 1 + 1) 25 #[.slice A9 cp.length c9] (0, 0) _ rfl (by (with_reducible repeat (first | refine blk_drewN ?_ _ | refine blk_drew ?_ | refine blk_alloc ?_ _)); refine blk_put (cs := #[.slice none 0 0]) ?_ 0 _ rfl; (with_reducible repeat (first | refine blk_drewN ?_ _ | refine blk_drew ?_ | refine blk_alloc ?_ _)); exact BK4.out) Try.underlying25 rfl (by kernel_rfl)) rfl ?_; exact ⟨_, rfl, Kd.R_mono (Kd.R_far (p := ⟨w.heap.size + 1 + 1, 0, none⟩) (Kd.R_types HO.out BK4.out (by decide)) (fun _ hk => hk.2) (.slice A9 cp.length c9)) (fun _ hk => trivial), below_set HB.out (by omega)⟩

end Go.Proofs.Ytlpmggokgcphiaa.Q

namespace Go.Proofs.Ytlpmggokgcphiaa.Q
open Go.RowKit Go.Proofs.YtlpmggokgcphiaaL.PrintWords Go.Proofs.YtlpmggokgcphiaaL.PrintLast Go.Proofs.YtlpmggokgcphiaaL.PrintMore
attribute [local go_sem] max2_int min2_int max_two min_two max_three min_three max_four min_four   -- for this text's walks alone
set_option linter.unusedVariables false
set_option linter.unusedSimpArgs false

/-- A state of type 117 at block g of W; what its slices lead to came in by w0. -/
def IsS117 (w0 W : World) (g : Nat) (f0 : List Int) (f1 : Int) : Prop := ∃ A0 c0, W.heap[g]? = some (.cells #[.slice A0 f0.length c0, .int .i64 f1] 117 (0, 0)) ∧ w0.heap.size ≤ g ∧ Kd.C (Kd.int .u8) w0 A0 f0.length f0
theorem IsS117.grown {w0 W : World} {g : Nat} {f0 : List Int} {f1 : Int} {W1 : World} {row : Option Nat} (h : IsS117 w0 W g f0 f1) (hw : W.grownBy W1 row) (hne : some g ≠ row) : IsS117 w0 W1 g f0 f1 := by
 obtain ⟨A0, c0, hb, hg, hr0⟩ := h; exact ⟨A0, c0, blk_grown hb hw hne, hg, hr0⟩
theorem IsS117.own_neN {w0 W : World} {g : Nat} {f0 : List Int} {f1 : Int} {α : Type} {d : Kd α} {e : Nat} {base : Nat} {ok : Nat → Prop} {v : Value} {xs : List α} (h : IsS117 w0 W g f0 f1) (ho : Kd.N d e W base ok v xs) (ht : e ≠ 117) : some g ≠ v.ownBlock := by
 obtain ⟨A0, c0, hb, hg, hr0⟩ := h; exact Kd.N_ne ho hb ht
theorem IsS117.fresh {w0 W : World} {g : Nat} {f0 : List Int} {f1 : Int} (h : IsS117 w0 W g f0 f1) : ∀ k, W.heap.size ≤ k → k ≠ g := by
 obtain ⟨A0, c0, hb, hg, hr0⟩ := h; exact Kd.freshB hb
theorem IsS117.kept {w0 W : World} {g : Nat} {f0 : List Int} {f1 : Int} {W1 : World} {S : Nat → Prop} (h : IsS117 w0 W g f0 f1) (hk : Kept W W1 S) (hne : ¬ S g) : IsS117 w0 W1 g f0 f1 := by
 obtain ⟨A0, c0, hb, hg, hr0⟩ := h; exact ⟨A0, c0, blk_kept hb hk hne, hg, hr0⟩
theorem IsS117.below {w0 W : World} {g : Nat} {f0 : List Int} {f1 : Int} {W1 : World} (h : IsS117 w0 W g f0 f1) (hw : Below W.heap.size W W1) : IsS117 w0 W1 g f0 f1 := h.grown (grown_of_below hw none) (by simp)
theorem IsS117.alloc {w0 W : World} {g : Nat} {f0 : List Int} {f1 : Int} (h : IsS117 w0 W g f0 f1) (o : Obj) : IsS117 w0 (W.alloc o) g f0 f1 := h.below (below_alloc (Below.refl _ _) o)
theorem IsS117.drewN {w0 W : World} {g : Nat} {f0 : List Int} {f1 : Int} (h : IsS117 w0 W g f0 f1) (m : Nat) : IsS117 w0 (W.drewN m) g f0 f1 := h
theorem IsS117.drew {w0 W : World} {g : Nat} {f0 : List Int} {f1 : Int} (h : IsS117 w0 W g f0 f1) : IsS117 w0 W.drew g f0 f1 := h
theorem IsS117.at_ {w0 W : World} {g : Nat} {f0 : List Int} {f1 : Int} {w' : World} {m : Nat} (hq : W.drewN m = w') (h : IsS117 w0 W g f0 f1) : IsS117 w0 w' g f0 f1 := by subst hq; exact IsS117.drewN h m
theorem IsS117.apart {w0 W : World} {g : Nat} {f0 : List Int} {f1 : Int} {α : Type} {d : Kd α} {e : Nat} {base : Nat} {ok : Nat → Prop} {v : Value} {xs : List α} (h : IsS117 w0 W g f0 f1) (ho : d.R e W base ok v xs) (ht : ∀ q, q ∈ e :: d.E → q ≠ 117) : d.R e W base (fun k => ok k ∧ k ≠ g) v xs := by
 obtain ⟨A0, c0, hb, hg, hr0⟩ := h; exact Kd.R_types ho hb ht
theorem IsS117.own_ne {w0 W : World} {g : Nat} {f0 : List Int} {f1 : Int} {α : Type} {d : Kd α} {e : Nat} {base : Nat} {ok : Nat → Prop} {v : Value} {xs : List α} (h : IsS117 w0 W g f0 f1) (ho : d.R e W base ok v xs) (ht : e ≠ 117) : some g ≠ v.ownBlock := by
 obtain ⟨A0, c0, hb, hg, hr0⟩ := h; exact Kd.R_ne ho hb ht
theorem IsS117.apartQ {w0 W : World} {g : Nat} {f0 : List Int} {f1 : Int} {α : Type} {d : Kd α} {e : Nat} {base : Nat} {ok : Nat → Prop} {v : Value} {xs : List α} (h : IsS117 w0 W g f0 f1) (ho : d.Q e W base ok v xs) (ht : ∀ q, q ∈ e :: d.E → q ≠ 117) : d.Q e W base (fun k => ok k ∧ k ≠ g) v xs := by
 obtain ⟨A0, c0, hb, hg, hr0⟩ := h; exact Kd.Q_types ho hb ht
theorem IsS117.own_neQ {w0 W : World} {g : Nat} {f0 : List Int} {f1 : Int} {α : Type} {d : Kd α} {e : Nat} {base : Nat} {ok : Nat → Prop} {v : Value} {xs : List α} (h : IsS117 w0 W g f0 f1) (ho : d.Q e W base ok v xs) (ht : e ≠ 117) : some g ≠ v.ownBlock := by
 obtain ⟨A0, c0, hb, hg, hr0⟩ := h; exact Kd.Q_ne ho hb ht
theorem IsS117.apartS {w0 W : World} {g : Nat} {f0 : List Int} {f1 : Int} {α : Type} {d : Kd α} {e : Nat} {base : Nat} {ok : Nat → Prop} {v : Value} {xs : List α} (h : IsS117 w0 W g f0 f1) (ho : d.S e W base ok v xs) (ht : ∀ q, q ∈ e :: d.E → q ≠ 117) : d.S e W base (fun k => ok k ∧ k ≠ g) v xs := by
 obtain ⟨A0, c0, hb, hg, hr0⟩ := h; exact Kd.S_types ho hb ht
theorem IsS117.own_neS {w0 W : World} {g : Nat} {f0 : List Int} {f1 : Int} {α : Type} {d : Kd α} {e : Nat} {base : Nat} {ok : Nat → Prop} {v : Value} {xs : List α} (h : IsS117 w0 W g f0 f1) (ho : d.S e W base ok v xs) (ht : e ≠ 117) : some g ≠ v.ownBlock := by
 obtain ⟨A0, c0, hb, hg, hr0⟩ := h; exact Kd.S_ne ho hb ht
theorem IsS117.lt {w0 W : World} {g : Nat} {f0 : List Int} {f1 : Int} (h : IsS117 w0 W g f0 f1) : g < W.heap.size := by
 obtain ⟨A0, c0, hb, hg, hr0⟩ := h; exact blk_lt hb
theorem IsS117.ge {w0 W : World} {g : Nat} {f0 : List Int} {f1 : Int} (h : IsS117 w0 W g f0 f1) : w0.heap.size ≤ g := by
 obtain ⟨A0, c0, hb, hg, hr0⟩ := h; exact hg
theorem IsS117.ne_blk {w0 W : World} {g : Nat} {f0 : List Int} {f1 : Int} {a : Nat} {cs : Array Value} {t : TypeId} {fr : Nat × Nat} (h : IsS117 w0 W g f0 f1) (hb2 : W.heap[a]? = some (.cells cs t fr)) (ht : t ≠ 117) : g ≠ a := by
 obtain ⟨A0, c0, hb, hg, hr0⟩ := h; rintro rfl; rw [hb] at hb2
 injection hb2 with hb2
 injection hb2 with _ ht2
 exact ht ht2.symm
theorem IsS117.far {w0 W : World} {g : Nat} {f0 : List Int} {f1 : Int} {p : Addr} (h : IsS117 w0 W g f0 f1) (hne : g ≠ p.block) (u : Value) : IsS117 w0 (W.setCell p u) g f0 f1 := by
 obtain ⟨A0, c0, hb, hg, hr0⟩ := h; exact ⟨A0, c0, blk_far hb hne u, hg, hr0⟩
theorem cellS117_0 {W : World} {g : Nat} {A0 : Option Addr} {c0 : Nat} {f0 : List Int} {f1 : Int} (h : W.heap[g]? = some (.cells #[.slice A0 f0.length c0, .int .i64 f1] 117 (0, 0))) : W.cell? ⟨g, 0, none⟩ = some (.slice A0 f0.length c0) := (blk_cell h 0).trans rfl
theorem cellS117_1 {W : World} {g : Nat} {A0 : Option Addr} {c0 : Nat} {f0 : List Int} {f1 : Int} (h : W.heap[g]? = some (.cells #[.slice A0 f0.length c0, .int .i64 f1] 117 (0, 0))) : W.cell? ⟨g, 1, none⟩ = some (.int .i64 f1) := (blk_cell h 1).trans rfl
theorem IsS117.set_1 {w0 W : World} {g : Nat} {f0 : List Int} {f1 : Int} (h : IsS117 w0 W g f0 f1) (x : Int) : IsS117 w0 (W.setCell ⟨g, 1, none⟩ (.int .i64 x)) g f0 x := by
 obtain ⟨A0, c0, hb, hg, hr0⟩ := h; exact ⟨A0, c0, by simpa using blk_set hb 1 (.int .i64 x), hg, hr0⟩
theorem IsS117.new (w0 W : World) (A0 : Option Addr) (c0 : Nat) (f0 : List Int) (f1 : Int) (hB : Below w0.heap.size w0 W) (hr0 : Kd.C (Kd.int .u8) w0 A0 f0.length f0) : IsS117 w0 (W.alloc (.cells #[.slice A0 f0.length c0, .int .i64 f1] 117)) W.heap.size f0 f1 := ⟨A0, c0, by simpa using heap_alloc_new W _, hB.size, hr0⟩

theorem zi117_2 {w0 W W' : World} {g : Nat} {f0 f0' : List Int} {f1 f1' : Int} (h : Aside0 (IsS117 w0 W g f0 f1)) (i : IsS117 w0 W g f0 f1 → IsS117 w0 W' g f0' f1' := by intro hh_; repeat (first | (with_reducible first | exact hh_ | apply IsS117.alloc | apply IsS117.drewN | apply IsS117.drew | apply IsS117.set_1 | refine IsS117.far ?_ (Aside0.out (by assumption)) _) | exact hh_)) : IsS117 w0 W' g f0' f1' := i h.out
theorem zj117_2 {B : Nat} {w W W' : World} (h : Aside0 (Below B w W)) (i : Below B w W → Below B w W' := by intro hh_; repeat (first | (with_reducible first | exact hh_ | apply below_alloc | apply pw_below_drewN | apply below_drew1 | refine below_set ?_ (IsS117.ge (Aside0.out (by assumption))) | refine below_set ?_ (Aside0.out (by assumption))) | exact hh_)) : Below B w W' := i h.out
/-! ### spec_reader_pick: function 66 -/
def spec_reader_pick.j0 : Nat → Int → Bool → List Int → Int → Option (Int × Int)
 | 0, _, _, _, _ => none
 | k + 1, x1, x24, x1000, x1001 => if x24 = true then (some (0, x1001)) else (if (wrap64 (x1001 - 1)) < (x1000.length : Int) then (if 0 ≤ (wrap64 (x1001 - 1)) then (if x1 = 0 then (none) else (some (Int.tmod (wrap64 (rd x1000 (wrap64 (x1001 - 1)))) x1, x1001))) else (none)) else (if (x1000.length : Int) = 0 then (none) else (if 0 ≤ (Int.tmod (wrap64 (x1001 - 1)) (x1000.length : Int)) then (if (Int.tmod (wrap64 (x1001 - 1)) (x1000.length : Int)) < (x1000.length : Int) then (if 0 ≤ (Int.tmod (wrap64 ((wrap64 ((wrap64 (x1001 - 1)) * 7)) + 3)) (x1000.length : Int)) then (if (Int.tmod (wrap64 ((wrap64 ((wrap64 (x1001 - 1)) * 7)) + 3)) (x1000.length : Int)) < (x1000.length : Int) then (if x1 = 0 then (none) else (some (Int.tmod (Go.bits .xor .i64 (wrap64 ((wrap64 ((wrap64 ((wrap64 ((wrap64 (rd x1000 (Int.tmod (wrap64 (x1001 - 1)) (x1000.length : Int)))) * 131)) + (wrap64 ((wrap64 (rd x1000 (Int.tmod (wrap64 ((wrap64 ((wrap64 (x1001 - 1)) * 7)) + 3)) (x1000.length : Int)))) * 1117)))) + (wrap64 ((wrap64 (x1001 - 1)) * 29)))) + (wrap64 ((wrap64 (Int.tdiv (wrap64 (x1001 - 1)) (x1000.length : Int))) * 53)))) (wrap64 (Int.tdiv (wrap64 ((wrap64 ((wrap64 ((wrap64 ((wrap64 (rd x1000 (Int.tmod (wrap64 (x1001 - 1)) (x1000.length : Int)))) * 131)) + (wrap64 ((wrap64 (rd x1000 (Int.tmod (wrap64 ((wrap64 ((wrap64 (x1001 - 1)) * 7)) + 3)) (x1000.length : Int)))) * 1117)))) + (wrap64 ((wrap64 (x1001 - 1)) * 29)))) + (wrap64 ((wrap64 (Int.tdiv (wrap64 (x1001 - 1)) (x1000.length : Int))) * 53)))) 64))) x1, x1001))) else (none)) else (none)) else (none)) else (none))))
def spec_reader_pick.f (k : Nat) (s0_0 : List Int) (s0_1 : Int) (a1 : Int) : Option (Int × Int) := if a1 < 1 then (spec_reader_pick.j0 k a1 true s0_0 (wrap64 (s0_1 + 1))) else (spec_reader_pick.j0 k a1 ((s0_0.length : Int) == 0) s0_0 (wrap64 (s0_1 + 1)))
theorem spec_reader_pick.mono_l : ∀ k, (∀ y0 y1 y2 y3, LeO (spec_reader_pick.j0 k y0 y1 y2 y3) (spec_reader_pick.j0 (k + 1) y0 y1 y2 y3))
 | 0 => fun _ _ _ _ r h => by simp [spec_reader_pick.j0] at h
 | k + 1 => by
  have ih0 := spec_reader_pick.mono_l k
  ·intro y0 y1 y2 y3; unfold spec_reader_pick.j0
   repeat' first
   | (with_reducible exact ih0 _ _ _ _)
   | (with_reducible exact LeO.refl _)
   | (with_reducible exact LeO.none _)
   | (with_reducible refine LeO.ite ?_ ?_)
   | (with_reducible refine LeO.bind ?_ (fun _ => ?_))
   | exact ih0 _ _ _ _
   | exact LeO.none _
   | refine LeO.ite ?_ ?_
   | refine LeO.bind ?_ (fun _ => ?_)
theorem spec_reader_pick.mono : ∀ a0 a1 a2 k, LeO (spec_reader_pick.f k a0 a1 a2) (spec_reader_pick.f (k + 1) a0 a1 a2) := by
 intro a0 a1 a2 k; have ih0 := spec_reader_pick.mono_l k; unfold spec_reader_pick.f
 repeat' first
   | (with_reducible exact ih0 _ _ _ _)
   | (with_reducible exact LeO.refl _)
   | (with_reducible exact LeO.none _)
   | (with_reducible refine LeO.ite ?_ ?_)
   | (with_reducible refine LeO.bind ?_ (fun _ => ?_))
   | exact ih0 _ _ _ _
   | exact LeO.none _
   | refine LeO.ite ?_ ?_
   | refine LeO.bind ?_ (fun _ => ?_)
set_option maxHeartbeats 8000000 in
set_option maxRecDepth 100000 in
theorem spec_reader_pick.calls (k : Nat) (g : Nat) (s0_0 : List Int) (s0_1 : Int) (a1 : Int) (r1 : Int) (r2 : Int) (w0 w : World) (hI : IsS117 w0 w g s0_0 s0_1) (hB : Below w0.heap.size w0 w) (h : spec_reader_pick.f k s0_0 s0_1 a1 = some (r1, r2)) :
  Calls Try.prog 66 #[.pointer (some ⟨g, 0, none⟩), .int .i64 a1] w fun e w' => e = .returned (.int .i64 r1) ∧ IsS117 w0 w' g s0_0 r2 ∧ Below w0.heap.size w0 w' ∧ KeepBut w w' g none := by
 have HI0 := Aside0.mk hI; have HK := Aside0.mk (KeepBut.refl w g none); have HL := Aside0.mk hB.size; clear hI; have HW0 := Aside0.mk hB.size; have HB := Aside0.mk hB; clear hB; have H : (if a1 < 1 then (spec_reader_pick.j0 k a1 true s0_0 (wrap64 (s0_1 + 1))) else (spec_reader_pick.j0 k a1 ((s0_0.length : Int) == 0) s0_0 (wrap64 (s0_1 + 1)))) = some (r1, r2) := h; clear h; have HC3 := Aside0.mk H; clear H; obtain ⟨ASz4_0, cSz4_0, HGz4, hgz4, HSz4_0⟩ := HI0.out; have hcz4_0 := cellS117_0 HGz4; have hcz4_1 := cellS117_1 HGz4; have hfz4_1 := blk_frozen HGz4 1; clear HGz4 hgz4; go_enter Try.func66, Try.ntmps66; go_upto_region 2 with (fail)
 repeat (go_quiet (fail); go_upto_region 2 with (fail))
 go_cut [24] (fun v24 wc => ∃ (kq : Nat) (x24_2 : Bool), v24 = .bool x24_2 ∧ Aside0 (spec_reader_pick.j0 kq a1 x24_2 s0_0 (wrap64 (s0_1 + 1)) = some (r1, r2)) ∧ Aside0 (kq ≤ k) ∧ Aside0 (IsS117 w0 wc g s0_0 (wrap64 (s0_1 + 1))) ∧ Aside0 (KeepBut w wc g none) ∧ Aside0 (Below w0.heap.size w0 wc))
 case first =>
  have H := HC3.out; clear HC3
  by_cases c5 : a1 < 1
  ·rw [if_pos c5] at H; have c5b0 : decide (a1 < 1) = true := decide_eq_true c5; clear c5
   (first | rw [c5b0] | (simp only [i64_w, i32_w]; rw [c5b0]) | skip)
   have H' := Aside0.mk H; clear H; go_wp2
   repeat (go_quiet (fail); try go_wp2)
   go_meet
   case rel => exact ⟨_, (true), zr, H', ⟨by first | omega | exact Nat.le_refl _⟩, ⟨by repeat (first | (with_reducible first | exact HI0.out | apply IsS117.alloc | apply IsS117.drewN | apply IsS117.drew | apply IsS117.set_1) | exact HI0.out)⟩, ⟨zk HK⟩, ⟨zj117_2 HB⟩⟩
  ·rw [if_neg c5] at H; have c5b0 : decide (a1 < 1) = false := decide_eq_false c5; clear c5
   (first | rw [c5b0] | (simp only [i64_w, i32_w]; rw [c5b0]) | skip)
   have H' := Aside0.mk H; clear H; obtain ⟨ASz6_0, cSz6_0, HGz6, hgz6, HSz6_0⟩ := HI0.out; have hcz6_0 := cellS117_0 HGz6; have hcz6_1 := cellS117_1 HGz6; have hfz6_1 := blk_frozen HGz6 1; clear HGz6 hgz6; go_wp2
   repeat (go_quiet (fail); try go_wp2)
   go_meet
   case rel => exact ⟨_, (((s0_0.length : Int) == 0)), zr, H', ⟨by first | omega | exact Nat.le_refl _⟩, ⟨by repeat (first | (with_reducible first | exact HI0.out | apply IsS117.alloc | apply IsS117.drewN | apply IsS117.drew | apply IsS117.set_1) | exact HI0.out)⟩, ⟨zk HK⟩, ⟨zj117_2 HB⟩⟩
 case rest =>
  clear HC3; (try clear p2); (try clear c5); (try clear c5b0); (try clear c6); (try clear p6); (try clear hcz4_0); (try clear hcz4_1); (try clear hcz6_0); (try clear hcz6_1); (try clear hfz4_1); (try clear hfz6_1); obtain ⟨kq, x24_2, rfl, HA, HJ2, HI0, HK, HB⟩ := hcut
  cases kq with
  | zero => exact absurd HA.out (by simp [spec_reader_pick.j0])
  | succ kj2 =>
   have H := HA.out; clear HA; simp only [spec_reader_pick.j0] at H
   by_cases c7 : x24_2 = true
   ·subst c7; rw [if_pos rfl] at H; simp only [Option.some.injEq, Prod.mk.injEq] at H; obtain ⟨rfl, rfl⟩ := H; go_wp2
    repeat (go_quiet (fail); try go_wp2)
    go_ret; exact ⟨by first | rfl | (simp [errW_none, errW_some] <;> rfl) | (simp [*, errW_none, errW_some] <;> rfl), by repeat (first | (with_reducible first | exact HI0.out | apply IsS117.alloc | apply IsS117.drewN | apply IsS117.drew | apply IsS117.set_1) | exact HI0.out), by repeat (first | (with_reducible first | exact HB.out | apply below_alloc | apply pw_below_drewN | apply below_drew1 | refine below_set ?_ (IsS117.ge HI0.out)) | exact HB.out), zk HK⟩
   ·replace c7 := Bool.eq_false_iff.mpr c7; subst c7; rw [if_neg (show ¬ (false = true) by decide)] at H
    by_cases c8 : (wrap64 ((wrap64 (s0_1 + 1)) - 1)) < (s0_0.length : Int)
    ·rw [if_pos c8] at H; have c8b0 : decide ((wrap64 ((wrap64 (s0_1 + 1)) - 1)) < (s0_0.length : Int)) = true := decide_eq_true c8; clear c8; obtain ⟨ji9, hji9⟩ : ∃ j_ : Int, (wrap64 ((wrap64 (s0_1 + 1)) - 1)) = j_ := ⟨_, rfl⟩
     replace H : (if 0 ≤ (ji9) then (if a1 = 0 then (none) else (some (Int.tmod (wrap64 (rd s0_0 (ji9))) a1, (wrap64 (s0_1 + 1))))) else (none)) = some (r1, r2) := by first | (rw [hji9] at H; exact H) | (simp only [hji9] at H ⊢; exact H)
     (try rw [hji9] at c8b0)
     have hji9w : (IntKind.i64.wrap ((wrap64 (s0_1 + 1)) - 1)) = ji9 := (i64_w _).trans hji9
     by_cases c10 : 0 ≤ (ji9)
     ·rw [if_pos c10] at H; have c10b0 : decide (0 ≤ (ji9)) = true := decide_eq_true c10; clear c10
      by_cases c11 : a1 = 0
      ·rw [if_pos c11] at H; exact absurd H (by simp)
      ·rw [if_neg c11] at H; have c11b0 : (a1 == 0) = false := beq_eq_false_iff_ne.mpr c11; have c11b1 : (a1 != 0) = true := bne_iff_ne.mpr c11; simp only [Option.some.injEq, Prod.mk.injEq] at H; obtain ⟨rfl, rfl⟩ := H; obtain ⟨ASz12_0, cSz12_0, HGz12, hgz12, HSz12_0⟩ := HI0.out; have hcz12_0 := cellS117_0 HGz12; have hcz12_1 := cellS117_1 HGz12; have hfz12_1 := blk_frozen HGz12 1; clear HGz12 hgz12; have p101 : 0 ≤ ((ji9) : Int) := of_decide_eq_true za; have q101 : (ji9) < (s0_0.length : Int) := of_decide_eq_true za; obtain ⟨ad101, e101, hx101_0⟩ := Kd.at_int HSz12_0 (ji9) p101 q101
       cases e101
       replace hx101_0 := pw_cell_below HB.out hx101_0; replace p101 := eq_true p101; replace q101 := eq_true q101; go_wp2
       repeat (go_quiet (fail); try go_wp2)
       go_ret; exact ⟨by first | rfl | (simp [errW_none, errW_some] <;> rfl) | (simp only [← hji9]; first | rfl | (simp [errW_none, errW_some] <;> rfl)) | (simp [*, errW_none, errW_some] <;> rfl), by repeat (first | (with_reducible first | exact HI0.out | apply IsS117.alloc | apply IsS117.drewN | apply IsS117.drew | apply IsS117.set_1) | exact HI0.out), by repeat (first | (with_reducible first | exact HB.out | apply below_alloc | apply pw_below_drewN | apply below_drew1 | refine below_set ?_ (IsS117.ge HI0.out)) | exact HB.out), zk HK⟩
     ·rw [if_neg c10] at H; exact absurd H (by simp)
    ·rw [if_neg c8] at H; have c8b0 : decide ((wrap64 ((wrap64 (s0_1 + 1)) - 1)) < (s0_0.length : Int)) = false := decide_eq_false c8; clear c8
     by_cases c13 : (s0_0.length : Int) = 0
     ·rw [if_pos c13] at H; exact absurd H (by simp)
     ·rw [if_neg c13] at H; have c13b0 : ((s0_0.length : Int) == 0) = false := beq_eq_false_iff_ne.mpr c13; have c13b1 : ((s0_0.length : Int) != 0) = true := bne_iff_ne.mpr c13; have c13b2 : ¬ (s0_0 = []) := fun h_ => c13 (by rw [h_]; rfl)
      obtain ⟨ji14, hji14⟩ : ∃ j_ : Int, (Int.tmod (wrap64 ((wrap64 (s0_1 + 1)) - 1)) (s0_0.length : Int)) = j_ := ⟨_, rfl⟩
      replace H : (if 0 ≤ (ji14) then (if (ji14) < (s0_0.length : Int) then (if 0 ≤ (Int.tmod (wrap64 ((wrap64 ((wrap64 ((wrap64 (s0_1 + 1)) - 1)) * 7)) + 3)) (s0_0.length : Int)) then (if (Int.tmod (wrap64 ((wrap64 ((wrap64 ((wrap64 (s0_1 + 1)) - 1)) * 7)) + 3)) (s0_0.length : Int)) < (s0_0.length : Int) then (if a1 = 0 then (none) else (some (Int.tmod (Go.bits .xor .i64 (wrap64 ((wrap64 ((wrap64 ((wrap64 ((wrap64 (rd s0_0 (ji14))) * 131)) + (wrap64 ((wrap64 (rd s0_0 (Int.tmod (wrap64 ((wrap64 ((wrap64 ((wrap64 (s0_1 + 1)) - 1)) * 7)) + 3)) (s0_0.length : Int)))) * 1117)))) + (wrap64 ((wrap64 ((wrap64 (s0_1 + 1)) - 1)) * 29)))) + (wrap64 ((wrap64 (Int.tdiv (wrap64 ((wrap64 (s0_1 + 1)) - 1)) (s0_0.length : Int))) * 53)))) (wrap64 (Int.tdiv (wrap64 ((wrap64 ((wrap64 ((wrap64 ((wrap64 (rd s0_0 (ji14))) * 131)) + (wrap64 ((wrap64 (rd s0_0 (Int.tmod (wrap64 ((wrap64 ((wrap64 ((wrap64 (s0_1 + 1)) - 1)) * 7)) + 3)) (s0_0.length : Int)))) * 1117)))) + (wrap64 ((wrap64 ((wrap64 (s0_1 + 1)) - 1)) * 29)))) + (wrap64 ((wrap64 (Int.tdiv (wrap64 ((wrap64 (s0_1 + 1)) - 1)) (s0_0.length : Int))) * 53)))) 64))) a1, (wrap64 (s0_1 + 1))))) else (none)) else (none)) else (none)) else (none)) = some (r1, r2) := by first | (rw [hji14] at H; exact H) | (simp only [hji14] at H ⊢; exact H)
      by_cases c15 : 0 ≤ (ji14)
      ·rw [if_pos c15] at H; have c15b0 : decide (0 ≤ (ji14)) = true := decide_eq_true c15; clear c15
       by_cases c16 : (ji14) < (s0_0.length : Int)
       ·rw [if_pos c16] at H; have c16b0 : decide ((ji14) < (s0_0.length : Int)) = true := decide_eq_true c16; clear c16; obtain ⟨ji17, hji17⟩ : ∃ j_ : Int, (Int.tmod (wrap64 ((wrap64 ((wrap64 ((wrap64 (s0_1 + 1)) - 1)) * 7)) + 3)) (s0_0.length : Int)) = j_ := ⟨_, rfl⟩
        replace H : (if 0 ≤ (ji17) then (if (ji17) < (s0_0.length : Int) then (if a1 = 0 then (none) else (some (Int.tmod (Go.bits .xor .i64 (wrap64 ((wrap64 ((wrap64 ((wrap64 ((wrap64 (rd s0_0 (ji14))) * 131)) + (wrap64 ((wrap64 (rd s0_0 (ji17))) * 1117)))) + (wrap64 ((wrap64 ((wrap64 (s0_1 + 1)) - 1)) * 29)))) + (wrap64 ((wrap64 (Int.tdiv (wrap64 ((wrap64 (s0_1 + 1)) - 1)) (s0_0.length : Int))) * 53)))) (wrap64 (Int.tdiv (wrap64 ((wrap64 ((wrap64 ((wrap64 ((wrap64 (rd s0_0 (ji14))) * 131)) + (wrap64 ((wrap64 (rd s0_0 (ji17))) * 1117)))) + (wrap64 ((wrap64 ((wrap64 (s0_1 + 1)) - 1)) * 29)))) + (wrap64 ((wrap64 (Int.tdiv (wrap64 ((wrap64 (s0_1 + 1)) - 1)) (s0_0.length : Int))) * 53)))) 64))) a1, (wrap64 (s0_1 + 1))))) else (none)) else (none)) = some (r1, r2) := by first | (rw [hji17] at H; exact H) | (simp only [hji17] at H ⊢; exact H)
        by_cases c18 : 0 ≤ (ji17)
        ·rw [if_pos c18] at H; have c18b0 : decide (0 ≤ (ji17)) = true := decide_eq_true c18; clear c18
         by_cases c19 : (ji17) < (s0_0.length : Int)
         ·rw [if_pos c19] at H; have c19b0 : decide ((ji17) < (s0_0.length : Int)) = true := decide_eq_true c19; clear c19
          by_cases c20 : a1 = 0
          ·rw [if_pos c20] at H; exact absurd H (by simp)
          ·rw [if_neg c20] at H; have c20b0 : (a1 == 0) = false := beq_eq_false_iff_ne.mpr c20; have c20b1 : (a1 != 0) = true := bne_iff_ne.mpr c20; simp only [Option.some.injEq, Prod.mk.injEq] at H; obtain ⟨rfl, rfl⟩ := H; obtain ⟨ASz21_0, cSz21_0, HGz21, hgz21, HSz21_0⟩ := HI0.out; have hcz21_0 := cellS117_0 HGz21; have hcz21_1 := cellS117_1 HGz21; have hfz21_1 := blk_frozen HGz21 1; clear HGz21 hgz21; have p102 : 0 ≤ ((ji14) : Int) := of_decide_eq_true za; have q102 : (ji14) < (s0_0.length : Int) := of_decide_eq_true za; obtain ⟨ad102, e102, hx102_0⟩ := Kd.at_int HSz21_0 (ji14) p102 q102
           cases e102
           replace hx102_0 := pw_cell_below HB.out hx102_0; replace p102 := eq_true p102; replace q102 := eq_true q102; have p103 : 0 ≤ ((ji17) : Int) := of_decide_eq_true za; have q103 : (ji17) < (s0_0.length : Int) := of_decide_eq_true za; obtain ⟨ad103, e103, hx103_0⟩ := Kd.at_int HSz21_0 (ji17) p103 q103; obtain rfl : ad102 = ad103 := (by injection e103)
           replace hx103_0 := pw_cell_below HB.out hx103_0; replace p103 := eq_true p103; replace q103 := eq_true q103; go_wp2
           repeat (go_quiet (fail); try go_wp2)
           go_ret; exact ⟨by first | rfl | (simp [errW_none, errW_some] <;> rfl) | (simp only [← hji14, ← hji17]; first | rfl | (simp [errW_none, errW_some] <;> rfl)) | (simp [*, errW_none, errW_some] <;> rfl), by repeat (first | (with_reducible first | exact HI0.out | apply IsS117.alloc | apply IsS117.drewN | apply IsS117.drew | apply IsS117.set_1) | exact HI0.out), by repeat (first | (with_reducible first | exact HB.out | apply below_alloc | apply pw_below_drewN | apply below_drew1 | refine below_set ?_ (IsS117.ge HI0.out)) | exact HB.out), zk HK⟩
         ·rw [if_neg c19] at H; exact absurd H (by simp)
        ·rw [if_neg c18] at H; exact absurd H (by simp)
       ·rw [if_neg c16] at H; exact absurd H (by simp)
      ·rw [if_neg c15] at H; exact absurd H (by simp)

end Go.Proofs.Ytlpmggokgcphiaa.Q

namespace Go.Proofs.Ytlpmggokgcphiaa.Q
open Go.RowKit Go.Proofs.YtlpmggokgcphiaaL.PrintWords Go.Proofs.YtlpmggokgcphiaaL.PrintLast Go.Proofs.YtlpmggokgcphiaaL.PrintMore
attribute [local go_sem] max2_int min2_int max_two min_two max_three min_three max_four min_four   -- for this text's walks alone
set_option linter.unusedVariables false
set_option linter.unusedSimpArgs false

theorem zi117_3 {w0 W W' : World} {g : Nat} {f0 f0' : List Int} {f1 f1' : Int} (h : Aside0 (IsS117 w0 W g f0 f1)) (i : IsS117 w0 W g f0 f1 → IsS117 w0 W' g f0' f1' := by intro hh_; repeat (first | (with_reducible first | exact hh_ | apply IsS117.alloc | apply IsS117.drewN | apply IsS117.drew | apply IsS117.set_1 | refine IsS117.far ?_ (Aside0.out (by assumption)) _) | exact hh_)) : IsS117 w0 W' g f0' f1' := i h.out
theorem zj117_3 {B : Nat} {w W W' : World} (h : Aside0 (Below B w W)) (i : Below B w W → Below B w W' := by intro hh_; repeat (first | (with_reducible first | exact hh_ | apply below_alloc | apply pw_below_drewN | apply below_drew1 | refine below_set ?_ (IsS117.ge (Aside0.out (by assumption))) | refine below_set ?_ (Aside0.out (by assumption))) | exact hh_)) : Below B w W' := i h.out
/-! ### spec_reader_one: function 65 -/
def spec_reader_one.f (k : Nat) (s0_0 : List Int) (s0_1 : Int) (l1 : List Int) : Option (Int × Int) := (spec_reader_pick.f k s0_0 s0_1 (l1.length : Int)).bind fun bt104 => (if 0 ≤ bt104.1 then (if bt104.1 < (l1.length : Int) then (some (rd l1 bt104.1, bt104.2)) else (none)) else (none))
theorem spec_reader_one.mono : ∀ a0 a1 a2 k, LeO (spec_reader_one.f k a0 a1 a2) (spec_reader_one.f (k + 1) a0 a1 a2) := by
 intro a0 a1 a2 k; unfold spec_reader_one.f
 repeat' first
   | (with_reducible exact spec_reader_pick.mono _ _ _ _)
   | (with_reducible exact LeO.refl _)
   | (with_reducible exact LeO.none _)
   | (with_reducible refine LeO.ite ?_ ?_)
   | (with_reducible refine LeO.bind ?_ (fun _ => ?_))
   | exact spec_reader_pick.mono _ _ _ _
   | exact LeO.none _
   | refine LeO.ite ?_ ?_
   | refine LeO.bind ?_ (fun _ => ?_)
set_option maxHeartbeats 8000000 in
set_option maxRecDepth 100000 in
theorem spec_reader_one.calls (k : Nat) (g : Nat) (s0_0 : List Int) (s0_1 : Int) (A1 : Option Addr) (c1 : Nat) (l1 : List Int) (r1 : Int) (r2 : Int) (w0 w : World) (hI : IsS117 w0 w g s0_0 s0_1) (hB : Below w0.heap.size w0 w) (hr1 : Kd.C (Kd.int .i64) w A1 l1.length l1) (hc1 : l1.length ≤ c1) (hf1 : ∀ ad, A1 = some ad → 0 < l1.length → ad.block ≠ g) (h : spec_reader_one.f k s0_0 s0_1 l1 = some (r1, r2)) :
  Calls Try.prog 65 #[.pointer (some ⟨g, 0, none⟩), .slice A1 l1.length c1] w fun e w' => e = .returned (.int .i64 r1) ∧ IsS117 w0 w' g s0_0 r2 ∧ Below w0.heap.size w0 w' ∧ KeepBut w w' g none := by
 have HR1 := Aside0.mk hr1; have HC1 := Aside0.mk hc1; clear hr1 hc1; have HI0 := Aside0.mk hI; have HK := Aside0.mk (KeepBut.refl w g none); have HL := Aside0.mk hB.size; clear hI; have HW0 := Aside0.mk hB.size; have HB := Aside0.mk hB; clear hB; have H : ((spec_reader_pick.f k s0_0 s0_1 (l1.length : Int)).bind fun bt104 => (if 0 ≤ bt104.1 then (if bt104.1 < (l1.length : Int) then (some (rd l1 bt104.1, bt104.2)) else (none)) else (none))) = some (r1, r2) := h; clear h; replace H := Option.bind_eq_some_iff.mp H; obtain ⟨⟨t104, t105⟩, A30, H⟩ := H
 (try dsimp only at H)
 have A3 := Aside0.mk A30; clear A30
 by_cases c4 : 0 ≤ t104
 ·rw [if_pos c4] at H; have c4b0 : decide (0 ≤ t104) = true := decide_eq_true c4; clear c4
  by_cases c5 : t104 < (l1.length : Int)
  ·rw [if_pos c5] at H; have c5b0 : decide (t104 < (l1.length : Int)) = true := decide_eq_true c5; clear c5; simp only [Option.some.injEq, Prod.mk.injEq] at H; obtain ⟨rfl, rfl⟩ := H; go_enter Try.func65, Try.ntmps65; go_wp2_with (first | ((with_reducible refine gate_callee (f := 66) rfl ?_); refine goesL_ (some 9) rfl rfl Try.func66 (by kernel_rfl) rfl #[.pointer (some ⟨g, 0, none⟩), .int .i64 (l1.length : Int)] rfl zl ?_; (with_reducible refine (spec_reader_pick.calls k g s0_0 s0_1 (l1.length : Int) t104 t105 w0 _ ?side1 ?side2 A3.out).mono ?_); (case side1 => exact zi117_3 HI0); (case side2 => exact zj117_3 HB); rintro e w6 ⟨rfl, hi, hb, hk⟩; refine ⟨_, rfl, ?_⟩; replace HK := Aside0.mk (KeepBut.trans (zk HK) hk (.inl rfl)); replace HB := Aside0.mk (hb); replace HI0 := Aside0.mk (hi); (try clear hb); (try clear hb2); (try clear hk); (try clear hi); have p106 : 0 ≤ (t104 : Int) := of_decide_eq_true za; have q106 : t104 < (l1.length : Int) := of_decide_eq_true za; obtain ⟨ad106, e106, hx106_0⟩ := Kd.at_int HR1.out t104 p106 q106; cases e106; replace hx106_0 := keep_cell HK.out hx106_0 (by first | (rw [add_block]; exact hf1 _ rfl (by omega)) | exact hf1 _ rfl (by omega) | exact hf1 ad106 rfl (by omega)); replace p106 := eq_true p106; replace q106 := eq_true q106)); go_ret; exact ⟨by first | rfl | (simp [errW_none, errW_some] <;> rfl) | (simp [*, errW_none, errW_some] <;> rfl), by repeat (first | (with_reducible first | exact HI0.out | apply IsS117.alloc | apply IsS117.drewN | apply IsS117.drew | apply IsS117.set_1) | exact HI0.out), by repeat (first | (with_reducible first | exact HB.out | apply below_alloc | apply pw_below_drewN | apply below_drew1 | refine below_set ?_ (IsS117.ge HI0.out)) | exact HB.out), zk HK⟩
  ·rw [if_neg c5] at H; exact absurd H (by simp)
 ·rw [if_neg c4] at H; exact absurd H (by simp)

/-! ### spec_reader_of: function 64 -/
def spec_reader_of.f (k : Nat) (s0_0 : List Int) (s0_1 : Int) (l1 : List ByteArray) : Option (ByteArray × Int) := (spec_reader_pick.f k s0_0 s0_1 (l1.length : Int)).bind fun bt107 => (if 0 ≤ bt107.1 then (if bt107.1 < (l1.length : Int) then (some (rdOf ByteArray.empty l1 bt107.1, bt107.2)) else (none)) else (none))
theorem spec_reader_of.mono : ∀ a0 a1 a2 k, LeO (spec_reader_of.f k a0 a1 a2) (spec_reader_of.f (k + 1) a0 a1 a2) := by
 intro a0 a1 a2 k; unfold spec_reader_of.f
 repeat' first
   | (with_reducible exact spec_reader_pick.mono _ _ _ _)
   | (with_reducible exact LeO.refl _)
   | (with_reducible exact LeO.none _)
   | (with_reducible refine LeO.ite ?_ ?_)
   | (with_reducible refine LeO.bind ?_ (fun _ => ?_))
   | exact spec_reader_pick.mono _ _ _ _
   | exact LeO.none _
   | refine LeO.ite ?_ ?_
   | refine LeO.bind ?_ (fun _ => ?_)
set_option maxHeartbeats 8000000 in
set_option maxRecDepth 100000 in
theorem spec_reader_of.calls (k : Nat) (g : Nat) (s0_0 : List Int) (s0_1 : Int) (A1 : Option Addr) (c1 : Nat) (l1 : List ByteArray) (r1 : ByteArray) (r2 : Int) (w0 w : World) (hI : IsS117 w0 w g s0_0 s0_1) (hB : Below w0.heap.size w0 w) (hr1 : Kd.C Kd.string w A1 l1.length l1) (hc1 : l1.length ≤ c1) (hf1 : ∀ ad, A1 = some ad → 0 < l1.length → ad.block ≠ g) (h : spec_reader_of.f k s0_0 s0_1 l1 = some (r1, r2)) :
  Calls Try.prog 64 #[.pointer (some ⟨g, 0, none⟩), .slice A1 l1.length c1] w fun e w' => e = .returned (.string r1) ∧ IsS117 w0 w' g s0_0 r2 ∧ Below w0.heap.size w0 w' ∧ KeepBut w w' g none := by
 have HR1 := Aside0.mk hr1; have HC1 := Aside0.mk hc1; clear hr1 hc1; have HI0 := Aside0.mk hI; have HK := Aside0.mk (KeepBut.refl w g none); have HL := Aside0.mk hB.size; clear hI; have HW0 := Aside0.mk hB.size; have HB := Aside0.mk hB; clear hB; have H : ((spec_reader_pick.f k s0_0 s0_1 (l1.length : Int)).bind fun bt107 => (if 0 ≤ bt107.1 then (if bt107.1 < (l1.length : Int) then (some (rdOf ByteArray.empty l1 bt107.1, bt107.2)) else (none)) else (none))) = some (r1, r2) := h; clear h; replace H := Option.bind_eq_some_iff.mp H; obtain ⟨⟨t107, t108⟩, A30, H⟩ := H
 (try dsimp only at H)
 have A3 := Aside0.mk A30; clear A30
 by_cases c4 : 0 ≤ t107
 ·rw [if_pos c4] at H; have c4b0 : decide (0 ≤ t107) = true := decide_eq_true c4; clear c4
  by_cases c5 : t107 < (l1.length : Int)
  ·rw [if_pos c5] at H; have c5b0 : decide (t107 < (l1.length : Int)) = true := decide_eq_true c5; clear c5; simp only [Option.some.injEq, Prod.mk.injEq] at H; obtain ⟨rfl, rfl⟩ := H; go_enter Try.func64, Try.ntmps64; go_wp2_with (first | ((with_reducible refine gate_callee (f := 66) rfl ?_); refine goesL_ (some 9) rfl rfl Try.func66 (by kernel_rfl) rfl #[.pointer (some ⟨g, 0, none⟩), .int .i64 (l1.length : Int)] rfl zl ?_; (with_reducible refine (spec_reader_pick.calls k g s0_0 s0_1 (l1.length : Int) t107 t108 w0 _ ?side1 ?side2 A3.out).mono ?_); (case side1 => exact zi117_3 HI0); (case side2 => exact zj117_3 HB); rintro e w6 ⟨rfl, hi, hb, hk⟩; refine ⟨_, rfl, ?_⟩; replace HK := Aside0.mk (KeepBut.trans (zk HK) hk (.inl rfl)); replace HB := Aside0.mk (hb); replace HI0 := Aside0.mk (hi); (try clear hb); (try clear hb2); (try clear hk); (try clear hi); have p109 : 0 ≤ (t107 : Int) := of_decide_eq_true za; have q109 : t107 < (l1.length : Int) := of_decide_eq_true za; obtain ⟨ad109, e109, hx109_0⟩ := Kd.at_string HR1.out t107 p109 q109; cases e109; replace hx109_0 := keep_cell HK.out hx109_0 (by first | (rw [add_block]; exact hf1 _ rfl (by omega)) | exact hf1 _ rfl (by omega) | exact hf1 ad109 rfl (by omega)); replace p109 := eq_true p109; replace q109 := eq_true q109)); go_ret; exact ⟨by first | rfl | (simp [errW_none, errW_some] <;> rfl) | (simp [*, errW_none, errW_some] <;> rfl), by repeat (first | (with_reducible first | exact HI0.out | apply IsS117.alloc | apply IsS117.drewN | apply IsS117.drew | apply IsS117.set_1) | exact HI0.out), by repeat (first | (with_reducible first | exact HB.out | apply below_alloc | apply pw_below_drewN | apply below_drew1 | refine below_set ?_ (IsS117.ge HI0.out)) | exact HB.out), zk HK⟩
  ·rw [if_neg c5] at H; exact absurd H (by simp)
 ·rw [if_neg c4] at H; exact absurd H (by simp)

/-! ### spec_aName: function 126 -/
def spec_aName.f (k : Nat) (s0_0 : List Int) (s0_1 : Int) : Option (ByteArray × Int) := (spec_reader_of.f k s0_0 s0_1 (([(⟨#[97]⟩ : ByteArray), (⟨#[98]⟩ : ByteArray), (⟨#[99]⟩ : ByteArray), (⟨#[100]⟩ : ByteArray), (⟨#[120]⟩ : ByteArray), (⟨#[121]⟩ : ByteArray), (⟨#[97]⟩ : ByteArray), (⟨#[98]⟩ : ByteArray), (⟨#[99]⟩ : ByteArray)] : List ByteArray))).bind fun bt113 => (some (bt113.1, bt113.2))
theorem spec_aName.mono : ∀ a0 a1 k, LeO (spec_aName.f k a0 a1) (spec_aName.f (k + 1) a0 a1) := by
 intro a0 a1 k; unfold spec_aName.f
 repeat' first
   | (with_reducible exact spec_reader_of.mono _ _ _ _)
   | (with_reducible exact LeO.refl _)
   | (with_reducible exact LeO.none _)
   | (with_reducible refine LeO.ite ?_ ?_)
   | (with_reducible refine LeO.bind ?_ (fun _ => ?_))
   | exact spec_reader_of.mono _ _ _ _
   | exact LeO.none _
   | refine LeO.ite ?_ ?_
   | refine LeO.bind ?_ (fun _ => ?_)
set_option maxHeartbeats 8000000 in
set_option maxRecDepth 100000 in
theorem spec_aName.calls (k : Nat) (g : Nat) (s0_0 : List Int) (s0_1 : Int) (r1 : ByteArray) (r2 : Int) (w0 w : World) (hI : IsS117 w0 w g s0_0 s0_1) (hB : Below w0.heap.size w0 w) (h : spec_aName.f k s0_0 s0_1 = some (r1, r2)) :
  Calls Try.prog 126 #[.pointer (some ⟨g, 0, none⟩)] w fun e w' => e = .returned (.string r1) ∧ IsS117 w0 w' g s0_0 r2 ∧ Below w0.heap.size w0 w' ∧ KeepBut w w' g none := by
 have HI0 := Aside0.mk hI; have HK := Aside0.mk (KeepBut.refl w g none); have HL := Aside0.mk hB.size; clear hI; have HW0 := Aside0.mk hB.size; have HB := Aside0.mk hB; clear hB; have H : ((spec_reader_of.f k s0_0 s0_1 (([(⟨#[97]⟩ : ByteArray), (⟨#[98]⟩ : ByteArray), (⟨#[99]⟩ : ByteArray), (⟨#[100]⟩ : ByteArray), (⟨#[120]⟩ : ByteArray), (⟨#[121]⟩ : ByteArray), (⟨#[97]⟩ : ByteArray), (⟨#[98]⟩ : ByteArray), (⟨#[99]⟩ : ByteArray)] : List ByteArray))).bind fun bt113 => (some (bt113.1, bt113.2))) = some (r1, r2) := h; clear h; obtain ⟨y110, hy110⟩ : ∃ y_ : List ByteArray, y_ = (([(⟨#[97]⟩ : ByteArray), (⟨#[98]⟩ : ByteArray), (⟨#[99]⟩ : ByteArray), (⟨#[100]⟩ : ByteArray), (⟨#[120]⟩ : ByteArray), (⟨#[121]⟩ : ByteArray), (⟨#[97]⟩ : ByteArray), (⟨#[98]⟩ : ByteArray), (⟨#[99]⟩ : ByteArray)] : List ByteArray)) := ⟨_, rfl⟩
 replace H : ((spec_reader_of.f k s0_0 s0_1 y110).bind fun bt113 => (some (bt113.1, bt113.2))) = some (r1, r2) := by first | (rw [hy110]; with_reducible exact H) | (have H2_ := (Option.bind_some _ _).symm.trans H; rw [hy110]; with_reducible exact H2_) | (have H2_ := (Option.bind_some _ _).symm.trans H; with_reducible exact H2_) | with_reducible exact H | (rw [hy110]; exact H) | exact H
 have Ny110 := Aside0.mk hy110; clear hy110; replace H := Option.bind_eq_some_iff.mp H; obtain ⟨⟨t113, t114⟩, A20, H⟩ := H
 (try dsimp only at H)
 have A2 := Aside0.mk A20; clear A20; simp only [Option.some.injEq, Prod.mk.injEq] at H; obtain ⟨rfl, rfl⟩ := H; go_enter Try.func126, Try.ntmps126; go_wp2_with (first | ((with_reducible refine gate_dst (N := 4) rfl ?_); refine Kd.R_lit Kd.string _ 9 ?hg (N := 4) ?hd (xs := ([(⟨#[97]⟩ : ByteArray), (⟨#[98]⟩ : ByteArray), (⟨#[99]⟩ : ByteArray), (⟨#[100]⟩ : ByteArray), (⟨#[120]⟩ : ByteArray), (⟨#[121]⟩ : ByteArray), (⟨#[97]⟩ : ByteArray), (⟨#[98]⟩ : ByteArray), (⟨#[99]⟩ : ByteArray)] : List ByteArray)) (inner := [.string (⟨#[97]⟩ : ByteArray), .string (⟨#[98]⟩ : ByteArray), .string (⟨#[99]⟩ : ByteArray), .string (⟨#[100]⟩ : ByteArray), .string (⟨#[120]⟩ : ByteArray), .string (⟨#[121]⟩ : ByteArray), .string (⟨#[97]⟩ : ByteArray), .string (⟨#[98]⟩ : ByteArray), .string (⟨#[99]⟩ : ByteArray)]) (ok := fun _ => True) (okp := fun _ => True) ?hr ?hp (fun _ hk => hk) trivial (Below.refl _ _) (Nat.le_refl _) (by simp) ?_; (case hd => rfl); (case hg => rfl); (case hr => first | (go_simp; done) | (go_simp; rfl)); (case hp => exact (Reps.one (show Kd.M Kd.string _ _ _ (⟨#[97]⟩ : ByteArray) [.string (⟨#[97]⟩ : ByteArray)] from rfl) (Reps.one (show Kd.M Kd.string _ _ _ (⟨#[98]⟩ : ByteArray) [.string (⟨#[98]⟩ : ByteArray)] from rfl) (Reps.one (show Kd.M Kd.string _ _ _ (⟨#[99]⟩ : ByteArray) [.string (⟨#[99]⟩ : ByteArray)] from rfl) (Reps.one (show Kd.M Kd.string _ _ _ (⟨#[100]⟩ : ByteArray) [.string (⟨#[100]⟩ : ByteArray)] from rfl) (Reps.one (show Kd.M Kd.string _ _ _ (⟨#[120]⟩ : ByteArray) [.string (⟨#[120]⟩ : ByteArray)] from rfl) (Reps.one (show Kd.M Kd.string _ _ _ (⟨#[121]⟩ : ByteArray) [.string (⟨#[121]⟩ : ByteArray)] from rfl) (Reps.one (show Kd.M Kd.string _ _ _ (⟨#[97]⟩ : ByteArray) [.string (⟨#[97]⟩ : ByteArray)] from rfl) (Reps.one (show Kd.M Kd.string _ _ _ (⟨#[98]⟩ : ByteArray) [.string (⟨#[98]⟩ : ByteArray)] from rfl) (Reps.one (show Kd.M Kd.string _ _ _ (⟨#[99]⟩ : ByteArray) [.string (⟨#[99]⟩ : ByteArray)] from rfl) (Reps.none _ _))))))))))); intro v111 w3 ho4 hb hg_ hnew_; clear hg_ hnew_; (first | rw [← Ny110.out] at ho4 | (simp only [Int.reduceToNat] at ho4; rw [← Ny110.out] at ho4)); have HO112 := Aside0.mk (Kd.R_lower ho4 (keep_size (w := w) (g := g) (row := none) (zk HK))); replace HK := Aside0.mk (KeepBut.trans (zk HK) (KeepBut.of_below hb g none) (.inl rfl)); replace HB := Aside0.mk (below_step (zj117_3 HB) hb); replace HI0 := Aside0.mk (IsS117.below (zi117_3 HI0) hb); clear hb ho4; obtain ⟨Ao5, co5, eo5⟩ := Kd.R_slice HO112.out; subst eo5) | ((with_reducible refine gate_callee (f := 64) rfl ?_); refine goesL_ (some 5) rfl rfl Try.func64 (by kernel_rfl) rfl #[.pointer (some ⟨g, 0, none⟩), .slice Ao5 y110.length co5] rfl zl ?_; (with_reducible refine (spec_reader_of.calls k g s0_0 s0_1 _ _ y110 t113 t114 w0 _ ?side1 ?side2 ?side3 ?side4 ?side5 A2.out).mono ?_); (case side1 => exact zi117_3 HI0); (case side2 => exact zj117_3 HB); (case side3 => repeat (first | exact (Kd.R_reads' HO112.out).2.2 | (with_reducible refine Kd.C_alloc ?_ _) | (with_reducible refine Kd.C_drewN ?_ _) | (with_reducible refine Kd.C_drew ?_))); (case side4 => exact (Kd.R_reads' HO112.out).2.1); (case side5 => exact far_slice (IsS117.own_ne HI0.out HO112.out (by decide))); rintro e w6 ⟨rfl, hi, hb, hk⟩; refine ⟨_, rfl, ?_⟩; replace HO112 := Aside0.mk (Kd.R_mono (Kd.R_keep (IsS117.apart (show IsS117 w0 _ g s0_0 s0_1 from zi117_3 HI0) (zo HO112) (by decide)) hk (fun _ h => h.2)) (fun _ h => h.1)); replace HK := Aside0.mk (KeepBut.trans (zk HK) hk (.inl rfl)); replace HB := Aside0.mk (hb); replace HI0 := Aside0.mk (hi); (try clear hb); (try clear hb2); (try clear hk); (try clear hi))); go_ret; exact ⟨by first | rfl | (simp [errW_none, errW_some] <;> rfl) | (simp [*, errW_none, errW_some] <;> rfl), by repeat (first | (with_reducible first | exact HI0.out | apply IsS117.alloc | apply IsS117.drewN | apply IsS117.drew | apply IsS117.set_1) | exact HI0.out), by repeat (first | (with_reducible first | exact HB.out | apply below_alloc | apply pw_below_drewN | apply below_drew1 | refine below_set ?_ (IsS117.ge HI0.out)) | exact HB.out), zk HK⟩

/-! ### spec_anyName: function 100 -/
def spec_anyName.f (k : Nat) (s0_0 : List Int) (s0_1 : Int) : Option (ByteArray × Int) := (spec_reader_pick.f k s0_0 s0_1 16).bind fun bt115 => (if bt115.1 = 0 then ((spec_reader_of.f k s0_0 bt115.2 (([(⟨#[]⟩ : ByteArray), (⟨#[65]⟩ : ByteArray), (⟨#[116, 111, 111, 108, 111, 110, 103]⟩ : ByteArray), (⟨#[97, 49]⟩ : ByteArray), (⟨#[97, 98, 99, 100, 101, 102]⟩ : ByteArray)] : List ByteArray))).bind fun bt120 => (some (bt120.1, bt120.2))) else ((spec_aName.f k s0_0 bt115.2).bind fun bt122 => (some (bt122.1, bt122.2))))
theorem spec_anyName.mono : ∀ a0 a1 k, LeO (spec_anyName.f k a0 a1) (spec_anyName.f (k + 1) a0 a1) := by
 intro a0 a1 k; unfold spec_anyName.f
 repeat' first
   | (with_reducible exact spec_aName.mono _ _ _)
   | (with_reducible exact spec_reader_of.mono _ _ _ _)
   | (with_reducible exact spec_reader_pick.mono _ _ _ _)
   | (with_reducible exact LeO.refl _)
   | (with_reducible exact LeO.none _)
   | (with_reducible refine LeO.ite ?_ ?_)
   | (with_reducible refine LeO.bind ?_ (fun _ => ?_))
   | exact spec_aName.mono _ _ _
   | exact spec_reader_of.mono _ _ _ _
   | exact spec_reader_pick.mono _ _ _ _
   | exact LeO.none _
   | refine LeO.ite ?_ ?_
   | refine LeO.bind ?_ (fun _ => ?_)
set_option maxHeartbeats 8000000 in
set_option maxRecDepth 100000 in
theorem spec_anyName.calls (k : Nat) (g : Nat) (s0_0 : List Int) (s0_1 : Int) (r1 : ByteArray) (r2 : Int) (w0 w : World) (hI : IsS117 w0 w g s0_0 s0_1) (hB : Below w0.heap.size w0 w) (h : spec_anyName.f k s0_0 s0_1 = some (r1, r2)) :
  Calls Try.prog 100 #[.pointer (some ⟨g, 0, none⟩)] w fun e w' => e = .returned (.string r1) ∧ IsS117 w0 w' g s0_0 r2 ∧ Below w0.heap.size w0 w' ∧ KeepBut w w' g none := by
 have HI0 := Aside0.mk hI; have HK := Aside0.mk (KeepBut.refl w g none); have HL := Aside0.mk hB.size; clear hI; have HW0 := Aside0.mk hB.size; have HB := Aside0.mk hB; clear hB; have H : ((spec_reader_pick.f k s0_0 s0_1 16).bind fun bt115 => (if bt115.1 = 0 then ((spec_reader_of.f k s0_0 bt115.2 (([(⟨#[]⟩ : ByteArray), (⟨#[65]⟩ : ByteArray), (⟨#[116, 111, 111, 108, 111, 110, 103]⟩ : ByteArray), (⟨#[97, 49]⟩ : ByteArray), (⟨#[97, 98, 99, 100, 101, 102]⟩ : ByteArray)] : List ByteArray))).bind fun bt120 => (some (bt120.1, bt120.2))) else ((spec_aName.f k s0_0 bt115.2).bind fun bt122 => (some (bt122.1, bt122.2))))) = some (r1, r2) := h; clear h; replace H := Option.bind_eq_some_iff.mp H; obtain ⟨⟨t115, t116⟩, A20, H⟩ := H
 (try dsimp only at H)
 have A2 := Aside0.mk A20; clear A20
 by_cases c3 : t115 = 0
 ·rw [if_pos c3] at H; have c3b0 : (t115 == 0) = true := beq_iff_eq.mpr c3; have c3b1 : (t115 != 0) = false := bne_eq_false_iff_eq.mpr c3; clear c3; obtain ⟨y117, hy117⟩ : ∃ y_ : List ByteArray, y_ = (([(⟨#[]⟩ : ByteArray), (⟨#[65]⟩ : ByteArray), (⟨#[116, 111, 111, 108, 111, 110, 103]⟩ : ByteArray), (⟨#[97, 49]⟩ : ByteArray), (⟨#[97, 98, 99, 100, 101, 102]⟩ : ByteArray)] : List ByteArray)) := ⟨_, rfl⟩
  replace H : ((spec_reader_of.f k s0_0 t116 y117).bind fun bt120 => (some (bt120.1, bt120.2))) = some (r1, r2) := by first | (rw [hy117]; with_reducible exact H) | (have H2_ := (Option.bind_some _ _).symm.trans H; rw [hy117]; with_reducible exact H2_) | (have H2_ := (Option.bind_some _ _).symm.trans H; with_reducible exact H2_) | with_reducible exact H | (rw [hy117]; exact H) | exact H
  have Ny117 := Aside0.mk hy117; clear hy117; replace H := Option.bind_eq_some_iff.mp H; obtain ⟨⟨t120, t121⟩, A40, H⟩ := H
  (try dsimp only at H)
  have A4 := Aside0.mk A40; clear A40; simp only [Option.some.injEq, Prod.mk.injEq] at H; obtain ⟨rfl, rfl⟩ := H; go_enter Try.func100, Try.ntmps100; go_wp2_with (first | ((with_reducible refine gate_callee (f := 66) rfl ?_); refine goesL_ (some 4) rfl rfl Try.func66 (by kernel_rfl) rfl #[.pointer (some ⟨g, 0, none⟩), .int .i64 16] rfl zl ?_; (with_reducible refine (spec_reader_pick.calls k g s0_0 s0_1 16 t115 t116 w0 _ ?side1 ?side2 A2.out).mono ?_); (case side1 => exact zi117_3 HI0); (case side2 => exact zj117_3 HB); rintro e w5 ⟨rfl, hi, hb, hk⟩; refine ⟨_, rfl, ?_⟩; replace HK := Aside0.mk (KeepBut.trans (zk HK) hk (.inl rfl)); replace HB := Aside0.mk (hb); replace HI0 := Aside0.mk (hi); (try clear hb); (try clear hb2); (try clear hk); (try clear hi)) | ((with_reducible refine gate_dst (N := 7) rfl ?_); refine Kd.R_lit Kd.string _ 9 ?hg (N := 7) ?hd (xs := ([(⟨#[]⟩ : ByteArray), (⟨#[65]⟩ : ByteArray), (⟨#[116, 111, 111, 108, 111, 110, 103]⟩ : ByteArray), (⟨#[97, 49]⟩ : ByteArray), (⟨#[97, 98, 99, 100, 101, 102]⟩ : ByteArray)] : List ByteArray)) (inner := [.string (⟨#[]⟩ : ByteArray), .string (⟨#[65]⟩ : ByteArray), .string (⟨#[116, 111, 111, 108, 111, 110, 103]⟩ : ByteArray), .string (⟨#[97, 49]⟩ : ByteArray), .string (⟨#[97, 98, 99, 100, 101, 102]⟩ : ByteArray)]) (ok := fun _ => True) (okp := fun _ => True) ?hr ?hp (fun _ hk => hk) trivial (Below.refl _ _) (Nat.le_refl _) (by simp) ?_; (case hd => rfl); (case hg => rfl); (case hr => first | (go_simp; done) | (go_simp; rfl)); (case hp => exact (Reps.one (show Kd.M Kd.string _ _ _ (⟨#[]⟩ : ByteArray) [.string (⟨#[]⟩ : ByteArray)] from rfl) (Reps.one (show Kd.M Kd.string _ _ _ (⟨#[65]⟩ : ByteArray) [.string (⟨#[65]⟩ : ByteArray)] from rfl) (Reps.one (show Kd.M Kd.string _ _ _ (⟨#[116, 111, 111, 108, 111, 110, 103]⟩ : ByteArray) [.string (⟨#[116, 111, 111, 108, 111, 110, 103]⟩ : ByteArray)] from rfl) (Reps.one (show Kd.M Kd.string _ _ _ (⟨#[97, 49]⟩ : ByteArray) [.string (⟨#[97, 49]⟩ : ByteArray)] from rfl) (Reps.one (show Kd.M Kd.string _ _ _ (⟨#[97, 98, 99, 100, 101, 102]⟩ : ByteArray) [.string (⟨#[97, 98, 99, 100, 101, 102]⟩ : ByteArray)] from rfl) (Reps.none _ _))))))); intro v118 w6 ho7 hb hg_ hnew_; clear hg_ hnew_; (first | rw [← Ny117.out] at ho7 | (simp only [Int.reduceToNat] at ho7; rw [← Ny117.out] at ho7)); have HO119 := Aside0.mk (Kd.R_lower ho7 (keep_size (w := w) (g := g) (row := none) (zk HK))); replace HK := Aside0.mk (KeepBut.trans (zk HK) (KeepBut.of_below hb g none) (.inl rfl)); replace HB := Aside0.mk (below_step (zj117_3 HB) hb); replace HI0 := Aside0.mk (IsS117.below (zi117_3 HI0) hb); clear hb ho7; obtain ⟨Ao8, co8, eo8⟩ := Kd.R_slice HO119.out; subst eo8) | ((with_reducible refine gate_callee (f := 64) rfl ?_); refine goesL_ (some 8) rfl rfl Try.func64 (by kernel_rfl) rfl #[.pointer (some ⟨g, 0, none⟩), .slice Ao8 y117.length co8] rfl zl ?_; (with_reducible refine (spec_reader_of.calls k g s0_0 t116 _ _ y117 t120 t121 w0 _ ?side1 ?side2 ?side3 ?side4 ?side5 A4.out).mono ?_); (case side1 => exact zi117_3 HI0); (case side2 => exact zj117_3 HB); (case side3 => repeat (first | exact (Kd.R_reads' HO119.out).2.2 | (with_reducible refine Kd.C_alloc ?_ _) | (with_reducible refine Kd.C_drewN ?_ _) | (with_reducible refine Kd.C_drew ?_))); (case side4 => exact (Kd.R_reads' HO119.out).2.1); (case side5 => exact far_slice (IsS117.own_ne HI0.out HO119.out (by decide))); rintro e w9 ⟨rfl, hi, hb, hk⟩; refine ⟨_, rfl, ?_⟩; replace HO119 := Aside0.mk (Kd.R_mono (Kd.R_keep (IsS117.apart (show IsS117 w0 _ g s0_0 t116 from zi117_3 HI0) (zo HO119) (by decide)) hk (fun _ h => h.2)) (fun _ h => h.1)); replace HK := Aside0.mk (KeepBut.trans (zk HK) hk (.inl rfl)); replace HB := Aside0.mk (hb); replace HI0 := Aside0.mk (hi); (try clear hb); (try clear hb2); (try clear hk); (try clear hi))); go_ret; exact ⟨by first | rfl | (simp [errW_none, errW_some] <;> rfl) | (simp [*, errW_none, errW_some] <;> rfl), by repeat (first | (with_reducible first | exact HI0.out | apply IsS117.alloc | apply IsS117.drewN | apply IsS117.drew | apply IsS117.set_1) | exact HI0.out), by repeat (first | (with_reducible first | exact HB.out | apply below_alloc | apply pw_below_drewN | apply below_drew1 | refine below_set ?_ (IsS117.ge HI0.out)) | exact HB.out), zk HK⟩
 ·rw [if_neg c3] at H; have c3b0 : (t115 == 0) = false := beq_eq_false_iff_ne.mpr c3; have c3b1 : (t115 != 0) = true := bne_iff_ne.mpr c3; replace H := Option.bind_eq_some_iff.mp H; obtain ⟨⟨t122, t123⟩, A100, H⟩ := H
  (try dsimp only at H)
  have A10 := Aside0.mk A100; clear A100; simp only [Option.some.injEq, Prod.mk.injEq] at H; obtain ⟨rfl, rfl⟩ := H; go_enter Try.func100, Try.ntmps100; go_wp2_with (first | ((with_reducible refine gate_callee (f := 66) rfl ?_); refine goesL_ (some 4) rfl rfl Try.func66 (by kernel_rfl) rfl #[.pointer (some ⟨g, 0, none⟩), .int .i64 16] rfl zl ?_; (with_reducible refine (spec_reader_pick.calls k g s0_0 s0_1 16 t115 t116 w0 _ ?side1 ?side2 A2.out).mono ?_); (case side1 => exact zi117_3 HI0); (case side2 => exact zj117_3 HB); rintro e w11 ⟨rfl, hi, hb, hk⟩; refine ⟨_, rfl, ?_⟩; replace HK := Aside0.mk (KeepBut.trans (zk HK) hk (.inl rfl)); replace HB := Aside0.mk (hb); replace HI0 := Aside0.mk (hi); (try clear hb); (try clear hb2); (try clear hk); (try clear hi)) | ((with_reducible refine gate_callee (f := 126) rfl ?_); refine goesL_ (some 10) rfl rfl Try.func126 (by kernel_rfl) rfl #[.pointer (some ⟨g, 0, none⟩)] rfl zl ?_; (with_reducible refine (spec_aName.calls k g s0_0 t116 t122 t123 w0 _ ?side1 ?side2 A10.out).mono ?_); (case side1 => exact zi117_3 HI0); (case side2 => exact zj117_3 HB); rintro e w12 ⟨rfl, hi, hb, hk⟩; refine ⟨_, rfl, ?_⟩; replace HK := Aside0.mk (KeepBut.trans (zk HK) hk (.inl rfl)); replace HB := Aside0.mk (hb); replace HI0 := Aside0.mk (hi); (try clear hb); (try clear hb2); (try clear hk); (try clear hi))); go_ret; exact ⟨by first | rfl | (simp [errW_none, errW_some] <;> rfl) | (simp [*, errW_none, errW_some] <;> rfl), by repeat (first | (with_reducible first | exact HI0.out | apply IsS117.alloc | apply IsS117.drewN | apply IsS117.drew | apply IsS117.set_1) | exact HI0.out), by repeat (first | (with_reducible first | exact HB.out | apply below_alloc | apply pw_below_drewN | apply below_drew1 | refine below_set ?_ (IsS117.ge HI0.out)) | exact HB.out), zk HK⟩

end Go.Proofs.Ytlpmggokgcphiaa.Q

namespace Go.Proofs.Ytlpmggokgcphiaa.Q
open Go.RowKit Go.Proofs.YtlpmggokgcphiaaL.PrintWords Go.Proofs.YtlpmggokgcphiaaL.PrintLast Go.Proofs.YtlpmggokgcphiaaL.PrintMore
attribute [local go_sem] max2_int min2_int max_two min_two max_three min_three max_four min_four   -- for this text's walks alone
set_option linter.unusedVariables false
set_option linter.unusedSimpArgs false

theorem zi117_8 {w0 W W' : World} {g : Nat} {f0 f0' : List Int} {f1 f1' : Int} (h : Aside0 (IsS117 w0 W g f0 f1)) (i : IsS117 w0 W g f0 f1 → IsS117 w0 W' g f0' f1' := by intro hh_; repeat (first | (with_reducible first | exact hh_ | apply IsS117.alloc | apply IsS117.drewN | apply IsS117.drew | apply IsS117.set_1 | refine IsS117.far ?_ (Aside0.out (by assumption)) _) | exact hh_)) : IsS117 w0 W' g f0' f1' := i h.out
theorem zj117_8 {B : Nat} {w W W' : World} (h : Aside0 (Below B w W)) (i : Below B w W → Below B w W' := by intro hh_; repeat (first | (with_reducible first | exact hh_ | apply below_alloc | apply pw_below_drewN | apply below_drew1 | refine below_set ?_ (IsS117.ge (Aside0.out (by assumption))) | refine below_set ?_ (Aside0.out (by assumption))) | exact hh_)) : Below B w W' := i h.out
/-! ### spec_aNumber: function 105 -/
def spec_aNumber.f (k : Nat) (s0_0 : List Int) (s0_1 : Int) : Option (Int × Int) := (spec_reader_one.f k s0_0 s0_1 (([1, 2, 3, 0, 5, (-1), 7, 99, (-99)] : List Int))).bind fun bt160 => (some (bt160.1, bt160.2))
theorem spec_aNumber.mono : ∀ a0 a1 k, LeO (spec_aNumber.f k a0 a1) (spec_aNumber.f (k + 1) a0 a1) := by
 intro a0 a1 k; unfold spec_aNumber.f
 repeat' first
   | (with_reducible exact spec_reader_one.mono _ _ _ _)
   | (with_reducible exact LeO.refl _)
   | (with_reducible exact LeO.none _)
   | (with_reducible refine LeO.ite ?_ ?_)
   | (with_reducible refine LeO.bind ?_ (fun _ => ?_))
   | exact spec_reader_one.mono _ _ _ _
   | exact LeO.none _
   | refine LeO.ite ?_ ?_
   | refine LeO.bind ?_ (fun _ => ?_)
set_option maxHeartbeats 8000000 in
set_option maxRecDepth 100000 in
theorem spec_aNumber.calls (k : Nat) (g : Nat) (s0_0 : List Int) (s0_1 : Int) (r1 : Int) (r2 : Int) (w0 w : World) (hI : IsS117 w0 w g s0_0 s0_1) (hB : Below w0.heap.size w0 w) (h : spec_aNumber.f k s0_0 s0_1 = some (r1, r2)) :
  Calls Try.prog 105 #[.pointer (some ⟨g, 0, none⟩)] w fun e w' => e = .returned (.int .i64 r1) ∧ IsS117 w0 w' g s0_0 r2 ∧ Below w0.heap.size w0 w' ∧ KeepBut w w' g none := by
 have HI0 := Aside0.mk hI; have HK := Aside0.mk (KeepBut.refl w g none); have HL := Aside0.mk hB.size; clear hI; have HW0 := Aside0.mk hB.size; have HB := Aside0.mk hB; clear hB; have H : ((spec_reader_one.f k s0_0 s0_1 (([1, 2, 3, 0, 5, (-1), 7, 99, (-99)] : List Int))).bind fun bt160 => (some (bt160.1, bt160.2))) = some (r1, r2) := h; clear h; obtain ⟨y157, hy157⟩ : ∃ y_ : List Int, y_ = (([1, 2, 3, 0, 5, (-1), 7, 99, (-99)] : List Int)) := ⟨_, rfl⟩
 replace H : ((spec_reader_one.f k s0_0 s0_1 y157).bind fun bt160 => (some (bt160.1, bt160.2))) = some (r1, r2) := by first | (rw [hy157]; with_reducible exact H) | (have H2_ := (Option.bind_some _ _).symm.trans H; rw [hy157]; with_reducible exact H2_) | (have H2_ := (Option.bind_some _ _).symm.trans H; with_reducible exact H2_) | with_reducible exact H | (rw [hy157]; exact H) | exact H
 have Ny157 := Aside0.mk hy157; clear hy157; replace H := Option.bind_eq_some_iff.mp H; obtain ⟨⟨t160, t161⟩, A20, H⟩ := H
 (try dsimp only at H)
 have A2 := Aside0.mk A20; clear A20; simp only [Option.some.injEq, Prod.mk.injEq] at H; obtain ⟨rfl, rfl⟩ := H; go_enter Try.func105, Try.ntmps105; go_wp2_with (first | ((with_reducible refine gate_dst (N := 4) rfl ?_); refine Kd.R_lit (Kd.int .i64) _ 3 ?hg (N := 4) ?hd (xs := ([1, 2, 3, 0, 5, (-1), 7, 99, (-99)] : List Int)) (inner := [.int .i64 1, .int .i64 2, .int .i64 3, .int .i64 0, .int .i64 5, .int .i64 (-1), .int .i64 7, .int .i64 99, .int .i64 (-99)]) (ok := fun _ => True) (okp := fun _ => True) ?hr ?hp (fun _ hk => hk) trivial (Below.refl _ _) (Nat.le_refl _) (by simp) ?_; (case hd => rfl); (case hg => rfl); (case hr => first | (go_simp; done) | (go_simp; rfl)); (case hp => exact (Reps.one (show Kd.M (Kd.int .i64) _ _ _ 1 [.int .i64 1] from rfl) (Reps.one (show Kd.M (Kd.int .i64) _ _ _ 2 [.int .i64 2] from rfl) (Reps.one (show Kd.M (Kd.int .i64) _ _ _ 3 [.int .i64 3] from rfl) (Reps.one (show Kd.M (Kd.int .i64) _ _ _ 0 [.int .i64 0] from rfl) (Reps.one (show Kd.M (Kd.int .i64) _ _ _ 5 [.int .i64 5] from rfl) (Reps.one (show Kd.M (Kd.int .i64) _ _ _ (-1) [.int .i64 (-1)] from rfl) (Reps.one (show Kd.M (Kd.int .i64) _ _ _ 7 [.int .i64 7] from rfl) (Reps.one (show Kd.M (Kd.int .i64) _ _ _ 99 [.int .i64 99] from rfl) (Reps.one (show Kd.M (Kd.int .i64) _ _ _ (-99) [.int .i64 (-99)] from rfl) (Reps.none _ _))))))))))); intro v158 w3 ho4 hb hg_ hnew_; clear hg_ hnew_; (first | rw [← Ny157.out] at ho4 | (simp only [Int.reduceToNat] at ho4; rw [← Ny157.out] at ho4)); have HO159 := Aside0.mk (Kd.R_lower ho4 (keep_size (w := w) (g := g) (row := none) (zk HK))); replace HK := Aside0.mk (KeepBut.trans (zk HK) (KeepBut.of_below hb g none) (.inl rfl)); replace HB := Aside0.mk (below_step (zj117_8 HB) hb); replace HI0 := Aside0.mk (IsS117.below (zi117_8 HI0) hb); clear hb ho4; obtain ⟨Ao5, co5, eo5⟩ := Kd.R_slice HO159.out; subst eo5) | ((with_reducible refine gate_callee (f := 65) rfl ?_); refine goesL_ (some 5) rfl rfl Try.func65 (by kernel_rfl) rfl #[.pointer (some ⟨g, 0, none⟩), .slice Ao5 y157.length co5] rfl zl ?_; (with_reducible refine (spec_reader_one.calls k g s0_0 s0_1 _ _ y157 t160 t161 w0 _ ?side1 ?side2 ?side3 ?side4 ?side5 A2.out).mono ?_); (case side1 => exact zi117_8 HI0); (case side2 => exact zj117_8 HB); (case side3 => repeat (first | exact (Kd.R_reads' HO159.out).2.2 | (with_reducible refine Kd.C_alloc ?_ _) | (with_reducible refine Kd.C_drewN ?_ _) | (with_reducible refine Kd.C_drew ?_))); (case side4 => exact (Kd.R_reads' HO159.out).2.1); (case side5 => exact far_slice (IsS117.own_ne HI0.out HO159.out (by decide))); rintro e w6 ⟨rfl, hi, hb, hk⟩; refine ⟨_, rfl, ?_⟩; replace HO159 := Aside0.mk (Kd.R_mono (Kd.R_keep (IsS117.apart (show IsS117 w0 _ g s0_0 s0_1 from zi117_8 HI0) (zo HO159) (by decide)) hk (fun _ h => h.2)) (fun _ h => h.1)); replace HK := Aside0.mk (KeepBut.trans (zk HK) hk (.inl rfl)); replace HB := Aside0.mk (hb); replace HI0 := Aside0.mk (hi); (try clear hb); (try clear hb2); (try clear hk); (try clear hi))); go_ret; exact ⟨by first | rfl | (simp [errW_none, errW_some] <;> rfl) | (simp [*, errW_none, errW_some] <;> rfl), by repeat (first | (with_reducible first | exact HI0.out | apply IsS117.alloc | apply IsS117.drewN | apply IsS117.drew | apply IsS117.set_1) | exact HI0.out), by repeat (first | (with_reducible first | exact HB.out | apply below_alloc | apply pw_below_drewN | apply below_drew1 | refine below_set ?_ (IsS117.ge HI0.out)) | exact HB.out), zk HK⟩

end Go.Proofs.Ytlpmggokgcphiaa.Q
