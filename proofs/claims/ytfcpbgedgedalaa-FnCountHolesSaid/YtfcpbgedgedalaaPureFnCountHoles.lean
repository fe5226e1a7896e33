-- written by px.py and merge.py (programs of this claim's), over the kit's print. Not trusted: Lean checks it.
import Derived.Test.YtfcpbgedgedalaaLMore
import Derived.Test.YtfcpbgedgedalaaN0FnCountHoles
import Derived.Test.YtfcpbgedgedalaaM4FnCountHoles
import Derived.Test.YtfcpbgedgedalaaM2FnCountHoles
import Derived.Test.YtfcpbgedgedalaaM3FnCountHoles
import Derived.Test.YtfcpbgedgedalaaM5FnCountHoles
import Derived.Test.YtfcpbgedgedalaaM6FnCountHoles
import Derived.Test.YtfcpbgedgedalaaM7FnCountHoles
namespace Go.Proofs.Ytfcpbgedgedalaa.Pure
open Go.RowKit Go.Proofs.Ytfcpbgedgedalaa.Q Go.Proofs.YtfcpbgedgedalaaL.PrintWords Go.Proofs.YtfcpbgedgedalaaL.PrintLast Go.Proofs.YtfcpbgedgedalaaL.PrintMore
set_option linter.unusedVariables false
set_option linter.unusedSimpArgs false
def zPL : PL := ⟨false, 0⟩
def fillZ (x : PL) : PL := if x.f0 = true then zPL else x
theorem map_take_step (l : List PL) (i : Nat) (h : i < l.length) : (l.take (i + 1)).map fillZ ++ l.drop (i + 1) = ((l.take i).map fillZ ++ l.drop i).set i (fillZ (l.getD i plz)) := by
  have hlen : ((l.take i).map fillZ).length = i := by rw [List.length_map, List.length_take]; omega
  rw [List.set_append_right i _ (by omega), hlen, Nat.sub_self, List.drop_eq_getElem_cons h, List.set_cons_zero, List.take_succ_eq_append_getElem h, List.map_append, List.getD_eq_getElem?_getD, List.getElem?_eq_getElem h]
  simp
theorem fill_at (l : List PL) (i : Nat) (h : i < l.length) : ((l.take i).map fillZ ++ l.drop i).getD i plz = l.getD i plz := by
  have hlen : ((l.take i).map fillZ).length = i := by rw [List.length_map, List.length_take]; omega
  rw [List.getD_eq_getElem?_getD, List.getElem?_append_right (by omega), hlen, Nat.sub_self, List.getElem?_drop, Nat.add_zero, ← List.getD_eq_getElem?_getD]
theorem set_same (q : List PL) (i : Nat) (h : i < q.length) : q.set i (q.getD i plz) = q := by
  rw [List.getD_eq_getElem?_getD, List.getElem?_eq_getElem h]
  exact List.set_getElem_self h
theorem fill_valid (l : List PL) (ns : List PR) (hl : l.length ≤ 8) (hn : ns.length ≤ 8) (hs : ∀ x ∈ ns, x.f0.size ≤ 2000000) (hv : vholes l ns = true) : vholes (l.map fillZ) ns = true := by
  unfold vholes at *
  simp only [Bool.and_eq_true, decide_eq_true_eq, List.all_eq_true] at *
  refine ⟨fun x hx => ?_, by rw [List.length_map]; omega, hv.2.2⟩
  obtain ⟨y, hy, rfl⟩ := List.mem_map.1 hx
  unfold fillZ
  split
  · decide
  · exact hv.1 y hy
theorem p_shift_l1 (l : List PL) (ns : List PR) (hl : l.length ≤ 8) (hn : ns.length ≤ 8) (hs : ∀ x ∈ ns, x.f0.size ≤ 2000000) (hv : vholes l ns = true) (k : Nat) (hk : 9000001 ≤ k) : impl_ShiftHoles.l1 k (l.map fillZ) [] [] (([] : List PR).length : Int) 0 [] ns = some (l.map fillZ, ns, true) := by
  obtain ⟨k, rfl⟩ : ∃ m, k = m + 1 := ⟨k - 1, by omega⟩
  simp only [impl_ShiftHoles.l1]
  unfold impl_Place_128.f impl_Pair_63.f
  have hlen : (l.map fillZ).length = l.length := List.length_map ..
  rw [if_neg (by simp), if_pos (by simp; omega), List.append_nil, if_pos (by omega), if_pos (by omega)]
  simp only [Option.bind_some]
  rw [p_implHoles _ ns (by omega) hs k (by omega), fill_valid l ns hl hn hs hv]
  rfl
theorem p_shift_l0 (l : List PL) (ns : List PR) (hl : l.length ≤ 8) (hn : ns.length ≤ 8) (hs : ∀ x ∈ ns, x.f0.size ≤ 2000000) (hv : vholes l ns = true) : ∀ (d k i : Nat) (r : List PL), i + d = l.length → 9000002 + d ≤ k → r = List.replicate ((l.drop i).filter (·.f0)).length zPL →
    ∀ (h0 : List PL) (g0 : List PL), impl_ShiftHoles.l0 k ((l.take i).map fillZ ++ l.drop i) r (l.length : Int) (i : Int) h0 ns g0 [] = some (l.map fillZ, ns, true) := by
  intro d
  induction d with
  | zero =>
    intro k i r h hk hr h0 g0
    obtain ⟨k, rfl⟩ : ∃ m, k = m + 1 := ⟨k - 1, by omega⟩
    simp only [impl_ShiftHoles.l0]
    rw [List.drop_of_length_le (by omega)] at hr
    have hr : r = [] := by simpa using hr
    rw [if_neg (by omega), hr, List.drop_of_length_le (by omega), List.take_of_length_le (by omega), List.append_nil]
    exact p_shift_l1 l ns hl hn hs hv k (by omega)
  | succ d ih =>
    intro k i r h hk hr h0 g0
    obtain ⟨k, rfl⟩ : ∃ m, k = m + 1 := ⟨k - 1, by omega⟩
    simp only [impl_ShiftHoles.l0]
    have hlen : ((l.take i).map fillZ ++ l.drop i).length = l.length := by rw [List.length_append, List.length_map, List.length_take, List.length_drop]; omega
    have st := map_take_step l i (by omega)
    rw [drop_getD l plz i (by omega), List.filter_cons] at hr
    rw [if_pos (by omega), if_pos (by omega), if_pos (by omega), rdpl, fill_at l i (by omega), wrap_succ (n := l.length) (by omega) (by omega)]
    by_cases hx : (l.getD i plz).f0 = true
    · rw [if_pos hx] at hr ⊢
      rw [List.length_cons, List.replicate_succ] at hr
      rw [hr, List.length_cons, if_pos (by omega), if_pos (by omega), List.drop_succ_cons, List.drop_zero, Int.toNat_natCast]
      have e0 : rd_T100 (zPL :: List.replicate ((l.drop (i + 1)).filter (·.f0)).length zPL) 0 = zPL := by
        have := rdpl (zPL :: List.replicate ((l.drop (i + 1)).filter (·.f0)).length zPL) 0
        rw [show ((0 : Nat) : Int) = 0 from rfl] at this
        rw [this]
        rfl
      have e1 : (⟨(rd_T100 (zPL :: List.replicate ((l.drop (i + 1)).filter (·.f0)).length zPL) 0).f0, (rd_T100 (zPL :: List.replicate ((l.drop (i + 1)).filter (·.f0)).length zPL) 0).f1⟩ : PL) = fillZ (l.getD i plz) := by
        rw [e0]
        unfold fillZ
        rw [if_pos hx]
      rw [e1, ← st]
      exact ih k (i + 1) _ (by omega) (by omega) rfl h0 g0
    · rw [if_neg hx] at hr ⊢
      have e2 : (l.take i).map fillZ ++ l.drop i = (l.take (i + 1)).map fillZ ++ l.drop (i + 1) := by
        rw [st, show fillZ (l.getD i plz) = l.getD i plz from by unfold fillZ; rw [if_neg hx]]
        have := set_same ((l.take i).map fillZ ++ l.drop i) i (by omega)
        rw [fill_at l i (by omega)] at this
        exact this.symm
      rw [e2]
      exact ih k (i + 1) _ (by omega) (by omega) hr h0 g0
theorem p_holes (l : List PL) (ns : List PR) (hl : l.length ≤ 8) (hn : ns.length ≤ 8) (hs : ∀ x ∈ ns, x.f0.size ≤ 2000000) (hv : vholes l ns = true) (k : Nat) (hk : 12000000 ≤ k) : impl_Holes_holes.f k l ns = some ((l.filter (·.f0)).length : Int) := by
  have h := p_implCountH l ns (by omega) (by omega) hs k hk
  unfold impl_CountHoles.f countH at h
  rw [p_implHoles l ns (by omega) hs k (by omega), Option.bind_some, hv, if_pos rfl, if_pos rfl] at h
  cases he : impl_Holes_holes.f k l ns with
  | none => rw [he] at h; cases h
  | some v => rw [he] at h; exact h
theorem rep_valid (m : Nat) (hm : m ≤ 8) : vholes (List.replicate m zPL) [] = true := by
  unfold vholes
  rw [Bool.and_eq_true, Bool.and_eq_true, List.all_eq_true, decide_eq_true_eq, List.length_replicate]
  refine ⟨fun x hx => ?_, hm, by decide⟩
  rw [List.eq_of_mem_replicate hx]
  decide
theorem p_shift (l : List PL) (ns : List PR) (hl : l.length ≤ 8) (hn : ns.length ≤ 8) (hs : ∀ x ∈ ns, x.f0.size ≤ 2000000) (hv : vholes l ns = true) (m : Nat) (hm : m ≤ 8) (hc : m ≤ (l.filter (·.f0)).length) (k : Nat) (hk : 12000100 ≤ k) : impl_ShiftHoles.f k l ns (List.replicate m zPL) [] = some (if m < (l.filter (·.f0)).length then ([], [], false) else (l.map fillZ, ns, true)) := by
  obtain ⟨k, rfl⟩ : ∃ m, k = m + 1 := ⟨k - 1, by omega⟩
  unfold impl_ShiftHoles.f
  rw [p_implHoles l ns (by omega) hs (k + 1) (by omega), Option.bind_some, hv, if_pos rfl, p_implHoles _ [] (by simp) (by simp) (k + 1) (by omega), Option.bind_some, rep_valid m hm, if_pos rfl, p_holes l ns hl hn hs hv (k + 1) (by omega), Option.bind_some, List.length_replicate]
  simp only [impl_ShiftHoles.j0]
  by_cases h1 : m < (l.filter (·.f0)).length
  · rw [if_pos h1, if_pos (decide_eq_true (by omega))]
  · rw [if_neg h1, if_neg (by simp; omega)]
    unfold impl_Place_128.f
    rw [if_pos (by omega), Option.bind_some]
    have := p_shift_l0 l ns hl hn hs hv l.length k 0 (List.replicate m zPL) (by omega) (by omega) (by rw [List.drop_zero]; congr 1; omega) l (List.replicate m zPL)
    rw [List.take_zero, List.map_nil, List.nil_append, List.drop_zero] at this
    exact this
theorem p_checked1 (ps : List Int) (l : List PR) (b : Bool) (hp : ps.length ≤ 2000000) (hl : l.length ≤ 2000000) (hs : ∀ x ∈ l, x.f0.size ≤ 2000000) (k : Nat) (hk : 9000000 ≤ k) :
    impl_checked.f k ps l b = some (if (b && vflat ps l) = true then (ps, l, true) else ([], [], false)) := by
  unfold impl_checked.f
  cases b with
  | false => rfl
  | true =>
    unfold impl_Flat_copyOf.f impl_clone_int.f impl_Pair_63.f
    rw [if_pos rfl, p_implFlat ps l hl hs k hk, Option.bind_some, Bool.true_and]
    split
    · rw [if_pos (by omega), if_pos (by omega)]
      rfl
    · rfl
theorem p_fill_l1 (q : List PL) (ns : List PR) (b : Bool) (hq : q.length ≤ 8) (hn : ns.length ≤ 8) (hs : ∀ x ∈ ns, x.f0.size ≤ 2000000) : ∀ (d k i : Nat) (acc : List Int) (q0 : List PL), i + d = q.length → 9000001 + d ≤ k → acc = (q.take i).map (·.f1) →
    impl_FillHoles.l1 k b q (q.length : Int) (i : Int) q0 ns acc = some (if (b && vflat (q.map (·.f1)) ns) = true then (q.map (·.f1), ns, true) else ([], [], false)) := by
  intro d
  induction d with
  | zero =>
    intro k i acc q0 h hk ha
    obtain ⟨k, rfl⟩ : ∃ m, k = m + 1 := ⟨k - 1, by omega⟩
    simp only [impl_FillHoles.l1]
    rw [List.take_of_length_le (by omega)] at ha
    have hlen : acc.length = q.length := by rw [ha, List.length_map]
    rw [if_neg (by omega), p_checked1 acc ns b (by omega) (by omega) hs k (by omega), Option.bind_some, ha]
  | succ d ih =>
    intro k i acc q0 h hk ha
    obtain ⟨k, rfl⟩ : ∃ m, k = m + 1 := ⟨k - 1, by omega⟩
    simp only [impl_FillHoles.l1]
    have hlen : acc.length = i := by rw [ha, List.length_map, List.length_take]; omega
    rw [if_pos (by omega), if_pos (by omega), if_pos (by omega), if_pos (by omega), rdpl, wrap_succ (n := q.length) (by omega) (by omega)]
    refine ih k (i + 1) _ q0 (by omega) (by omega) ?_
    rw [ha, List.take_succ_eq_append_getElem (by omega), List.map_append, List.getD_eq_getElem?_getD, List.getElem?_eq_getElem (by omega)]
    rfl
theorem p_fill_l0 (l : List PL) (ns : List PR) (m : Nat) (hm : m ≤ 8) (R : List PL × List PR × Bool) (kr : Nat) (hR : ∀ k, kr ≤ k → impl_ShiftHoles.f k l ns (List.replicate m zPL) [] = some R) : ∀ (d k i : Nat), i + d = m → kr + d < k →
    ∃ k', k ≤ k' + d + 1 ∧ impl_FillHoles.l0 k (List.replicate m 0) (m : Int) (i : Int) l ns (List.replicate i zPL) [] = impl_FillHoles.l1 k' R.2.2 R.1 (R.1.length : Int) 0 R.1 R.2.1 [] := by
  intro d
  induction d with
  | zero =>
    intro k i h hk
    obtain ⟨k, rfl⟩ : ∃ m, k = m + 1 := ⟨k - 1, by omega⟩
    obtain rfl : i = m := by omega
    refine ⟨k, by omega, ?_⟩
    simp only [impl_FillHoles.l0]
    rw [if_neg (by omega), hR k (by omega), Option.bind_some]
  | succ d ih =>
    intro k i h hk
    obtain ⟨k, rfl⟩ : ∃ m, k = m + 1 := ⟨k - 1, by omega⟩
    obtain ⟨k', h1, h2⟩ := ih k (i + 1) (by omega) (by omega)
    refine ⟨k', by omega, ?_⟩
    simp only [impl_FillHoles.l0]
    have e0 : rd (List.replicate m 0) (i : Int) = 0 := by
      rw [rd_nat, List.getD_eq_getElem?_getD, List.getElem?_replicate, if_pos (by omega)]
      rfl
    rw [if_pos (by omega), if_pos (by omega), if_pos (by rw [List.length_replicate]; omega), if_pos (by rw [List.length_replicate]; omega), e0, wrap_succ (n := m) (by omega) (by omega), ← h2, List.replicate_succ']
    rfl
theorem p_fill (l : List PL) (ns : List PR) (hl : l.length ≤ 8) (hn : ns.length ≤ 8) (hs : ∀ x ∈ ns, x.f0.size ≤ 2000000) (hv : vholes l ns = true) (m : Nat) (hm : m ≤ 8) (hc : m ≤ (l.filter (·.f0)).length) (k : Nat) (hk : 13000000 ≤ k) :
    ∃ ps q, impl_FillHoles.f k l ns (List.replicate m 0) [] = some (ps, q, decide (m = (l.filter (·.f0)).length)) := by
  have v0 : vflat (List.replicate m 0) [] = true := by
    unfold vflat
    have : (List.replicate m (0 : Int)).all val = true := by
      rw [List.all_eq_true]
      intro x hx
      rw [List.eq_of_mem_replicate hx]
      decide
    rw [this]
    simp [hm]
  unfold impl_FillHoles.f
  rw [p_implFlat _ [] (by simp) (by simp) k (by omega), Option.bind_some, v0, if_pos rfl, List.length_replicate]
  obtain ⟨k', h1, h2⟩ := p_fill_l0 l ns m hm _ 12000100 (fun k hk => p_shift l ns hl hn hs hv m hm hc k hk) m k 0 (by omega) (by omega)
  rw [List.replicate_zero, show ((0 : Nat) : Int) = 0 from rfl] at h2
  rw [h2]
  by_cases h : m < (l.filter (·.f0)).length
  · rw [if_pos h, decide_eq_false (by omega)]
    have := p_fill_l1 [] [] false (by simp) (by simp) (by simp) 0 k' 0 [] [] rfl (by omega) rfl
    rw [show ((0 : Nat) : Int) = 0 from rfl] at this
    exact ⟨_, _, this⟩
  · rw [if_neg h, decide_eq_true (by omega)]
    have hlen : (l.map fillZ).length = l.length := List.length_map ..
    have := p_fill_l1 (l.map fillZ) ns true (by omega) hn hs (l.map fillZ).length k' 0 [] (l.map fillZ) (by omega) (by omega) rfl
    rw [show ((0 : Nat) : Int) = 0 from rfl] at this
    have vf : vflat ((l.map fillZ).map (·.f1)) ns = true := by
      have a := fill_valid l ns hl hn hs hv
      have b := hv
      unfold vholes at a b
      unfold vflat at b ⊢
      simp only [Bool.and_eq_true, decide_eq_true_eq] at a b ⊢
      refine ⟨b.2.2.1, ⟨⟨?_, b.2.2.2.1.1.2⟩, by rw [List.length_map]; omega⟩, hn⟩
      rw [List.all_eq_true] at *
      intro x hx
      obtain ⟨y, hy, rfl⟩ := List.mem_map.1 hx
      have := a.1 y hy
      unfold placeOk at this
      rw [Bool.and_eq_true] at this
      exact this.1
    rw [vf] at this
    exact ⟨_, _, this⟩
theorem FnCountHoles : laws_FnCountHoles.Pure := by
  intro l hl hs hb
  obtain ⟨K, hK⟩ : ∃ K : Nat, K = 30000000 := ⟨_, rfl⟩
  refine ⟨K + 10, ?_⟩
  unfold laws_FnCountHoles.f
  by_cases h : (l.length : Int) > 1048576
  · rw [if_pos h]
  rw [if_neg h]
  unfold spec_DrawCountHoles.f
  obtain ⟨m, e, hm⟩ := p_newReader l hb
  rw [e, Option.bind_some]
  dsimp only
  obtain ⟨hp, ns, p', e, h1, h2, h3, h4, h5⟩ := p_someHoles hm (K + 10) (by omega) (p := 0) (by omega) (by omega)
  have h5' : ∀ x ∈ ns, x.f0.size ≤ 2000000 := fun x hx => Nat.le_trans (h5 x hx) (by omega)
  rw [e, Option.bind_some, Option.bind_some]
  dsimp only
  rw [p_implCountH hp ns (by omega) (by omega) h5' (K + 10) (by omega), Option.bind_some, p_specCountH hp ns (by omega) (by omega) h5' (K + 10) (by omega), Option.bind_some, if_pos rfl]
  simp only [laws_FnCountHoles.j0]
  rw [p_specCountH hp ns (by omega) (by omega) h5' (K + 9) (by omega), Option.bind_some]
  unfold countH
  cases hv : vholes hp ns with
  | false =>
    have e0 : (if false = true then ((hp.filter (·.f0)).length : Int) else -1) = -1 := if_neg (by decide)
    rw [e0, if_pos (by decide)]
    rfl
  | true =>
    obtain ⟨n, hn⟩ : ∃ n, (hp.filter (·.f0)).length = n := ⟨_, rfl⟩
    have hc : n ≤ hp.length := hn ▸ List.length_filter_le _ hp
    rw [if_pos rfl, hn]
    obtain ⟨a1, b1, e1⟩ := p_fill hp ns h3 (by omega) h5' hv n (by omega) (by rw [hn]; exact Nat.le_refl _) (K + 9) (by omega)
    rw [hn, decide_eq_true rfl] at e1
    rw [if_neg (by simp), if_pos (by omega), Int.toNat_natCast, if_pos (by omega), e1, Option.bind_some]
    dsimp only
    by_cases h0 : (n : Int) > 0
    · have w : wrap64 ((n : Int) - 1) = ((n - 1 : Nat) : Int) := by rw [wrap_in (by omega) (by omega)]; omega
      obtain ⟨a2, b2, e2⟩ := p_fill hp ns h3 (by omega) h5' hv (n - 1) (by omega) (by rw [hn]; omega) (K + 9) (by omega)
      rw [hn, decide_eq_false (by omega)] at e2
      rw [if_pos h0, w, if_pos (by omega), Int.toNat_natCast, if_pos (by omega), e2, Option.bind_some, if_pos (by omega), if_pos rfl]
      rfl
    · rw [if_neg h0, if_pos (by omega), if_pos rfl]
      rfl
end Go.Proofs.Ytfcpbgedgedalaa.Pure
