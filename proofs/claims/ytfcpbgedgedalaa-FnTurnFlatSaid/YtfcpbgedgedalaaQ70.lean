-- written by px.py (a program of this claim's), over the kit's print. Not trusted: Lean checks it.
import Derived.Test.YtfcpbgedgedalaaQ0
import Derived.Test.YtfcpbgedgedalaaQ15
namespace Go.Proofs.Ytfcpbgedgedalaa.Q
open Go.RowKit Go.Proofs.YtfcpbgedgedalaaL.PrintWords Go.Proofs.YtfcpbgedgedalaaL.PrintLast Go.Proofs.YtfcpbgedgedalaaL.PrintMore
attribute [local go_sem] max2_int min2_int max_two min_two max_three min_three max_four min_four   -- for this text's walks alone
set_option linter.unusedVariables false
set_option linter.unusedSimpArgs false

/-! ### slices.IndexFunc at impl.Turn: function 132 -/
set_option maxHeartbeats 8000000 in
set_option maxRecDepth 100000 in
theorem ix132.calls (p : S107 → Bool) (g : Nat) (lb : Array Value) (eg : ∀ args w, (callFunc g args).run Try.prog w = .ok (.enter g args) w) (A0 : Option Addr) (c0 : Nat) (l0 : List (S107)) (w : World)
  (hp : PxPred Try.prog g lb (fun x : S107 => .agg #[.string x.f0, .string x.f1]) p w) (hr0 : Kd.C k107 w A0 l0.length l0) :
  Calls Try.prog 132 #[.slice A0 l0.length c0, .func (.func g) #[] lb] w fun e w' => e = .returned (.int .i64 (pxIdx p l0)) ∧ Below w.heap.size w w' := by
 have HR := Aside0.mk hr0
 clear hr0
 have hbig : l0.length ≤ 9223372036854775807 := HR.out.2.1
 have hu107 := Try.underlying107
 go_enter Try.func132, Try.ntmps132
 go_wp2
 go_loopg [5, 8] l0.length (fun gg _ s8 wr => ∃ kk : Nat, kk ≤ l0.length ∧ l0.length - kk ≤ gg ∧ s8 = .int .i64 kk ∧ Aside0 (Below w.heap.size w wr) ∧ Aside0 (∀ j, j < kk → p (l0.getD j z107) = false))
 case atStart => exact ⟨0, Nat.zero_le _, by omega, rfl, ⟨Below.refl _ w⟩, ⟨fun j hj => absurd hj (Nat.not_lt_zero _)⟩⟩
 case round =>
  obtain ⟨kk, hkk, hg, rfl, BW, A⟩ := hrel
  by_cases hlt : kk < l0.length
  ·have hltz : (kk : Int) < (l0.length : Int) := by omega
   have hz0 : (0 : Int) ≤ (kk : Int) := by omega
   obtain ⟨ad, e, hx0, hx1⟩ := at_T107 (Kd.C_below HR.out BW.out) (kk : Int) hz0 hltz
   simp only [Int.toNat_natCast] at hx0 hx1
   cases e
   have hcall := hp wr (rd_T107 l0 (kk : Int)) BW.out
   clear hp
   have B := Aside0.mk (show rd_T107 l0 (kk : Int) = l0.getD kk z107 from rfl)
   generalize hy : rd_T107 l0 (kk : Int) = y at hx0 hx1 hcall B
   clear hy
   cases hq : p y with
   | true =>
    rw [hq] at hcall
    go_wp2_with fail
    refine hcall.mono ?_
    rintro e w' ⟨rfl, hb'⟩
    clear hcall
    go_wp2
    go_ret
    refine ⟨?_, below_then BW.out BW.out.size hb'⟩
    rw [pxIdx_hit p l0 z107 kk hlt (by rw [← B.out]; exact hq) A.out]; rfl
   | false =>
    rw [hq] at hcall
    go_wp2_with fail
    refine hcall.mono ?_
    rintro e w' ⟨rfl, hb'⟩
    clear hcall
    go_wp2
    go_roundg (l0.length - (kk + 1))
    case measure => omega
    case rel =>
     refine ⟨kk + 1, by omega, by omega, by go_num, ⟨below_then BW.out BW.out.size hb'⟩, ⟨fun j hj => ?_⟩⟩
     by_cases e : j = kk
     ·subst e
      rw [← B.out]; exact hq
     ·exact A.out j (by omega)
  ·have hltz : ¬ (kk : Int) < (l0.length : Int) := by omega
   have : kk = l0.length := by omega
   subst this
   go_wp2
   go_ret
   refine ⟨?_, BW.out⟩
   rw [pxIdx_miss p l0 z107 A.out]; rfl
/-! ### slices.ContainsFunc at impl.Turn: function 83 -/
set_option maxHeartbeats 8000000 in
set_option maxRecDepth 100000 in
theorem cf83.calls (p : S107 → Bool) (g : Nat) (lb : Array Value) (eg : ∀ args w, (callFunc g args).run Try.prog w = .ok (.enter g args) w) (A0 : Option Addr) (c0 : Nat) (l0 : List (S107)) (w : World)
  (hp : PxPred Try.prog g lb (fun x : S107 => .agg #[.string x.f0, .string x.f1]) p w) (hr0 : Kd.C k107 w A0 l0.length l0) :
  Calls Try.prog 83 #[.slice A0 l0.length c0, .func (.func g) #[] lb] w fun e w' => e = .returned (.bool (l0.any p)) ∧ Below w.heap.size w w' := by
 rw [← pxIdx_any p l0]
 go_enter Try.func83, Try.ntmps83
 go_wp2_with fail
 refine (ix132.calls p g lb eg A0 c0 l0 w hp hr0).mono ?_
 rintro e w' ⟨rfl, hb'⟩
 clear hp hr0
 go_wp2
 go_ret
 exact ⟨by first | rfl | simp, hb'⟩
theorem impl_isName.eqL (s : ByteArray) (hs : s.size ≤ 9223372036854775807) : ∀ (d k n : Nat), n ≤ s.size → s.size - n = d → d < k →
  impl_isName.l0 k s (n : Int) = some ((s.data.toList.drop n).all (fun c => decide (97 ≤ c.toNat) && decide (c.toNat ≤ 122)) && (decide (1 ≤ s.size) && decide (s.size ≤ 6))) := by
 intro d
 induction d with
 | zero =>
  intro k n hn hd hk
  obtain ⟨k, rfl⟩ : ∃ m, k = m + 1 := ⟨k - 1, by omega⟩
  simp only [impl_isName.l0]
  rw [if_neg (by omega), List.drop_of_length_le (by simp; omega)]
  unfold impl_in.f
  by_cases h : (s.size : Int) ≥ 1
  ·have h' : 1 ≤ s.size := by omega
   have e : decide ((s.size : Int) ≤ 6) = decide (s.size ≤ 6) := by rw [decide_eq_decide]; omega
   simp [h, h', e]
  ·have h' : ¬ 1 ≤ s.size := by omega
   simp [h, h']
 | succ d ih =>
  intro k n hn hd hk
  obtain ⟨k, rfl⟩ : ∃ m, k = m + 1 := ⟨k - 1, by omega⟩
  have hlt : n < s.size := by omega
  simp only [impl_isName.l0]
  rw [if_pos (by omega), if_pos (by omega), bt_nat s n hlt, wrap_succ hlt hs, ih k (n + 1) (by omega) (by omega) (by omega), bt_drop s n hlt, List.all_cons]
  by_cases h1 : (s[n].toNat : Int) < 97
  ·have h1' : ¬ 97 ≤ s[n].toNat := by omega
   rw [if_pos h1]
   simp [h1']
  ·have h1' : 97 ≤ s[n].toNat := by omega
   rw [if_neg h1]
   by_cases h2 : (s[n].toNat : Int) > 122
   ·have h2' : ¬ s[n].toNat ≤ 122 := by omega
    rw [if_pos h2]
    simp [h2']
   ·have h2' : s[n].toNat ≤ 122 := by omega
    rw [if_neg h2]
    simp [h1', h2']
theorem impl_isName.eq (s : ByteArray) (hs : s.size ≤ 9223372036854775807) (k : Nat) (hk : s.size < k) : impl_isName.f k s = some (pxName s) := by
 unfold impl_isName.f pxName
 exact impl_isName.eqL s hs s.size k 0 (by omega) (by omega) hk
def pxTurnOk (l : List S107) (i : Nat) : Bool :=
 pxName (l.getD i z107).f0 && l.any (fun x => x.f0.toList == (l.getD i z107).f1.toList) && !((l.take i).any fun x => x.f0.toList == (l.getD i z107).f0.toList || x.f1.toList == (l.getD i z107).f1.toList)
/-- What ValidTurns computes. -/
def pxTurns (l : List S107) : Bool := (List.range l.length).all (pxTurnOk l) && decide (l.length ≤ 8)
theorem pxTurns_no (l : List S107) (i : Nat) (hi : i < l.length) (h : pxTurnOk l i = false) : pxTurns l = false := by
 unfold pxTurns
 have : (List.range l.length).all (pxTurnOk l) = false := by
  rw [List.all_eq_false]
  exact ⟨i, List.mem_range.2 hi, by simp [h]⟩
 rw [this]
 rfl
theorem pxTurns_end (l : List S107) (h : ∀ j, j < l.length → pxTurnOk l j = true) : pxTurns l = decide (l.length ≤ 8) := by
 unfold pxTurns
 have : (List.range l.length).all (pxTurnOk l) = true := by
  rw [List.all_eq_true]
  intro j hj
  exact h j (List.mem_range.1 hj)
 rw [this]
 rfl
set_option maxHeartbeats 8000000 in
set_option maxRecDepth 100000 in
theorem impl_ValidTurns.pred1 (a b : ByteArray) (B : Nat) (w : World) (h1 : w.cell? ⟨B, 1, none⟩ = some (.string b)) :
  PxPred Try.prog 94 #[.pointer (some ⟨B, 0, none⟩)] (fun x : S107 => .agg #[.string x.f0, .string x.f1]) (fun x : S107 => x.f0.toList == b.toList) w := by
 intro W x hb
 have h1' : W.cell? ⟨B, 1, none⟩ = some (.string b) := (hb.cell (p := ⟨B, 1, none⟩) (World.block_lt_of_cell? w _ h1)).trans h1
 have hB' : B < W.heap.size := World.block_lt_of_cell? W _ h1'
 clear h1
 show Calls Try.prog 94 #[.agg #[.string x.f0, .string x.f1], .pointer (some ⟨B, 0, none⟩)] W _
 have hu107 := Try.underlying107
 go_enter Try.func94, Try.ntmps94
 go_wp2
 go_ret
 exact ⟨rfl, px_alloc _ _⟩
set_option maxHeartbeats 8000000 in
set_option maxRecDepth 100000 in
theorem impl_ValidTurns.pred2 (a b : ByteArray) (B : Nat) (w : World) (h0 : w.cell? ⟨B, 0, none⟩ = some (.string a)) (h1 : w.cell? ⟨B, 1, none⟩ = some (.string b)) :
  PxPred Try.prog 95 #[.pointer (some ⟨B, 0, none⟩)] (fun x : S107 => .agg #[.string x.f0, .string x.f1]) (fun x : S107 => x.f0.toList == a.toList || x.f1.toList == b.toList) w := by
 intro W x hb
 have h0' : W.cell? ⟨B, 0, none⟩ = some (.string a) := (hb.cell (p := ⟨B, 0, none⟩) (World.block_lt_of_cell? w _ h0)).trans h0
 have h1' : W.cell? ⟨B, 1, none⟩ = some (.string b) := (hb.cell (p := ⟨B, 1, none⟩) (World.block_lt_of_cell? w _ h1)).trans h1
 have hB' : B < W.heap.size := World.block_lt_of_cell? W _ h1'
 clear h0 h1
 show Calls Try.prog 95 #[.agg #[.string x.f0, .string x.f1], .pointer (some ⟨B, 0, none⟩)] W _
 have hu107 := Try.underlying107
 cases hq : (x.f0.toList == a.toList)
 ·go_enter Try.func95, Try.ntmps95
  go_wp2
  go_ret
  exact ⟨by first | rfl | simp [hq], px_alloc _ _⟩
 ·go_enter Try.func95, Try.ntmps95
  go_wp2
  go_ret
  exact ⟨by first | rfl | simp [hq], px_alloc _ _⟩
set_option maxHeartbeats 8000000 in
set_option maxRecDepth 100000 in
theorem impl_ValidTurns.cfn (p : S107 → Bool) (g : Nat) (lb : Array Value) (eg : ∀ args w, (callFunc g args).run Try.prog w = .ok (.enter g args) w) (A0 : Option Addr) (c0 n : Nat) (l0 : List S107) (hn : l0.length = n) (w : World)
  (hp : PxPred Try.prog g lb (fun x : S107 => .agg #[.string x.f0, .string x.f1]) p w) (hr0 : Kd.C k107 w A0 l0.length l0) :
  Calls Try.prog 83 #[.slice A0 n c0, .func (.func g) #[] lb] w fun e w' => e = .returned (.bool (l0.any p)) ∧ Below w.heap.size w w' := by
 subst hn
 exact cf83.calls p g lb eg A0 c0 l0 w hp hr0
/-! ### impl_ValidTurns: function 46 (a contract of our own) -/
def impl_ValidTurns.f (l0 : List (S107)) : Option (Bool) := if l0.all (fun x => decide (x.f0.size ≤ 9223372036854775807)) = true then some (pxTurns l0) else none
set_option maxHeartbeats 8000000 in
set_option maxRecDepth 100000 in
theorem impl_ValidTurns.calls (A0 : Option Addr) (c0 : Nat) (l0 : List (S107)) (r : Bool) (w : World) (hr0 : Kd.C k107 w A0 l0.length l0) (hc0 : l0.length ≤ c0) (h : impl_ValidTurns.f l0 = some r) :
  Calls Try.prog 46 #[.slice A0 l0.length c0] w fun e w' => e = .returned (.bool r) ∧ Below w.heap.size w w' := by
 have hl : ∀ j, j < l0.length → (l0.getD j z107).f0.size ≤ 9223372036854775807 := by
  intro j hj
  unfold impl_ValidTurns.f at h
  split at h
  ·rename_i hh
   rw [List.all_eq_true] at hh
   rw [List.getD_eq_getElem?_getD, List.getElem?_eq_getElem hj]
   simpa using hh _ (List.getElem_mem hj)
  ·cases h
 have hr : r = pxTurns l0 := by
  unfold impl_ValidTurns.f at h
  split at h
  ·exact (Option.some.inj h).symm
  ·cases h
 have HG := Aside0.mk hr
 clear h hr
 have HR := Aside0.mk hr0
 have HL := Aside0.mk hl
 clear hr0 hl
 have hbig : l0.length ≤ 9223372036854775807 := HR.out.2.1
 have hu107 := Try.underlying107
 have eg1 := px_enters Try.func94 (by kernel_rfl) rfl
 have eg2 := px_enters Try.func95 (by kernel_rfl) rfl
 go_enter Try.func46, Try.ntmps46
 go_wp2
 go_loopg [7] l0.length (fun gg s7 wr => ∃ kk : Nat, kk ≤ l0.length ∧ l0.length - kk ≤ gg ∧ s7 = .int .i64 kk ∧ Aside0 (Below w.heap.size w wr) ∧ Aside0 (∀ j, j < kk → pxTurnOk l0 j = true))
 case atStart => exact ⟨0, Nat.zero_le _, by omega, rfl, ⟨px_refl _⟩, ⟨fun j hj => absurd hj (Nat.not_lt_zero _)⟩⟩
 case round =>
  obtain ⟨kk, hkk, hg, rfl, BW, OK⟩ := hrel
  by_cases hlt : kk < l0.length
  ·have hltz : (kk : Int) < (l0.length : Int) := by omega
   have hz0 : (0 : Int) ≤ (kk : Int) := by omega
   obtain ⟨ad, e, hx0, hx1⟩ := at_T107 (Kd.C_below HR.out BW.out) (kk : Int) hz0 hltz
   simp only [Int.toNat_natCast] at hx0 hx1
   cases e
   rw [show rd_T107 l0 (kk : Int) = l0.getD kk z107 from rfl] at hx0 hx1
   have HT := Aside0.mk (show pxTurnOk l0 kk = (pxName (l0.getD kk z107).f0 && l0.any (fun x => x.f0.toList == (l0.getD kk z107).f1.toList) && !((l0.take kk).any fun x => x.f0.toList == (l0.getD kk z107).f0.toList || x.f1.toList == (l0.getD kk z107).f1.toList)) from rfl)
   have hsz := HL.out kk hlt
   generalize l0.getD kk z107 = y at *
   have HN := Aside0.mk (impl_isName.eq y.f0 hsz (y.f0.size + 1) (by omega))
   clear hsz
   cases hq1 : pxName y.f0 with
   | false =>
    rw [hq1] at HT HN
    clear hq1
    have HNo := Aside0.mk (pxTurns_no l0 kk hlt HT.out)
    clear HT
    go_wp2_with fail
    refine (impl_isName.calls _ _ _ _ HN.out).mono ?_
    rintro e w1 ⟨rfl, hd⟩
    have hb := hd.below
    clear hd
    have HB := Aside0.mk (below_then BW.out BW.out.size (below_then (px_alloc _ _) (by simp) hb))
    clear hb
    go_wp2
    go_ret
    exact ⟨by rw [HG.out, HNo.out]; rfl, HB.out⟩
   | true =>
    rw [hq1] at HT HN
    clear hq1
    go_wp2_with fail
    refine (impl_isName.calls _ _ _ _ HN.out).mono ?_
    rintro e w1 ⟨rfl, hd⟩
    have hb := hd.below
    clear hd
    have hc0 : w1.cell? ⟨wr.heap.size, 0, none⟩ = some (.string y.f0) := (hb.cell (p := ⟨wr.heap.size, 0, none⟩) (by simp)).trans (by go_simp)
    have hc1 : w1.cell? ⟨wr.heap.size, 1, none⟩ = some (.string y.f1) := (hb.cell (p := ⟨wr.heap.size, 1, none⟩) (by simp)).trans (by go_simp)
    have HB := Aside0.mk (below_then BW.out BW.out.size (below_then (px_alloc _ _) (by simp) hb))
    clear hb
    generalize hq2 : l0.any (fun x => x.f0.toList == y.f1.toList) = q2 at HT
    have HQ2 := Aside0.mk hq2
    clear hq2
    go_wp2_with fail
    refine (impl_ValidTurns.cfn (fun x : S107 => x.f0.toList == y.f1.toList) 94 _ eg1 _ c0 _ l0 rfl _ (impl_ValidTurns.pred1 y.f0 y.f1 _ _ hc1) (Kd.C_below HR.out HB.out)).mono ?_
    rintro e w2 ⟨rfl, hb2⟩
    rw [HQ2.out]
    have hd0 : w2.cell? ⟨wr.heap.size, 0, none⟩ = some (.string y.f0) := (hb2.cell (p := ⟨wr.heap.size, 0, none⟩) (World.block_lt_of_cell? w1 _ hc0)).trans hc0
    have hd1 : w2.cell? ⟨wr.heap.size, 1, none⟩ = some (.string y.f1) := (hb2.cell (p := ⟨wr.heap.size, 1, none⟩) (World.block_lt_of_cell? w1 _ hc1)).trans hc1
    have HB2 := Aside0.mk (below_then HB.out HB.out.size hb2)
    clear hb2 hc0 hc1 HQ2
    cases q2 with
    | false =>
     have HNo := Aside0.mk (pxTurns_no l0 kk hlt HT.out)
     clear HT
     go_wp2
     go_ret
     exact ⟨by rw [HG.out, HNo.out]; rfl, HB2.out⟩
    | true =>
     generalize hq3 : (l0.take kk).any (fun x => x.f0.toList == y.f0.toList || x.f1.toList == y.f1.toList) = q3 at HT
     have HQ3 := Aside0.mk hq3
     clear hq3
     have hk1 : (kk : Int) ≤ (c0 : Int) := by omega
     go_wp2_with fail
     refine (impl_ValidTurns.cfn (fun x : S107 => x.f0.toList == y.f0.toList || x.f1.toList == y.f1.toList) 95 _ eg2 _ c0 _ (l0.take kk) (by rw [List.length_take]; omega) _ (impl_ValidTurns.pred2 y.f0 y.f1 _ _ hd0 hd1) (Kd.C_take (Kd.C_below HR.out HB2.out) (by omega))).mono ?_
     rintro e w3 ⟨rfl, hb3⟩
     rw [HQ3.out]
     have HB3 := Aside0.mk (below_then HB2.out HB2.out.size hb3)
     clear hb3 hd0 hd1 HQ3
     cases q3 with
     | true =>
      have HNo := Aside0.mk (pxTurns_no l0 kk hlt HT.out)
      clear HT
      go_wp2
      go_ret
      exact ⟨by rw [HG.out, HNo.out]; rfl, HB3.out⟩
     | false =>
      go_wp2
      go_roundg (l0.length - (kk + 1))
      case measure => omega
      case rel =>
       refine ⟨kk + 1, by omega, by omega, by go_num, HB3, ⟨fun j hj => ?_⟩⟩
       by_cases e : j = kk
       ·subst e
        exact HT.out
       ·exact OK.out j (by omega)
  ·have : kk = l0.length := by omega
   subst this
   have hltz : ¬ (l0.length : Int) < (l0.length : Int) := by omega
   have HE := Aside0.mk (pxTurns_end l0 OK.out)
   have HD := Aside0.mk (show decide ((l0.length : Int) ≤ 8) = decide (l0.length ≤ 8) by rw [decide_eq_decide]; omega)
   go_wp2
   go_ret
   exact ⟨by rw [HG.out, HE.out, ← HD.out]; first | rfl | (simp; done), BW.out⟩

end Go.Proofs.Ytfcpbgedgedalaa.Q
