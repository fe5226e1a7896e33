-- written by px.py (a program of this claim's), over the kit's print. Not trusted: Lean checks it.
import Derived.Test.YtjcaiekalobmfaaQ0
import Derived.Test.YtjcaiekalobmfaaQ44
import Derived.Test.YtjcaiekalobmfaaQ48
import Derived.Test.YtjcaiekalobmfaaQ49
namespace Go.Proofs.Ytjcaiekalobmfaa.Q
open Go.RowKit Go.Proofs.YtjcaiekalobmfaaL.PrintWords Go.Proofs.YtjcaiekalobmfaaL.PrintLast Go.Proofs.YtjcaiekalobmfaaL.PrintMore
attribute [local go_sem] max2_int min2_int max_two min_two max_three min_three max_four min_four   -- for this text's walks alone
set_option linter.unusedVariables false
set_option linter.unusedSimpArgs false

/-! ### slices.IndexFunc at impl.Place: function 134 -/
set_option maxHeartbeats 8000000 in
set_option maxRecDepth 100000 in
theorem ix134.calls (p : S130 → Bool) (g : Nat) (lb : Array Value) (eg : ∀ args w, (callFunc g args).run Try.prog w = .ok (.enter g args) w) (A0 : Option Addr) (c0 : Nat) (l0 : List (S130)) (w : World)
    (hp : PxPred Try.prog g lb (fun x : S130 => .agg #[.bool x.f0, .int .i64 x.f1]) p w) (hr0 : Kd.C k130 w A0 l0.length l0) :
    Calls Try.prog 134 #[.slice A0 l0.length c0, .func (.func g) #[] lb] w fun e w' => e = .returned (.int .i64 (pxIdx p l0)) ∧ Below w.heap.size w w' := by
  have HR := Aside0.mk hr0
  clear hr0
  have hbig : l0.length ≤ 9223372036854775807 := HR.out.2.1
  have hu130 := Try.underlying130
  go_enter Try.func134, Try.ntmps134
  go_wp2
  go_loopg [5, 8] l0.length (fun gg _ s8 wr => ∃ kk : Nat, kk ≤ l0.length ∧ l0.length - kk ≤ gg ∧ s8 = .int .i64 kk ∧ Aside0 (Below w.heap.size w wr) ∧ Aside0 (∀ j, j < kk → p (l0.getD j z130) = false))
  case atStart => exact ⟨0, Nat.zero_le _, by omega, rfl, ⟨Below.refl _ w⟩, ⟨fun j hj => absurd hj (Nat.not_lt_zero _)⟩⟩
  case round =>
    obtain ⟨kk, hkk, hg, rfl, BW, A⟩ := hrel
    by_cases hlt : kk < l0.length
    · have hltz : (kk : Int) < (l0.length : Int) := by omega
      have hz0 : (0 : Int) ≤ (kk : Int) := by omega
      obtain ⟨ad, e, hx0, hx1⟩ := at_T130 (Kd.C_below HR.out BW.out) (kk : Int) hz0 hltz
      simp only [Int.toNat_natCast] at hx0 hx1
      cases e
      have hcall := hp wr (rd_T130 l0 (kk : Int)) BW.out
      clear hp
      have B := Aside0.mk (show rd_T130 l0 (kk : Int) = l0.getD kk z130 from rfl)
      generalize hy : rd_T130 l0 (kk : Int) = y at hx0 hx1 hcall B
      clear hy
      cases hq : p y with
      | true =>
        rw [hq] at hcall
        go_wp2_with fail
        refine hcall.mono ?_
        rintro e w' ⟨rfl, hb'⟩
        clear hcall
        go_wp2
        go_ret
        refine ⟨?_, below_then BW.out BW.out.size hb'⟩
        rw [pxIdx_hit p l0 z130 kk hlt (by rw [← B.out]; exact hq) A.out]; rfl
      | false =>
        rw [hq] at hcall
        go_wp2_with fail
        refine hcall.mono ?_
        rintro e w' ⟨rfl, hb'⟩
        clear hcall
        go_wp2
        go_roundg (l0.length - (kk + 1))
        case measure => omega
        case rel =>
          refine ⟨kk + 1, by omega, by omega, by go_num, ⟨below_then BW.out BW.out.size hb'⟩, ⟨fun j hj => ?_⟩⟩
          by_cases e : j = kk
          · subst e
            rw [← B.out]; exact hq
          · exact A.out j (by omega)
    · have hltz : ¬ (kk : Int) < (l0.length : Int) := by omega
      have : kk = l0.length := by omega
      subst this
      go_wp2
      go_ret
      refine ⟨?_, BW.out⟩
      rw [pxIdx_miss p l0 z130 A.out]; rfl
/-! ### slices.ContainsFunc at impl.Place: function 105 -/
set_option maxHeartbeats 8000000 in
set_option maxRecDepth 100000 in
theorem cf105.calls (p : S130 → Bool) (g : Nat) (lb : Array Value) (eg : ∀ args w, (callFunc g args).run Try.prog w = .ok (.enter g args) w) (A0 : Option Addr) (c0 : Nat) (l0 : List (S130)) (w : World)
    (hp : PxPred Try.prog g lb (fun x : S130 => .agg #[.bool x.f0, .int .i64 x.f1]) p w) (hr0 : Kd.C k130 w A0 l0.length l0) :
    Calls Try.prog 105 #[.slice A0 l0.length c0, .func (.func g) #[] lb] w fun e w' => e = .returned (.bool (l0.any p)) ∧ Below w.heap.size w w' := by
  rw [← pxIdx_any p l0]
  go_enter Try.func105, Try.ntmps105
  go_wp2_with fail
  refine (ix134.calls p g lb eg A0 c0 l0 w hp hr0).mono ?_
  rintro e w' ⟨rfl, hb'⟩
  clear hp hr0
  go_wp2
  go_ret
  exact ⟨by first | rfl | simp, hb'⟩
set_option maxHeartbeats 8000000 in
set_option maxRecDepth 100000 in
theorem impl_ValidHoles.pred106 (w : World) :
    PxPred Try.prog 106 #[] (fun x : S130 => .agg #[.bool x.f0, .int .i64 x.f1]) (fun x : S130 => !(decide (-99 ≤ x.f1) && decide (x.f1 ≤ 99)) || (x.f0 && !(x.f1 == 0))) w := by
  intro W x hb
  show Calls Try.prog 106 #[.agg #[.bool x.f0, .int .i64 x.f1]] W _
  have hu130 := Try.underlying130
  obtain ⟨y0, y1⟩ := x
  dsimp only
  have HV := Aside0.mk (impl_isValue.eq y1)
  cases hq : (decide (-99 ≤ y1) && decide (y1 ≤ 99)) <;> cases y0 <;> (
    have HQ := Aside0.mk hq
    clear hq
    go_enter Try.func106, Try.ntmps106
    go_wp2_with fail
    refine (impl_isValue.calls _ _ _ HV.out).mono ?_
    rintro e w' ⟨rfl, hd⟩
    have hb := hd.below
    clear hd
    have hc0 := (hb.cell (p := ⟨W.heap.size, 0, none⟩) (by simp)).trans (by go_simp; rfl)
    have hc1 : w'.cell? ⟨W.heap.size, 1, none⟩ = some (.int .i64 y1) := (hb.cell (p := ⟨W.heap.size, 1, none⟩) (by simp)).trans (by go_simp)
    rw [HQ.out]
    have HB := Aside0.mk (below_then (px_alloc _ _) (by simp) hb)
    clear hb
    go_wp2
    go_ret
    refine ⟨?_, HB.out⟩
    first | rfl | (rw [HQ.out]; rfl) | (rw [HQ.out]; simp; done) | (simp [HQ.out]; done))
/-! ### impl_ValidHoles: function 53 (a contract of our own) -/
def impl_ValidHoles.f (k : Nat) (l0_0 : List (S130)) (l0_1 : List (S116)) : Option (Bool) := if l0_0.length ≤ 8 then (impl_ValidFlat.f k [] l0_1).bind fun b => (if b = true then some (!l0_0.any (fun x : S130 => !(decide (-99 ≤ x.f1) && decide (x.f1 ≤ 99)) || (x.f0 && !(x.f1 == 0)))) else some false) else some false
theorem impl_ValidHoles.mono : ∀ a0 a1 k, LeO (impl_ValidHoles.f k a0 a1) (impl_ValidHoles.f (k + 1) a0 a1) := by
  intro a0 a1 k
  unfold impl_ValidHoles.f
  repeat' first
      | (with_reducible exact impl_ValidFlat.mono _ _ _)
      | (with_reducible exact LeO.refl _)
      | (with_reducible exact LeO.none _)
      | (with_reducible refine LeO.ite ?_ ?_)
      | (with_reducible refine LeO.bind ?_ (fun _ => ?_))
      | exact impl_ValidFlat.mono _ _ _
      | exact LeO.none _
      | refine LeO.ite ?_ ?_
      | refine LeO.bind ?_ (fun _ => ?_)
set_option maxHeartbeats 8000000 in
set_option maxRecDepth 100000 in
theorem impl_ValidHoles.calls (k : Nat) (A0_0 : Option Addr) (c0_0 : Nat) (l0_0 : List (S130)) (A0_1 : Option Addr) (c0_1 : Nat) (l0_1 : List (S116)) (r : Bool) (w : World) (hr0_0 : Kd.C k130 w A0_0 l0_0.length l0_0) (hc0_0 : l0_0.length ≤ c0_0) (hr0_1 : Kd.C k116 w A0_1 l0_1.length l0_1) (hc0_1 : l0_1.length ≤ c0_1) (h : impl_ValidHoles.f k l0_0 l0_1 = some r) :
    Calls Try.prog 53 #[.agg #[.slice A0_0 l0_0.length c0_0, .slice A0_1 l0_1.length c0_1]] w fun e w' => e = .returned (.bool r) ∧ Below w.heap.size w w' := by
  unfold impl_ValidHoles.f at h
  have hal : Below w.heap.size w w := px_refl w
  have HR := Aside0.mk hr0_0
  have HC := Aside0.mk hc0_0
  have HRn := Aside0.mk hr0_1
  have HCn := Aside0.mk hc0_1
  clear hr0_0 hc0_0 hr0_1 hc0_1 hal
  have hu83 := Try.underlying83
  have hu130 := Try.underlying130
  have hu116 := Try.underlying116
  have eg := px_enters Try.func106 (by kernel_rfl) rfl
  by_cases hl : l0_0.length ≤ 8
  · rw [if_pos hl] at h
    have hd8 : decide ((l0_0.length : Int) ≤ 8) = true := by simp; omega
    clear hl
    obtain ⟨b, hv, h⟩ : ∃ b, impl_ValidFlat.f k [] l0_1 = some b ∧ (if b = true then some (!l0_0.any (fun x : S130 => !(decide (-99 ≤ x.f1) && decide (x.f1 ≤ 99)) || (x.f0 && !(x.f1 == 0)))) else some false) = some r := by
      cases hf : impl_ValidFlat.f k [] l0_1 with
      | none => rw [hf] at h; cases h
      | some b => rw [hf] at h; exact ⟨b, rfl, h⟩
    have HV := Aside0.mk hv
    clear hv
    cases b with
    | false =>
      rw [if_neg (by decide)] at h
      obtain rfl := Option.some.inj h
      clear h
      go_enter Try.func53, Try.ntmps53
      go_wp2_with fail
      refine (impl_ValidFlat.calls k none 0 [] _ c0_1 l0_1 false _ (Kd.C_nil _ _) (Nat.le_refl _) (Kd.C_below HRn.out (px_alloc _ _)) HCn.out HV.out).mono ?_
      rintro e w1 ⟨rfl, hb⟩
      have HB := Aside0.mk (below_then (px_alloc _ _) (by simp) hb)
      clear hb
      go_wp2
      go_ret
      exact ⟨rfl, HB.out⟩
    | true =>
      rw [if_pos rfl] at h
      cases hq : l0_0.any (fun x : S130 => !(decide (-99 ≤ x.f1) && decide (x.f1 ≤ 99)) || (x.f0 && !(x.f1 == 0))) <;> (
        have HQ := Aside0.mk hq
        rw [hq] at h
        clear hq
        obtain rfl := Option.some.inj h
        clear h
        go_enter Try.func53, Try.ntmps53
        go_wp2_with fail
        refine (impl_ValidFlat.calls k none 0 [] _ c0_1 l0_1 true _ (Kd.C_nil _ _) (Nat.le_refl _) (Kd.C_below HRn.out (px_alloc _ _)) HCn.out HV.out).mono ?_
        rintro e w1 ⟨rfl, hb⟩
        have hc0 := (hb.cell (p := ⟨w.heap.size, 0, none⟩) (by simp)).trans (by go_simp; rfl)
        have HB := Aside0.mk (below_then (px_alloc _ _) (by simp) hb)
        clear hb
        go_wp2_with fail
        refine (cf105.calls (fun x : S130 => !(decide (-99 ≤ x.f1) && decide (x.f1 ≤ 99)) || (x.f0 && !(x.f1 == 0))) 106 _ eg _ c0_0 l0_0 _ (impl_ValidHoles.pred106 _) (Kd.C_below HR.out HB.out)).mono ?_
        rintro e w2 ⟨rfl, hb2⟩
        rw [HQ.out]
        have HB2 := Aside0.mk (below_then HB.out HB.out.size hb2)
        clear hb2
        go_wp2
        go_ret
        exact ⟨rfl, HB2.out⟩)
  · rw [if_neg hl] at h
    have hd8 : decide ((l0_0.length : Int) ≤ 8) = false := by simp; omega
    clear hl
    obtain rfl := Option.some.inj h
    clear h
    go_enter Try.func53, Try.ntmps53
    go_wp2
    go_ret
    exact ⟨rfl, px_alloc _ _⟩

end Go.Proofs.Ytjcaiekalobmfaa.Q
