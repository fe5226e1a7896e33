-- written by px.py (a program of this claim's), over the kit's print. Not trusted: Lean checks it.
import Derived.Test.YtjnfofgonddflaaQ0
import Derived.Test.YtjnfofgonddflaaQ12
import Derived.Test.YtjnfofgonddflaaQ37
namespace Go.Proofs.Ytjnfofgonddflaa.Q
open Go.RowKit Go.Proofs.YtjnfofgonddflaaL.PrintWords Go.Proofs.YtjnfofgonddflaaL.PrintLast Go.Proofs.YtjnfofgonddflaaL.PrintMore
attribute [local go_sem] max2_int min2_int max_two min_two max_three min_three max_four min_four   -- for this text's walks alone
set_option linter.unusedVariables false
set_option linter.unusedSimpArgs false

/-! ### (impl.Signature).namesOf: function 70 -/
set_option maxHeartbeats 8000000 in
set_option maxRecDepth 100000 in
theorem nm70.calls (p : S41 → Bool) (g : Nat) (lb : Array Value) (eg : ∀ args w, (callFunc g args).run Try.prog w = .ok (.enter g args) w) (A0 : Option Addr) (c0 : Nat) (l0 : List S41) (w : World)
    (hp : PxPred Try.prog g lb (fun x : S41 => .agg #[.string x.f0, .int .i64 x.f1, .bool x.f2, .int .i64 x.f3]) p w) (hr0 : Kd.C k41 w A0 l0.length l0) (hl : l0.length * 16 ≤ 140737488355328) :
    Calls Try.prog 70 #[.agg #[.slice A0 l0.length c0], .func (.func g) #[] lb] w fun e w' => ∃ v0_ : Value, e = .returned (v0_) ∧ Kd.R Kd.string 9 w' w.heap.size (fun _ => True) v0_ ((l0.filter p).map S41.f0) ∧ Below w.heap.size w w' := by
  have HR := Aside0.mk hr0
  clear hr0
  have hbig : l0.length ≤ 9223372036854775807 := HR.out.2.1
  have hu25 := Try.underlying25
  have hu41 := Try.underlying41
  go_enter Try.func70, Try.ntmps70
  go_wp2
  go_loopg [5, 11] l0.length (fun gg v5 v11 wr => ∃ kk : Nat, kk ≤ l0.length ∧ l0.length - kk ≤ gg ∧ v11 = .int .i64 kk ∧ Aside0 (Kd.R Kd.string 9 wr w.heap.size (fun _ => True) v5 (((l0.take kk).filter p).map S41.f0)) ∧ Aside0 (Below w.heap.size w wr))
  case atStart => exact ⟨0, Nat.zero_le _, by omega, rfl, ⟨Kd.R_nil _ _ _ _ _⟩, ⟨px_alloc _ _⟩⟩
  case round =>
    obtain ⟨kk, hkk, hg, rfl, HO, BW⟩ := hrel
    by_cases hlt : kk < l0.length
    · have hltz : (kk : Int) < (l0.length : Int) := by omega
      have hz0 : (0 : Int) ≤ (kk : Int) := by omega
      obtain ⟨ad, e, hx0, hx1, hx2, hx3⟩ := at_T41 (Kd.C_below HR.out BW.out) (kk : Int) hz0 hltz
      simp only [Int.toNat_natCast] at hx0 hx1 hx2 hx3
      cases e
      have hcall := fun (W : World) (h : Below wr.heap.size wr W) => hp W (rd_T41 l0 (kk : Int)) (below_then BW.out BW.out.size h)
      clear hp
      have hft := px_filter_take p S41.f0 l0 kk hlt z41
      rw [show rd_T41 l0 (kk : Int) = l0.getD kk z41 from rfl] at hx0 hx1 hx2 hx3 hcall
      generalize l0.getD kk z41 = y at *
      have HF := Aside0.mk hft
      have HN := Aside0.mk (px_filter_len p S41.f0 l0 kk)
      clear hft
      generalize ((l0.take kk).filter p).map S41.f0 = acc at *
      obtain ⟨A5, c5, rfl⟩ := Kd.R_slice HO.out
      go_wp2_with fail
      refine (hcall _ (px_alloc _ _)).mono ?_
      rintro e w' ⟨rfl, hb'⟩
      clear hcall
      have hcl : w'.cell? ⟨wr.heap.size, 0, none⟩ = some (.string y.f0) := (hb'.cell (p := ⟨wr.heap.size, 0, none⟩) (by simp)).trans (by go_simp)
      have HB := Aside0.mk (below_then (px_alloc _ _) (by simp) hb')
      have HO2 := Aside0.mk (Kd.R_below HO.out HB.out)
      have HW := Aside0.mk (below_then BW.out BW.out.size HB.out)
      clear hb'
      cases hq : p y with
      | true =>
        rw [hq] at HF
        have HQ := Aside0.mk hq
        clear hq
        go_wp2_with (first | ((with_reducible refine gate_dst (N := 22) rfl ?_); refine Kd.R_append Kd.string (w0 := w) w.heap.size (by rfl) (.tmp 18) (.tmp 21) 45 9 (.string ⟨#[]⟩) 16 rfl Try.underlying45 info9 rfl (by decide) (by decide) _ acc y.f0 [.string y.f0] (fun _ => True) (fun _ => False) rfl rfl rfl (fun _ h => h.elim) (fun _ _ => trivial) HO2.out HW.out HW.out.size ?aL ?_; (case aL => have := HN.out; omega); intro v7 w7 ho7 hb7 hg_ hnew_; clear hg_ hnew_; have HO7 := Aside0.mk ho7; have HB7 := Aside0.mk hb7; clear ho7 hb7))
        go_roundg (l0.length - (kk + 1))
        case measure => omega
        case rel => exact ⟨kk + 1, by omega, by omega, by go_num, ⟨by rw [HF.out]; exact HO7.out⟩, HB7⟩
      | false =>
        rw [hq] at HF
        have HQ := Aside0.mk hq
        clear hq
        go_wp2
        go_roundg (l0.length - (kk + 1))
        case measure => omega
        case rel => exact ⟨kk + 1, by omega, by omega, by go_num, ⟨by rw [HF.out]; simpa using HO2.out⟩, HW⟩
    · have : kk = l0.length := by omega
      subst this
      have hltz : ¬ (l0.length : Int) < (l0.length : Int) := by omega
      have HO2 := Aside0.mk (by have h := HO.out; rwa [List.take_length] at h)
      clear HO
      go_wp2_with fail
      refine (slices_Clip_string_string.calls (fun _ => True) _ _ _ w _ BW.out HO2.out rfl).mono ?_
      rintro e w2 ⟨v2, rfl, hv2, hb2, hk2⟩
      have HOx := Aside0.mk hv2
      have HBx := Aside0.mk hb2
      clear hv2 hb2 hk2
      go_wp2
      go_ret
      exact ⟨_, rfl, Kd.R_mono HOx.out (fun _ _ => trivial), HBx.out⟩
theorem impl_Param_placed.eq (a : ByteArray) (b : Int) (c : Bool) (d : Int) : impl_Param_placed.f a b c d = some (b == 0 || b == 1) := by
  unfold impl_Param_placed.f
  by_cases h : b = 0
  · simp [h]
  · simp [h]
theorem impl_Param_single.eq (a : ByteArray) (b : Int) (c : Bool) (d : Int) : impl_Param_single.f a b c d = some ((b == 0 || b == 1) || b == 3) := by
  unfold impl_Param_single.f
  rw [impl_Param_placed.eq]
  by_cases h : (b == 0 || b == 1) = true
  · simp [h]
  · simp [h]
set_option maxHeartbeats 8000000 in
set_option maxRecDepth 100000 in
theorem impl_Signature_places.pred53 (w : World) :
    PxPred Try.prog 53 #[] (fun x : S41 => .agg #[.string x.f0, .int .i64 x.f1, .bool x.f2, .int .i64 x.f3]) (fun x : S41 => x.f1 == 0 || x.f1 == 1) w := by
  intro W x hb
  exact impl_Param_placed.calls _ _ _ _ _ _ (impl_Param_placed.eq x.f0 x.f1 x.f2 x.f3)
/-! ### impl_Signature_places: function 68 (a contract of our own) -/
def impl_Signature_places.f (l0_0 : List (S41)) : Option (Int) := if l0_0.length * 16 ≤ 140737488355328 then some (((l0_0.filter (fun x : S41 => x.f1 == 0 || x.f1 == 1)).length : Nat) : Int) else none
set_option maxHeartbeats 8000000 in
set_option maxRecDepth 100000 in
theorem impl_Signature_places.calls (A0_0 : Option Addr) (c0_0 : Nat) (l0_0 : List (S41)) (r : Int) (w : World) (hr0_0 : Kd.C k41 w A0_0 l0_0.length l0_0) (hc0_0 : l0_0.length ≤ c0_0) (h : impl_Signature_places.f l0_0 = some r) :
    Calls Try.prog 68 #[.agg #[.slice A0_0 l0_0.length c0_0]] w fun e w' => e = .returned (.int .i64 r) ∧ Below w.heap.size w w' := by
  have HR := Aside0.mk hr0_0
  have HC := Aside0.mk hc0_0
  clear hr0_0 hc0_0
  unfold impl_Signature_places.f at h
  have hl : l0_0.length * 16 ≤ 140737488355328 := by
    by_cases hh : l0_0.length * 16 ≤ 140737488355328
    · exact hh
    · simp [hh] at h
  simp only [if_pos hl] at h
  obtain rfl := Option.some.inj h
  clear h
  have HL := Aside0.mk hl
  clear hl
  have hu25 := Try.underlying25
  have eg := px_enters Try.func53 (by kernel_rfl) rfl
  go_enter Try.func68, Try.ntmps68
  go_wp2_with fail
  refine (nm70.calls (fun x : S41 => x.f1 == 0 || x.f1 == 1) 53 _ eg A0_0 c0_0 l0_0 _ (impl_Signature_places.pred53 _) (Kd.C_below HR.out (px_alloc _ _)) HL.out).mono ?_
  rintro e w2 ⟨v2, rfl, hv2, hb2⟩
  obtain ⟨A2, c2, rfl⟩ := Kd.R_slice hv2
  have HB2 := Aside0.mk (below_then (px_alloc _ _) (by simp) hb2)
  clear hv2 hb2
  go_wp2
  go_ret
  exact ⟨by simp, HB2.out⟩

end Go.Proofs.Ytjnfofgonddflaa.Q
