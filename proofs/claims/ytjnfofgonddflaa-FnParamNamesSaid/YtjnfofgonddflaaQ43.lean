-- written by px.py (a program of this claim's), over the kit's print. Not trusted: Lean checks it.
import Derived.Test.YtjnfofgonddflaaQ0
import Derived.Test.YtjnfofgonddflaaQ15
import Derived.Test.YtjnfofgonddflaaQ39
namespace Go.Proofs.Ytjnfofgonddflaa.Q
open Go.RowKit Go.Proofs.YtjnfofgonddflaaL.PrintWords Go.Proofs.YtjnfofgonddflaaL.PrintLast Go.Proofs.YtjnfofgonddflaaL.PrintMore
attribute [local go_sem] max2_int min2_int max_two min_two max_three min_three max_four min_four   -- for this text's walks alone
set_option linter.unusedVariables false
set_option linter.unusedSimpArgs false

set_option maxHeartbeats 8000000 in
set_option maxRecDepth 100000 in
theorem impl_ParamNames.pred71 (a1 : Int) (B : Nat) (w : World) (hc : w.cell? ⟨B, 0, none⟩ = some (.int .i64 a1)) :
    PxPred Try.prog 71 #[.pointer (some ⟨B, 0, none⟩)] (fun x : S41 => .agg #[.string x.f0, .int .i64 x.f1, .bool x.f2, .int .i64 x.f3]) (fun x : S41 => x.f1 == a1) w := by
  intro W x hb
  have hc' := px_cell hb hc
  have hB' : B < W.heap.size := World.block_lt_of_cell? W _ hc'
  clear hc
  show Calls Try.prog 71 #[.agg #[.string x.f0, .int .i64 x.f1, .bool x.f2, .int .i64 x.f3], .pointer (some ⟨B, 0, none⟩)] W _
  have hu41 := Try.underlying41
  go_enter Try.func71, Try.ntmps71
  go_wp2
  go_ret
  exact ⟨rfl, px_alloc _ _⟩
/-! ### impl_ParamNames: function 31 (a contract of our own) -/
def impl_ParamNames.f (k : Nat) (l0_0 : List (S41)) (a1 : Int) : Option (List ByteArray) := (impl_ValidSignature.f k l0_0).bind fun b => if b = true then (if l0_0.length * 16 ≤ 140737488355328 then some ((l0_0.filter (fun x : S41 => x.f1 == a1)).map S41.f0) else none) else some []
theorem impl_ParamNames.mono : ∀ a0 a1 k, LeO (impl_ParamNames.f k a0 a1) (impl_ParamNames.f (k + 1) a0 a1) := by
  intro a0 a1 k
  unfold impl_ParamNames.f
  repeat' first
      | (with_reducible exact impl_ValidSignature.mono _ _)
      | (with_reducible exact LeO.refl _)
      | (with_reducible exact LeO.none _)
      | (with_reducible refine LeO.ite ?_ ?_)
      | (with_reducible refine LeO.bind ?_ (fun _ => ?_))
      | exact impl_ValidSignature.mono _ _
      | exact LeO.none _
      | refine LeO.ite ?_ ?_
      | refine LeO.bind ?_ (fun _ => ?_)
set_option maxHeartbeats 8000000 in
set_option maxRecDepth 100000 in
theorem impl_ParamNames.calls (k : Nat) (A0_0 : Option Addr) (c0_0 : Nat) (l0_0 : List (S41)) (a1 : Int) (r : List ByteArray) (w : World) (hr0_0 : Kd.C k41 w A0_0 l0_0.length l0_0) (hc0_0 : l0_0.length ≤ c0_0) (h : impl_ParamNames.f k l0_0 a1 = some r) :
    Calls Try.prog 31 #[.agg #[.slice A0_0 l0_0.length c0_0], .int .i64 a1] w fun e w' => ∃ v0_ : Value, e = .returned (v0_) ∧ Kd.R Kd.string 9 w' w.heap.size (fun _ => True) v0_ r ∧ Below w.heap.size w w' := by
  have HR := Aside0.mk hr0_0
  have HC := Aside0.mk hc0_0
  clear hr0_0 hc0_0
  unfold impl_ParamNames.f at h
  obtain ⟨b, hv, h⟩ := Option.bind_eq_some_iff.1 h
  have HV := Aside0.mk hv
  clear hv
  have hu25 := Try.underlying25
  have eg := px_enters Try.func71 (by kernel_rfl) rfl
  cases b with
  | false =>
    obtain rfl : [] = r := by simpa using h
    clear h
    go_enter Try.func31, Try.ntmps31
    go_wp2_with fail
    refine (impl_ValidSignature.calls k A0_0 c0_0 l0_0 false _ (Kd.C_below HR.out (below_alloc (px_alloc _ _) _)) HC.out HV.out).mono ?_
    rintro e w1 ⟨rfl, hb1⟩
    have HB := Aside0.mk (below_then (below_alloc (px_alloc _ _) _) (by simp <;> omega) hb1)
    clear hb1
    go_wp2
    go_ret
    exact ⟨_, rfl, Kd.R_nil _ _ _ _ _, HB.out⟩
  | true =>
  have hl : l0_0.length * 16 ≤ 140737488355328 := by
    by_cases hh : l0_0.length * 16 ≤ 140737488355328
    · exact hh
    · simp [hh] at h
  simp only [if_pos hl, if_true] at h
  obtain rfl := Option.some.inj h
  clear h
  have HL := Aside0.mk hl
  clear hl
  go_enter Try.func31, Try.ntmps31
  go_wp2_with fail
  refine (impl_ValidSignature.calls k A0_0 c0_0 l0_0 true _ (Kd.C_below HR.out (below_alloc (px_alloc _ _) _)) HC.out HV.out).mono ?_
  rintro e w1 ⟨rfl, hb1⟩
  have hcl : w1.cell? ⟨w.heap.size, 0, none⟩ = some (.slice A0_0 l0_0.length c0_0) := (hb1.cell (p := ⟨w.heap.size, 0, none⟩) (by simp <;> omega)).trans (by go_simp)
  have hcb : w1.cell? ⟨w.heap.size + 1, 0, none⟩ = some (.int .i64 a1) := (hb1.cell (p := ⟨w.heap.size + 1, 0, none⟩) (by simp <;> omega)).trans (by go_simp)
  have HB := Aside0.mk (below_then (below_alloc (px_alloc _ _) _) (by simp <;> omega) hb1)
  clear hb1
  go_wp2_with fail
  refine (nm70.calls (fun x : S41 => x.f1 == a1) 71 _ eg A0_0 c0_0 l0_0 _ (impl_ParamNames.pred71 a1 (w.heap.size + 1) _ ?_) (Kd.C_below HR.out HB.out) HL.out).mono ?_
  · exact hcb
  rintro e w2 ⟨v2, rfl, hv2, hb2⟩
  have HO2 := Aside0.mk (Kd.R_lower hv2 (below_size HB.out))
  have HB2 := Aside0.mk (below_then HB.out (below_size HB.out) hb2)
  clear hv2 hb2
  go_wp2
  go_ret
  exact ⟨_, rfl, HO2.out, HB2.out⟩

end Go.Proofs.Ytjnfofgonddflaa.Q
