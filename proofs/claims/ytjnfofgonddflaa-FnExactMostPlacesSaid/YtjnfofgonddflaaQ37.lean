-- written by px.py (a program of this claim's), over the kit's print. Not trusted: Lean checks it.
import Derived.Test.YtjnfofgonddflaaQ0
namespace Go.Proofs.Ytjnfofgonddflaa.Q
open Go.RowKit Go.Proofs.YtjnfofgonddflaaL.PrintWords Go.Proofs.YtjnfofgonddflaaL.PrintLast Go.Proofs.YtjnfofgonddflaaL.PrintMore
attribute [local go_sem] max2_int min2_int max_two min_two max_three min_three max_four min_four   -- for this text's walks alone
set_option linter.unusedVariables false
set_option linter.unusedSimpArgs false

/-! ### slices_Clip_string_string: function 97 (a contract of our own) -/
def slices_Clip_string_string.f (l0 : List (ByteArray)) : Option (List (ByteArray)) := some l0
set_option maxHeartbeats 8000000 in
set_option maxRecDepth 100000 in
theorem slices_Clip_string_string.calls (P0_ : Nat → Prop) (u9000_ : Value) (l0 : List (ByteArray)) (r : List (ByteArray)) (w0 w : World) (hB : Below w0.heap.size w0 w) (ho0 : Kd.R Kd.string 9 w w0.heap.size P0_ u9000_ l0) (h : slices_Clip_string_string.f l0 = some r) :
    Calls Try.prog 97 #[u9000_] w fun e w' => ∃ v0_ : Value, e = .returned (v0_) ∧ Kd.R Kd.string 9 w' w0.heap.size (fun k_ => (P0_ k_ ∨ w.heap.size ≤ k_)) v0_ r ∧ Below w0.heap.size w0 w' ∧ Kept w w' (fun k_ => P0_ k_) := by
  obtain rfl := Option.some.inj h
  clear h
  obtain ⟨A0, c0, rfl⟩ := Kd.R_slice ho0
  obtain ⟨_, hl, hC⟩ := Kd.R_reads' ho0
  have hbig : l0.length ≤ 9223372036854775807 := hC.2.1
  have HO := Aside0.mk ho0
  have HB := Aside0.mk hB
  clear ho0 hB hC
  go_enter Try.func97, Try.ntmps97
  go_wp2
  go_ret
  exact ⟨_, rfl, Kd.R_mono (Kd.R_clip HO.out (Nat.le_refl _) hl) (fun _ h => .inl h), HB.out, Kept.refl _ _⟩

end Go.Proofs.Ytjnfofgonddflaa.Q
