-- written by px.py and merge.py (programs of this claim's), over the kit's print. Not trusted: Lean checks it.
import Derived.Test.YtlpmggokgcphiaaRows
import Derived.Test.YtlpmggokgcphiaaM6FnExactWrappedSignature
import Derived.Test.YtlpmggokgcphiaaRFnExactWrappedSignature
import Derived.Test.YtlpmggokgcphiaaPureFnExactWrappedSignature
import Derived.Test.YtlpmggokgcphiaaLOpens
import Derived.WalkKit
import Derived.ProofKit
import Derived.OpenShut
import Derived.ShutString
import Derived.ChangeOld
import Derived.Below
import Derived.SizedLaws
import Derived.Carry
namespace Go.Proofs.Ytlpmggokgcphiaa.fnExactWrappedSignature
open Go.ChangeShapes Go.WideShapes Go.ChangeAt Go.RowKit
open Go.ChangeMaps (open_string shut_string)
open Go.Proofs.Ytlpmggokgcphiaa.Q Go.Proofs.YtlpmggokgcphiaaL.PrintWords Go.Proofs.YtlpmggokgcphiaaL.PrintLast Go.Proofs.YtlpmggokgcphiaaL.PrintMore
set_option linter.unusedVariables false
set_option linter.unusedSimpArgs false
theorem own : ownKnob Try.prog.godebug = none := by kernel_rfl
theorem laidOut : laidOutB Try.prog = true := by kernel_rfl
set_option maxRecDepth 100000 in
theorem lifted (os : Os) (started : os.Started) (H : Type) (enc : TypeId × Value → H) :
    ReturnsInHanded {} Try.checked os 11 .any (Rows.fnExactWrappedSignatureSpec.pre6 enc Try.prog Try.f11 Rows.fnExactWrappedSignatureRow.domain false) (Rows.fnExactWrappedSignatureSpec.post enc Try.prog Try.f11 false true false false) := by
  refine returnsInHanded_of_change_sized (C := Try.checked) own started (by kernel_rfl) Try.func11
    (ChangeSpec.witness6 (enc := enc) (C := Try.checked) false ⟨#[], #[(.agg #[(.slice none 0 0)]), (.agg #[(.slice none 0 0)])], []⟩ 8 (by kernel_rfl) (by kernel_rfl) (by kernel_rfl) (by kernel_rfl)) ?_
  intro W base args ds gs before hval0 hW hcnd hsz0 _
  have hval : ∀ (j : Nat) t v, Try.f11.params[j]? = some t → args[j]? = some v → Value.okWide Try.prog W .any base t v := hval0
  have hW' := hW
  obtain ⟨p, q, hA0, hV, rfl, hfz, hnd⟩ := hW
  have hA : DataW.TrodAll enc Try.prog W 0 (fun _ => true) true Try.f11.params.toList args.toList ds p := hA0
  rw [Try.params11] at hA hval
  obtain ⟨v0, vs0, d0, ds0, p0, q0, hargs, rfl, rfl, h0, r0⟩ := trodAll_cons hA
  obtain ⟨v1, vs1, d1, ds1, p1, q1, rfl, rfl, rfl, h1, r1⟩ := trodAll_cons r0
  obtain ⟨rfl, rfl, rfl⟩ := trodAll_nil r1
  obtain rfl : args = #[v0, v1] := by cases args; simp_all
  obtain ⟨rfl, rfl⟩ := trodVars_none hV
  have k0 := h0
  have lt0 : ∀ x ∈ p0, x.block < W.heap.size := by obtain ⟨m, hm⟩ := k0; exact DataW.trod_lt m _ _ _ hm
  obtain ⟨y0, cs0, rfl, K0, Q0⟩ := opens_agg Try.underlying41 (hval 0 41 v0 rfl rfl) (opens_struct1 Try.underlying41 (by kernel_rfl) (by kernel_rfl) (opens_slice Try.underlying39 (by kernel_rfl) (opens_iso (f := fun x : S55 => (x.f0, x.f1, x.f2, x.f3)) (fun y => (⟨y.1, y.2.1, y.2.2.1, y.2.2.2⟩ : S55)) (fun _ => rfl) (opens_struct4 Try.underlying55 (by kernel_rfl) (by kernel_rfl) (opens_string Try.underlying9) (opens_int Try.underlying3) (opens_bool Try.underlying4) (opens_int Try.underlying3))))) h0
  obtain ⟨l0_0, rfl⟩ : ∃ z, z = y0 := ⟨_, rfl⟩
  obtain ⟨A0_0, c0_0, e0, hc0_0, hr0_0⟩ := K0
  obtain rfl : cs0 = #[.slice A0_0 l0_0.length c0_0] := Array.toList_inj.1 e0
  have k1 := h1
  have lt1 : ∀ x ∈ p1, x.block < W.heap.size := by obtain ⟨m, hm⟩ := k1; exact DataW.trod_lt m _ _ _ hm
  obtain ⟨y1, cs1, rfl, K1, Q1⟩ := opens_agg Try.underlying41 (hval 1 41 v1 rfl rfl) (opens_struct1 Try.underlying41 (by kernel_rfl) (by kernel_rfl) (opens_slice Try.underlying39 (by kernel_rfl) (opens_iso (f := fun x : S55 => (x.f0, x.f1, x.f2, x.f3)) (fun y => (⟨y.1, y.2.1, y.2.2.1, y.2.2.2⟩ : S55)) (fun _ => rfl) (opens_struct4 Try.underlying55 (by kernel_rfl) (by kernel_rfl) (opens_string Try.underlying9) (opens_int Try.underlying3) (opens_bool Try.underlying4) (opens_int Try.underlying3))))) h1
  obtain ⟨l1_0, rfl⟩ : ∃ z, z = y1 := ⟨_, rfl⟩
  obtain ⟨A1_0, c1_0, e1, hc1_0, hr1_0⟩ := K1
  obtain rfl : cs1 = #[.slice A1_0 l1_0.length c1_0] := Array.toList_inj.1 e1
  clear hA0 hval0 hsz0
  obtain ⟨k, h⟩ := Pure.FnExactWrappedSignature l0_0 l1_0 Q0 Q1
  refine (laws_FnExactWrappedSignature.calls k A0_0 c0_0 l0_0 A1_0 c1_0 l1_0 true W hr0_0 hc0_0 hr1_0 hc1_0 h rfl).mono fun e W' ⟨he, bel0⟩ => ?_
  have bel : Below W.heap.size W W' := bel0
  subst he
  exact ⟨_, rfl, _, _, _, [], _, [], hW', trodAll_mk1 (shut_bool Try.underlying4 _), (trodAll_cons_mk (Below.trod laidOut (by kernel_rfl) (of_decide_eq_true (by kernel_rfl)) k0 bel lt0) (trodAll_cons_mk (Below.trod laidOut (by kernel_rfl) (of_decide_eq_true (by kernel_rfl)) k1 bel lt1) trodAll_mk0)), rfl, bel.frame _, fun h => by cases h⟩
theorem over : Rows.fnExactWrappedSignatureRow.holds Try.pinned (OpenSpec.ofChange Rows.fnExactWrappedSignatureSpec) :=
  OpenClaim.holds_of_wide 11 Try.f11 rfl rfl rfl rfl rfl rfl rfl ⟨rfl, rfl, rfl, rfl, rfl⟩ rfl rfl rfl rfl rfl (by kernel_rfl) Try.func11 (by kernel_rfl)
    (of_decide_eq_true (by kernel_rfl)) (by unfold Func.isWrapper; first | (rw [if_pos (by decide +kernel)]; kernel_rfl) | (rw [if_neg (by decide +kernel)]; exact ⟨rfl, rfl⟩))
    (fun os started H enc _ => lifted os started H enc)
theorem proved : Rows.FnExactWrappedSignatureSaid := over
#print axioms proved
end Go.Proofs.Ytlpmggokgcphiaa.fnExactWrappedSignature
namespace Go.Proofs.Ytlpmggokgcphiaa
/-- The row, under a short name, for the claim. -/
theorem fnExactWrappedSignature_holds : Rows.FnExactWrappedSignatureSaid := fnExactWrappedSignature.proved
end Go.Proofs.Ytlpmggokgcphiaa
