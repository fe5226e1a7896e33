-- written by px.py (a program of this claim's), over the kit's print. Not trusted: Lean checks it.
import Derived.Test.YtjcaiekalobmfaaRows
import Derived.Test.YtjcaiekalobmfaaQ66
import Derived.Test.YtjcaiekalobmfaaRFnExactMethodFlat
import Derived.Test.YtjcaiekalobmfaaPureFnExactMethodFlat
import Derived.Test.YtjcaiekalobmfaaLOpens
import Derived.WalkKit
import Derived.ProofKit
import Derived.OpenShut
import Derived.ShutString
import Derived.ChangeOld
import Derived.Below
import Derived.SizedLaws
import Derived.Carry
namespace Go.Proofs.Ytjcaiekalobmfaa.fnExactMethodFlat
open Go.ChangeShapes Go.WideShapes Go.ChangeAt Go.RowKit
open Go.ChangeMaps (open_string shut_string)
open Go.Proofs.Ytjcaiekalobmfaa.Q Go.Proofs.YtjcaiekalobmfaaL.PrintWords Go.Proofs.YtjcaiekalobmfaaL.PrintLast Go.Proofs.YtjcaiekalobmfaaL.PrintMore
set_option linter.unusedVariables false
set_option linter.unusedSimpArgs false
theorem own : ownKnob Try.prog.godebug = none := by kernel_rfl
theorem laidOut : laidOutB Try.prog = true := by kernel_rfl
set_option maxRecDepth 100000 in
theorem lifted (os : Os) (started : os.Started) (H : Type) (enc : TypeId × Value → H) :
    ReturnsInHanded {} Try.checked os 9 .any (Rows.fnExactMethodFlatSpec.pre6 enc Try.prog Try.f9 Rows.fnExactMethodFlatRow.domain false) (Rows.fnExactMethodFlatSpec.post enc Try.prog Try.f9 false true false false) := by
  refine returnsInHanded_of_change_sized (C := Try.checked) own started (by kernel_rfl) Try.func9
    (ChangeSpec.witness6 (enc := enc) (C := Try.checked) false ⟨#[], #[(.int .i64 0), (.agg #[(.slice none 0 0), (.slice none 0 0)])], []⟩ 8 (by kernel_rfl) (by kernel_rfl) (by kernel_rfl) (by kernel_rfl)) ?_
  intro W base args ds gs before hval0 hW hcnd hsz0 _
  have hval : ∀ (j : Nat) t v, Try.f9.params[j]? = some t → args[j]? = some v → Value.okWide Try.prog W .any base t v := hval0
  have hW' := hW
  obtain ⟨p, q, hA0, hV, rfl, hfz, hnd⟩ := hW
  have hA : DataW.TrodAll enc Try.prog W 0 (fun _ => true) true Try.f9.params.toList args.toList ds p := hA0
  rw [Try.params9] at hA hval
  obtain ⟨v0, vs0, d0, ds0, p0, q0, hargs, rfl, rfl, h0, r0⟩ := trodAll_cons hA
  obtain ⟨v1, vs1, d1, ds1, p1, q1, rfl, rfl, rfl, h1, r1⟩ := trodAll_cons r0
  obtain ⟨rfl, rfl, rfl⟩ := trodAll_nil r1
  obtain rfl : args = #[v0, v1] := by cases args; simp_all
  obtain ⟨rfl, rfl⟩ := trodVars_none hV
  obtain ⟨a0, rfl, rfl, rfl, Q0⟩ := open_int Try.underlying3 (hval 0 3 v0 rfl rfl) h0
  have k1 := h1
  have lt1 : ∀ x ∈ p1, x.block < W.heap.size := by obtain ⟨m, hm⟩ := k1; exact DataW.trod_lt m _ _ _ hm
  obtain ⟨y1, cs1, rfl, K1, Q1⟩ := opens_agg Try.underlying56 (hval 1 56 v1 rfl rfl) (opens_struct2 Try.underlying56 (by kernel_rfl) (by kernel_rfl) (opens_slice Try.underlying53 (by kernel_rfl) (opens_int Try.underlying3)) (opens_slice Try.underlying54 (by kernel_rfl) (opens_iso (f := fun x : S138 => (x.f0, x.f1)) (fun y => (⟨y.1, y.2⟩ : S138)) (fun _ => rfl) (opens_struct2 Try.underlying138 (by kernel_rfl) (by kernel_rfl) (opens_string Try.underlying9) (opens_int Try.underlying3))))) h1
  obtain ⟨l1_0, l1_1⟩ := y1
  obtain ⟨_, _, e1, ⟨A1_0, c1_0, rfl, hc1_0, hr1_0⟩, ⟨A1_1, c1_1, rfl, hc1_1, hr1_1⟩⟩ := K1
  obtain rfl : cs1 = #[.slice A1_0 l1_0.length c1_0, .slice A1_1 l1_1.length c1_1] := Array.toList_inj.1 e1
  clear hA0 hval0 hsz0
  obtain ⟨k, h⟩ := Pure.FnExactMethodFlat a0 l1_0 l1_1 Q0 Q1.1 Q1.2
  refine (laws_FnExactMethodFlat.calls k a0 A1_0 c1_0 l1_0 A1_1 c1_1 l1_1 true W hr1_0 hc1_0 hr1_1 hc1_1 h rfl).mono fun e W' ⟨he, bel0⟩ => ?_
  have bel : Below W.heap.size W W' := bel0
  subst he
  exact ⟨_, rfl, _, _, _, [], _, [], hW', trodAll_mk1 (shut_bool Try.underlying4 _), (trodAll_cons_mk (shut_int Try.underlying3 Q0) (trodAll_cons_mk (Below.trod laidOut (by kernel_rfl) (of_decide_eq_true (by kernel_rfl)) k1 bel lt1) trodAll_mk0)), rfl, bel.frame _, fun h => by cases h⟩
theorem over : Rows.fnExactMethodFlatRow.holds Try.pinned (OpenSpec.ofChange Rows.fnExactMethodFlatSpec) :=
  OpenClaim.holds_of_wide 9 Try.f9 rfl rfl rfl rfl rfl rfl rfl ⟨rfl, rfl, rfl, rfl, rfl⟩ rfl rfl rfl rfl rfl (by kernel_rfl) Try.func9 (by kernel_rfl)
    (of_decide_eq_true (by kernel_rfl)) (by unfold Func.isWrapper; first | (rw [if_pos (by decide +kernel)]; kernel_rfl) | (rw [if_neg (by decide +kernel)]; exact ⟨rfl, rfl⟩))
    (fun os started H enc _ => lifted os started H enc)
theorem proved : Rows.FnExactMethodFlatSaid := over
#print axioms proved
end Go.Proofs.Ytjcaiekalobmfaa.fnExactMethodFlat
namespace Go.Proofs.Ytjcaiekalobmfaa
/-- The row, under a short name, for the claim. -/
theorem fnExactMethodFlat_holds : Rows.FnExactMethodFlatSaid := fnExactMethodFlat.proved
end Go.Proofs.Ytjcaiekalobmfaa
