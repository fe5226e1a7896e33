-- written by px.py and merge.py (programs of this claim's), over the kit's print. Not trusted: Lean checks it.
import Derived.Test.YtfcpbgedgedalaaRows
import Derived.Test.YtfcpbgedgedalaaM2FnExactThenTurn
import Derived.Test.YtfcpbgedgedalaaRFnExactThenTurn
import Derived.Test.YtfcpbgedgedalaaPureFnExactThenTurn
import Derived.Test.YtfcpbgedgedalaaLOpens
import Derived.WalkKit
import Derived.ProofKit
import Derived.OpenShut
import Derived.ShutString
import Derived.ChangeOld
import Derived.Below
import Derived.SizedLaws
import Derived.Carry
namespace Go.Proofs.Ytfcpbgedgedalaa.fnExactThenTurn
open Go.ChangeShapes Go.WideShapes Go.ChangeAt Go.RowKit
open Go.ChangeMaps (open_string shut_string)
open Go.Proofs.Ytfcpbgedgedalaa.Q Go.Proofs.YtfcpbgedgedalaaL.PrintWords Go.Proofs.YtfcpbgedgedalaaL.PrintLast Go.Proofs.YtfcpbgedgedalaaL.PrintMore
set_option linter.unusedVariables false
set_option linter.unusedSimpArgs false
theorem own : ownKnob Try.prog.godebug = none := by kernel_rfl
theorem laidOut : laidOutB Try.prog = true := by kernel_rfl
set_option maxRecDepth 100000 in
theorem lifted (os : Os) (started : os.Started) (H : Type) (enc : TypeId × Value → H) :
    ReturnsInHanded {} Try.checked os 8 .any (Rows.fnExactThenTurnSpec.pre6 enc Try.prog Try.f8 Rows.fnExactThenTurnRow.domain false) (Rows.fnExactThenTurnSpec.post enc Try.prog Try.f8 false true false false) := by
  refine returnsInHanded_of_change_sized (C := Try.checked) own started (by kernel_rfl) Try.func8
    (ChangeSpec.witness6 (enc := enc) (C := Try.checked) false ⟨#[], #[(.slice none 0 0), (.slice none 0 0)], []⟩ 8 (by kernel_rfl) (by kernel_rfl) (by kernel_rfl) (by kernel_rfl)) ?_
  intro W base args ds gs before hval0 hW hcnd hsz0 _
  have hval : ∀ (j : Nat) t v, Try.f8.params[j]? = some t → args[j]? = some v → Value.okWide Try.prog W .any base t v := hval0
  have hW' := hW
  obtain ⟨p, q, hA0, hV, rfl, hfz, hnd⟩ := hW
  have hA : DataW.TrodAll enc Try.prog W 0 (fun _ => true) true Try.f8.params.toList args.toList ds p := hA0
  rw [Try.params8] at hA hval
  obtain ⟨v0, vs0, d0, ds0, p0, q0, hargs, rfl, rfl, h0, r0⟩ := trodAll_cons hA
  obtain ⟨v1, vs1, d1, ds1, p1, q1, rfl, rfl, rfl, h1, r1⟩ := trodAll_cons r0
  obtain ⟨rfl, rfl, rfl⟩ := trodAll_nil r1
  obtain rfl : args = #[v0, v1] := by cases args; simp_all
  obtain ⟨rfl, rfl⟩ := trodVars_none hV
  have k0 := h0
  have lt0 : ∀ x ∈ p0, x.block < W.heap.size := by obtain ⟨m, hm⟩ := k0; exact DataW.trod_lt m _ _ _ hm
  obtain ⟨A0, c0, l0, rfl, hc0, hr0, Q0⟩ := opens_sl Try.underlying53 (hval 0 53 v0 rfl rfl) (opens_slice Try.underlying53 (by kernel_rfl) (opens_iso (f := fun x : S105 => (x.f0, x.f1)) (fun y => (⟨y.1, y.2⟩ : S105)) (fun _ => rfl) (opens_struct2 Try.underlying105 (by kernel_rfl) (by kernel_rfl) (opens_string Try.underlying9) (opens_string Try.underlying9)))) h0
  have k1 := h1
  have lt1 : ∀ x ∈ p1, x.block < W.heap.size := by obtain ⟨m, hm⟩ := k1; exact DataW.trod_lt m _ _ _ hm
  obtain ⟨A1, c1, l1, rfl, hc1, hr1, Q1⟩ := opens_sl Try.underlying53 (hval 1 53 v1 rfl rfl) (opens_slice Try.underlying53 (by kernel_rfl) (opens_iso (f := fun x : S105 => (x.f0, x.f1)) (fun y => (⟨y.1, y.2⟩ : S105)) (fun _ => rfl) (opens_struct2 Try.underlying105 (by kernel_rfl) (by kernel_rfl) (opens_string Try.underlying9) (opens_string Try.underlying9)))) h1
  clear hA0 hval0 hsz0
  obtain ⟨k, h⟩ := Pure.FnExactThenTurn l0 l1 Q0 Q1
  refine (laws_FnExactThenTurn.calls k A0 c0 l0 A1 c1 l1 true W hr0 hc0 hr1 hc1 h rfl).mono fun e W' ⟨he, bel0⟩ => ?_
  have bel : Below W.heap.size W W' := bel0
  subst he
  exact ⟨_, rfl, _, _, _, [], _, [], hW', trodAll_mk1 (shut_bool Try.underlying4 _), (trodAll_cons_mk (Below.trod laidOut (by kernel_rfl) (of_decide_eq_true (by kernel_rfl)) k0 bel lt0) (trodAll_cons_mk (Below.trod laidOut (by kernel_rfl) (of_decide_eq_true (by kernel_rfl)) k1 bel lt1) trodAll_mk0)), rfl, bel.frame _, fun h => by cases h⟩
theorem over : Rows.fnExactThenTurnRow.holds Try.pinned (OpenSpec.ofChange Rows.fnExactThenTurnSpec) :=
  OpenClaim.holds_of_wide 8 Try.f8 rfl rfl rfl rfl rfl rfl rfl ⟨rfl, rfl, rfl, rfl, rfl⟩ rfl rfl rfl rfl rfl (by kernel_rfl) Try.func8 (by kernel_rfl)
    (of_decide_eq_true (by kernel_rfl)) (by unfold Func.isWrapper; first | (rw [if_pos (by decide +kernel)]; kernel_rfl) | (rw [if_neg (by decide +kernel)]; exact ⟨rfl, rfl⟩))
    (fun os started H enc _ => lifted os started H enc)
theorem proved : Rows.FnExactThenTurnSaid := over
#print axioms proved
end Go.Proofs.Ytfcpbgedgedalaa.fnExactThenTurn
namespace Go.Proofs.Ytfcpbgedgedalaa
/-- The row, under a short name, for the claim. -/
theorem fnExactThenTurn_holds : Rows.FnExactThenTurnSaid := fnExactThenTurn.proved
end Go.Proofs.Ytfcpbgedgedalaa
