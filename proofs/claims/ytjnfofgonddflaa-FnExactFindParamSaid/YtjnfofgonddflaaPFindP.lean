import Derived.Test.YtjnfofgonddflaaLMore
import Derived.Test.YtjnfofgonddflaaPBase
import Derived.Test.YtjnfofgonddflaaPLoops
import Derived.Test.YtjnfofgonddflaaPSigs
import Derived.Test.YtjnfofgonddflaaPSigsP
import Derived.Test.YtjnfofgonddflaaPWide
import Derived.Test.YtjnfofgonddflaaQ21
namespace Go.Proofs.Ytjnfofgonddflaa.Pure
open Go.RowKit Go.Proofs.Ytjnfofgonddflaa.Q Go.Proofs.YtjnfofgonddflaaL.PrintWords Go.Proofs.YtjnfofgonddflaaL.PrintLast Go.Proofs.YtjnfofgonddflaaL.PrintMore
set_option linter.unusedVariables false
set_option linter.unusedSimpArgs false
def fnd (l : List PA) (s : ByteArray) : Int := if vsig l = true then pxIdx (fun x : PA => x.f0.toList == s.toList) l else -1
theorem p_implFindParam (l : List PA) (s : ByteArray) (hl : l.length ≤ 2000000) (hs : ∀ x ∈ l, x.f0.size ≤ 2000000) (k : Nat) (hk : 14000000 ≤ k) : impl_FindParam.f k l s = some (fnd l s) := by
  unfold impl_FindParam.f fnd
  rw [p_implSig l hl hs k hk, Option.bind_some]
  split <;> rfl
theorem idx_none {l : List PA} {s : ByteArray} (h : ∀ x ∈ l, x.f0 ≠ s) : pxIdx (fun x : PA => x.f0.toList == s.toList) l = -1 := by
  refine pxIdx_miss _ l paz (fun j hj => ?_)
  rw [getD_at l paz j hj, beq_eq_false_iff_ne, Ne, bt_eqv]
  exact h _ (List.getElem_mem _)
theorem idx_some {l : List PA} {s : ByteArray} {i : Nat} (e : pxIdx (fun x : PA => x.f0.toList == s.toList) l = (i : Int)) : ∃ h : i < l.length, l[i].f0 = s := by
  unfold pxIdx at e
  cases hf : l.findIdx? (fun x : PA => x.f0.toList == s.toList) with
  | none => rw [hf] at e; simp at e <;> omega
  | some j =>
    rw [hf] at e
    have : j = i := by
      simp only at e
      omega
    subst this
    rw [List.findIdx?_eq_some_iff_getElem] at hf
    obtain ⟨h1, h2, _⟩ := hf
    exact ⟨h1, (bt_eqv _ _).1 (by simpa using h2)⟩
end Go.Proofs.Ytjnfofgonddflaa.Pure
