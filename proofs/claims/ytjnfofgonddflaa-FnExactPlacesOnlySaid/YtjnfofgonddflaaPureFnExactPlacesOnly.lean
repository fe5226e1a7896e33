-- written by px.py and merge.py (programs of this claim's), over the kit's print. Not trusted: Lean checks it.
import Derived.Test.YtjnfofgonddflaaLMore
import Derived.Test.YtjnfofgonddflaaN0FnExactPlacesOnly
import Derived.Test.YtjnfofgonddflaaM4FnExactPlacesOnly
import Derived.Test.YtjnfofgonddflaaM6FnExactPlacesOnly
import Derived.Test.YtjnfofgonddflaaM7FnExactPlacesOnly
import Derived.Test.YtjnfofgonddflaaRFnExactPlacesOnly
namespace Go.Proofs.Ytjnfofgonddflaa.Pure
open Go.RowKit Go.Proofs.Ytjnfofgonddflaa.Q Go.Proofs.YtjnfofgonddflaaL.PrintWords Go.Proofs.YtjnfofgonddflaaL.PrintLast Go.Proofs.YtjnfofgonddflaaL.PrintMore
set_option linter.unusedVariables false
set_option linter.unusedSimpArgs false
theorem FnExactPlacesOnly : laws_FnExactPlacesOnly.Pure := by
  intro l ⟨hl, hs⟩
  obtain ⟨K, hK⟩ : ∃ K : Nat, K = 60000000 := ⟨_, rfl⟩
  refine ⟨K, ?_⟩
  unfold laws_FnExactPlacesOnly.f
  obtain ⟨r, hr, hc⟩ := p_szSig l hl (fun x hx => (hs x hx).1) K (by omega) 1048576 (by omega) (by omega)
  rw [hr, Option.bind_some]
  rcases hc with hc | ⟨c0, _, c1, c2⟩
  · rw [if_pos hc]
  rw [if_neg (by omega), p_toSig l (by omega) K (by omega)]
  simp only [Option.bind_some]
  have h1 : (l.map cParam).length ≤ 1048576 := by rw [List.length_map]; exact c1
  have h2 := cParam_small c2
  generalize l.map cParam = ps at h1 h2
  have hT : (if vsig ps = true then kindsTo ps 0 else []).length ≤ 1048576 := by
    split
    · rw [kindsTo_length]; omega
    · simp
  have impl : impl_PlacesOnly.f K ps = some (if vsig ps = true then kindsTo ps 0 else []) := by
    unfold impl_PlacesOnly.f
    rw [p_implSig ps (by omega) h2 K (by omega), Option.bind_some, p_kinds ps 0 (by omega) K (by omega)]
    split <;> rfl
  have spec : spec_PlacesOnly.f K ps = some (if vsig ps = true then kindsTo ps 0 else []) := by
    unfold spec_PlacesOnly.f spec_validSignature.f
    rw [p_specSig ps (by omega) h2 K (by omega), Option.bind_some, Option.bind_some, p_copyParams ps (by omega), Option.bind_some]
    split
    · have := loop_setl0 (fun k acc i => spec_PlacesOnly.l0 k acc i) (kindTo 0) ps paz 100 K (by omega) (fun k acc i hk hi ha he => ?_) (fun k acc hk ha => ?_) (by omega)
      · exact this
      · simp only [spec_PlacesOnly.l0]
        rw [if_pos (by omega), if_pos (by omega), rdpa, Int.toNat_natCast, he]
        unfold kindTo
        split
        · rfl
        · rw [← he, set_self]
      · simp only [spec_PlacesOnly.l0]
        rw [if_neg (by omega)]
    · rfl
  rw [impl, spec]
  simp only [Option.bind_some]
  generalize (if vsig ps = true then kindsTo ps 0 else []) = rs at hT
  rw [p_xeqSig rs (by omega) K (by omega), p_xeqSig ps (by omega) K (by omega), p_markSig ps h1 K (by omega), p_markSig rs hT K (by omega)]
  simp only [Option.bind_some, bne_self_eq_false, Bool.false_eq_true, if_true, if_false]
  rw [p_heldSig rs.length hT K (by omega)]
  have n1 : ¬ ((1 : Int) + (4 * ps.length : Nat) < 0) := by omega
  have n2 : ¬ ((1 : Int) + (4 * rs.length : Nat) < 0) := by omega
  simp only [Option.bind_some, if_neg n1, if_neg n2, if_true]
end Go.Proofs.Ytjnfofgonddflaa.Pure
