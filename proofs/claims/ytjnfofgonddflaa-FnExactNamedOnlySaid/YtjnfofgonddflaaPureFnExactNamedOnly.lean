-- written by px.py and merge.py (programs of this claim's), over the kit's print. Not trusted: Lean checks it.
import Derived.Test.YtjnfofgonddflaaLMore
import Derived.Test.YtjnfofgonddflaaN0FnExactNamedOnly
import Derived.Test.YtjnfofgonddflaaM4FnExactNamedOnly
import Derived.Test.YtjnfofgonddflaaM6FnExactNamedOnly
import Derived.Test.YtjnfofgonddflaaM7FnExactNamedOnly
import Derived.Test.YtjnfofgonddflaaRFnExactNamedOnly
namespace Go.Proofs.Ytjnfofgonddflaa.Pure
open Go.RowKit Go.Proofs.Ytjnfofgonddflaa.Q Go.Proofs.YtjnfofgonddflaaL.PrintWords Go.Proofs.YtjnfofgonddflaaL.PrintLast Go.Proofs.YtjnfofgonddflaaL.PrintMore
set_option linter.unusedVariables false
set_option linter.unusedSimpArgs false
theorem FnExactNamedOnly : laws_FnExactNamedOnly.Pure := by
  intro l ⟨hl, hs⟩
  obtain ⟨K, hK⟩ : ∃ K : Nat, K = 60000000 := ⟨_, rfl⟩
  refine ⟨K, ?_⟩
  unfold laws_FnExactNamedOnly.f
  obtain ⟨r, hr, hc⟩ := p_szSig l hl (fun x hx => (hs x hx).1) K (by omega) 1048576 (by omega) (by omega)
  rw [hr, Option.bind_some]
  rcases hc with hc | ⟨c0, _, c1, c2⟩
  · rw [if_pos hc]
  rw [if_neg (by omega), p_toSig l (by omega) K (by omega)]
  simp only [Option.bind_some]
  have h1 : (l.map cParam).length ≤ 1048576 := by rw [List.length_map]; exact c1
  have h2 := cParam_small c2
  generalize l.map cParam = ps at h1 h2
  have hT := namedOnly_len ps
  rw [p_specNamed ps (by omega) h2 K (by omega), p_implNamed ps (by omega) h2 K (by omega)]
  simp only [Option.bind_some]
  replace hT : (namedOnly ps).1.length ≤ 1048576 := by omega
  generalize namedOnly ps = out at hT
  obtain ⟨rs, ok⟩ := out
  dsimp only at hT ⊢
  rw [p_xeqSig rs (by omega) K (by omega), p_xeqSig ps (by omega) K (by omega), p_markSig ps h1 K (by omega), p_markSig rs hT K (by omega)]
  simp only [Option.bind_some, bne_self_eq_false, Bool.false_eq_true, if_true, if_false]
  rw [p_heldSig rs.length hT K (by omega)]
  have n1 : ¬ ((1 : Int) + (4 * ps.length : Nat) < 0) := by omega
  have n2 : ¬ ((1 : Int) + (4 * rs.length : Nat) < 0) := by omega
  simp only [Option.bind_some, if_neg n1, if_neg n2, if_true]
end Go.Proofs.Ytjnfofgonddflaa.Pure
