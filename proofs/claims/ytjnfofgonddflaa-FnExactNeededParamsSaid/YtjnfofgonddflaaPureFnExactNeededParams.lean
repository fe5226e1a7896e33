-- written by px.py and merge.py (programs of this claim's), over the kit's print. Not trusted: Lean checks it.
import Derived.Test.YtjnfofgonddflaaLMore
import Derived.Test.YtjnfofgonddflaaN0FnExactNeededParams
import Derived.Test.YtjnfofgonddflaaM3FnExactNeededParams
import Derived.Test.YtjnfofgonddflaaM4FnExactNeededParams
import Derived.Test.YtjnfofgonddflaaM5FnExactNeededParams
import Derived.Test.YtjnfofgonddflaaRFnExactNeededParams
namespace Go.Proofs.Ytjnfofgonddflaa.Pure
open Go.RowKit Go.Proofs.Ytjnfofgonddflaa.Q Go.Proofs.YtjnfofgonddflaaL.PrintWords Go.Proofs.YtjnfofgonddflaaL.PrintLast Go.Proofs.YtjnfofgonddflaaL.PrintMore
set_option linter.unusedVariables false
set_option linter.unusedSimpArgs false
theorem FnExactNeededParams : laws_FnExactNeededParams.Pure := by
  intro l ⟨hl, hs⟩
  obtain ⟨K, hK⟩ : ∃ K : Nat, K = 60000000 := ⟨_, rfl⟩
  refine ⟨K, ?_⟩
  unfold laws_FnExactNeededParams.f
  obtain ⟨r, hr, hc⟩ := p_szSig l hl (fun x hx => (hs x hx).1) K (by omega) 1048576 (by omega) (by omega)
  rw [hr, Option.bind_some]
  rcases hc with hc | ⟨c0, _, c1, c2⟩
  · rw [if_pos hc]
  rw [if_neg (by omega), p_toSig l (by omega) K (by omega)]
  simp only [Option.bind_some]
  have h1 : (l.map cParam).length ≤ 1048576 := by rw [List.length_map]; exact c1
  have h2 := cParam_small c2
  generalize l.map cParam = ps at h1 h2
  have hT := neededOf_len ps
  rw [p_implNeeded ps (by omega) h2 K (by omega), p_specNeeded ps (by omega) h2 K (by omega)]
  simp only [Option.bind_some]
  replace hT : (neededOf ps).length ≤ 1048576 := by omega
  generalize hrs : neededOf ps = rs at hT
  rw [p_eqStringS rs (by omega) K (by omega), p_xeqSig ps (by omega) K (by omega), p_markSig ps h1 K (by omega), p_markStringS rs hT K (by omega) 1 (by omega) (by omega)]
  simp only [Option.bind_some, if_true]
  rw [p_heldStringS rs.length hT K (by omega) 1 (by omega) (by omega)]
  have n1 : ¬ ((1 : Int) + (4 * ps.length : Nat) < 0) := by omega
  have n2 : ¬ ((1 : Int) + (1 * rs.length : Nat) < 0) := by omega
  simp only [Option.bind_some, if_neg n1, if_neg n2, if_true]
end Go.Proofs.Ytjnfofgonddflaa.Pure
