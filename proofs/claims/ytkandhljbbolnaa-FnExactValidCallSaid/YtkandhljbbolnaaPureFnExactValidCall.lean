-- written by px.py and merge.py (programs of this claim's), over the kit's print. Not trusted: Lean checks it.
import Derived.Test.YtkandhljbbolnaaLMore
import Derived.Test.YtkandhljbbolnaaN0FnExactValidCall
import Derived.Test.YtkandhljbbolnaaM0FnExactValidCall
import Derived.Test.YtkandhljbbolnaaM1FnExactValidCall
import Derived.Test.YtkandhljbbolnaaM5FnExactValidCall
import Derived.Test.YtkandhljbbolnaaRFnExactValidCall
namespace Go.Proofs.Ytkandhljbbolnaa.Pure
open Go.RowKit Go.Proofs.Ytkandhljbbolnaa.Q Go.Proofs.YtkandhljbbolnaaL.PrintWords Go.Proofs.YtkandhljbbolnaaL.PrintLast Go.Proofs.YtkandhljbbolnaaL.PrintMore
set_option linter.unusedVariables false
set_option linter.unusedSimpArgs false
theorem FnExactValidCall : laws_FnExactValidCall.Pure := by
  intro l ⟨hl, hs⟩
  obtain ⟨K, hK⟩ : ∃ K : Nat, K = 60000000 := ⟨_, rfl⟩
  refine ⟨K, ?_⟩
  unfold laws_FnExactValidCall.f
  obtain ⟨r, hr, hc⟩ := p_szCall l hl (fun x hx => ⟨(hs x hx).2.1, (hs x hx).2.2.1.1, (hs x hx).2.2.2.1, fun y hy => ((hs x hx).2.2.2.2 y hy).1⟩) K (by omega) 1048576 (by omega) (by omega)
  rw [hr, Option.bind_some]
  rcases hc with hc | ⟨c0, _, c1, c2⟩
  · rw [if_pos hc]
  rw [if_neg (by omega), p_toCall l (by omega) c2 K (by omega)]
  simp only [Option.bind_some]
  have h1 : (l.map cArg).length ≤ 1048576 := by rw [List.length_map]; exact c1
  have h2 : ∀ x ∈ l.map cArg, SmallA x := by
    intro x hx
    obtain ⟨y, hy, rfl⟩ := List.mem_map.1 hx
    exact cArg_small (c2 y hy)
  generalize l.map cArg = xs at h1 h2
  unfold spec_ValidCall.f
  rw [p_specCall xs (by omega) h2 K (by omega), p_implCall xs (by omega) h2 K (by omega)]
  simp only [Option.bind_some]
  rw [p_eqCall xs (by omega) h2 K (by omega)]
  simp
end Go.Proofs.Ytkandhljbbolnaa.Pure
