import Derived.Test.YtkandhljbbolnaaLMore
import Derived.Test.YtkandhljbbolnaaPBase
import Derived.Test.YtkandhljbbolnaaPLoops
import Derived.Test.YtkandhljbbolnaaPPairs
import Derived.Test.YtkandhljbbolnaaPXFlat
import Derived.Test.YtkandhljbbolnaaPXLoops
import Derived.Test.YtkandhljbbolnaaQ15
import Derived.Test.YtkandhljbbolnaaQ19
import Derived.Test.YtkandhljbbolnaaQ7
import Derived.Test.YtkandhljbbolnaaRFnExactValidFlat
namespace Go.Proofs.Ytkandhljbbolnaa.Pure
open Go.RowKit Go.Proofs.Ytkandhljbbolnaa.Q Go.Proofs.YtkandhljbbolnaaL.PrintWords Go.Proofs.YtkandhljbbolnaaL.PrintLast Go.Proofs.YtkandhljbbolnaaL.PrintMore
set_option linter.unusedVariables false
set_option linter.unusedSimpArgs false
theorem FnExactValidFlat : laws_FnExactValidFlat.Pure := by
  intro ps l ⟨hp, _⟩ ⟨hl, hs⟩
  obtain ⟨K, hK⟩ : ∃ K : Nat, K = 60000000 := ⟨_, rfl⟩
  refine ⟨K, ?_⟩
  unfold laws_FnExactValidFlat.f
  obtain ⟨r, hr, hc⟩ := p_szFlat ps l hp hl (fun x hx => (hs x hx).1) K (by omega)
  rw [hr, Option.bind_some]
  rcases hc with hc | ⟨c0, c1, c2, c3⟩
  · rw [if_pos hc]
  rw [if_neg (by omega), p_toFlat ps l (by omega) (by omega) K (by omega)]
  simp only [Option.bind_some]
  have h1 : (l.map cPair).length ≤ 1048576 := by rw [List.length_map]; exact c2
  have h2 := cPair_small c3
  generalize l.map cPair = ns at h1 h2
  unfold spec_ValidFlat.f
  rw [p_specFlat ps ns (by omega) (by omega) h2 K (by omega), p_implFlat ps ns (by omega) h2 K (by omega)]
  simp only [Option.bind_some]
  rw [p_xeqFlat ps ns (by omega) (by omega) K (by omega)]
  simp
end Go.Proofs.Ytkandhljbbolnaa.Pure
