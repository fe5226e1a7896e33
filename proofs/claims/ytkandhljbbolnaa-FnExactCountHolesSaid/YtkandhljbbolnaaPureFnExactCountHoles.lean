import Derived.Test.YtkandhljbbolnaaLMore
import Derived.Test.YtkandhljbbolnaaPBase
import Derived.Test.YtkandhljbbolnaaPCountHP
import Derived.Test.YtkandhljbbolnaaPHoles
import Derived.Test.YtkandhljbbolnaaPLoops
import Derived.Test.YtkandhljbbolnaaPPairs
import Derived.Test.YtkandhljbbolnaaPXHoles
import Derived.Test.YtkandhljbbolnaaPXLoops
import Derived.Test.YtkandhljbbolnaaPXPair
import Derived.Test.YtkandhljbbolnaaPXPlace
import Derived.Test.YtkandhljbbolnaaQ78
import Derived.Test.YtkandhljbbolnaaQ79
import Derived.Test.YtkandhljbbolnaaQ80
import Derived.Test.YtkandhljbbolnaaRFnExactCountHoles
namespace Go.Proofs.Ytkandhljbbolnaa.Pure
open Go.RowKit Go.Proofs.Ytkandhljbbolnaa.Q Go.Proofs.YtkandhljbbolnaaL.PrintWords Go.Proofs.YtkandhljbbolnaaL.PrintLast Go.Proofs.YtkandhljbbolnaaL.PrintMore
set_option linter.unusedVariables false
set_option linter.unusedSimpArgs false
theorem FnExactCountHoles : laws_FnExactCountHoles.Pure := by
  intro ps l ⟨hp, _⟩ ⟨hl, hs⟩
  obtain ⟨K, hK⟩ : ∃ K : Nat, K = 60000000 := ⟨_, rfl⟩
  refine ⟨K, ?_⟩
  unfold laws_FnExactCountHoles.f
  obtain ⟨r, hr, hc⟩ := p_szHoles ps l hp hl (fun x hx => (hs x hx).1) K (by omega)
  rw [hr, Option.bind_some]
  rcases hc with hc | ⟨c0, c1, c2, c3⟩
  · rw [if_pos hc]
  rw [if_neg (by omega), p_toHoles ps l (by omega) (by omega) K (by omega)]
  simp only [Option.bind_some]
  have h1 : (l.map cPair).length ≤ 1048576 := by rw [List.length_map]; exact c2
  have h0 : (ps.map cPlace).length ≤ 1048576 := by rw [List.length_map]; exact c1
  have h2 := cPairH_small c3
  generalize l.map cPair = ns at h1 h2
  generalize ps.map cPlace = qs at h0
  rw [p_specCountH qs ns (by omega) (by omega) h2 K (by omega), p_implCountH qs ns (by omega) (by omega) h2 K (by omega)]
  simp only [Option.bind_some]
  rw [p_xeqHoles qs ns (by omega) (by omega) K (by omega)]
  simp
end Go.Proofs.Ytkandhljbbolnaa.Pure
