import Derived.Test.YtkandhljbbolnaaLMore
import Derived.Test.YtkandhljbbolnaaPBase
import Derived.Test.YtkandhljbbolnaaPLoops
import Derived.Test.YtkandhljbbolnaaPXEqInt
import Derived.Test.YtkandhljbbolnaaPXEqPair
import Derived.Test.YtkandhljbbolnaaPXLoops
import Derived.Test.YtkandhljbbolnaaQ18
namespace Go.Proofs.Ytkandhljbbolnaa.Pure
open Go.RowKit Go.Proofs.Ytkandhljbbolnaa.Q Go.Proofs.YtkandhljbbolnaaL.PrintWords Go.Proofs.YtkandhljbbolnaaL.PrintLast Go.Proofs.YtkandhljbbolnaaL.PrintMore
set_option linter.unusedVariables false
set_option linter.unusedSimpArgs false
theorem p_xeqFlat (ps : List Int) (l : List S94) (hp : ps.length ≤ 2000000) (hl : l.length ≤ 2000000) (k : Nat) (hk : 3000000 ≤ k) : laws_eqFlat.f k ps l ps l = some true := by
  unfold laws_eqFlat.f
  rw [p_eqIntS ps hp k hk, Option.bind_some, if_pos rfl, p_eqPairS l hl k hk, Option.bind_some, if_pos rfl]
end Go.Proofs.Ytkandhljbbolnaa.Pure
