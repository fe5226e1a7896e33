import Derived.Test.YtkandhljbbolnaaLMore
import Derived.Test.YtkandhljbbolnaaPBase
import Derived.Test.YtkandhljbbolnaaPLoops
import Derived.Test.YtkandhljbbolnaaPMInt
import Derived.Test.YtkandhljbbolnaaPMIntH
import Derived.Test.YtkandhljbbolnaaPMPair
import Derived.Test.YtkandhljbbolnaaPMPairH
import Derived.Test.YtkandhljbbolnaaPMarkText
import Derived.Test.YtkandhljbbolnaaPXLoops
import Derived.Test.YtkandhljbbolnaaQ63
import Derived.Test.YtkandhljbbolnaaQ66
namespace Go.Proofs.Ytkandhljbbolnaa.Pure
open Go.RowKit Go.Proofs.Ytkandhljbbolnaa.Q Go.Proofs.YtkandhljbbolnaaL.PrintWords Go.Proofs.YtkandhljbbolnaaL.PrintLast Go.Proofs.YtkandhljbbolnaaL.PrintMore
set_option linter.unusedVariables false
set_option linter.unusedSimpArgs false
def mFlat1 (ps : List Int) : List Int := marked gInt 1 ps.length 1
def mFlat2 (ps : List Int) (l : List S94) : List S94 := marked gPair 2 l.length (1 + (1 * ps.length : Nat))
theorem p_markFlat (ps : List Int) (l : List S94) (hp : ps.length ≤ 1048576) (hl : l.length ≤ 1048576) (k : Nat) (hk : 3000000 ≤ k) :
    laws_markFlat.f k ps l 1 = some ((1 : Int) + (1 * ps.length : Nat) + (2 * l.length : Nat), mFlat1 ps, mFlat2 ps l) := by
  unfold laws_markFlat.f
  rw [p_markIntS ps hp k hk 1 (by omega) (by omega), Option.bind_some]
  dsimp only
  rw [p_markPairS l hl k hk _ (by omega) (by omega), Option.bind_some]
  rfl
theorem p_heldFlat (ps : List Int) (l : List S94) (hp : ps.length ≤ 1048576) (hl : l.length ≤ 1048576) (k : Nat) (hk : 3000000 ≤ k) :
    laws_heldFlat.f k (mFlat1 ps) (mFlat2 ps l) 1 = some ((1 : Int) + (1 * ps.length : Nat) + (2 * l.length : Nat)) := by
  unfold laws_heldFlat.f mFlat1 mFlat2
  rw [p_heldIntS _ hp k hk 1 (by omega) (by omega), Option.bind_some, if_neg (by omega), p_heldPairS _ hl k hk _ (by omega) (by omega), Option.bind_some, if_neg (by omega)]
end Go.Proofs.Ytkandhljbbolnaa.Pure
