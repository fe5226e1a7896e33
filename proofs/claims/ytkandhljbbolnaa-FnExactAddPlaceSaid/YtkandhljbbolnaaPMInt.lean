import Derived.Test.YtkandhljbbolnaaLMore
import Derived.Test.YtkandhljbbolnaaPBase
import Derived.Test.YtkandhljbbolnaaPLoops
import Derived.Test.YtkandhljbbolnaaPXLoops
import Derived.Test.YtkandhljbbolnaaQ62
namespace Go.Proofs.Ytkandhljbbolnaa.Pure
open Go.RowKit Go.Proofs.Ytkandhljbbolnaa.Q Go.Proofs.YtkandhljbbolnaaL.PrintWords Go.Proofs.YtkandhljbbolnaaL.PrintLast Go.Proofs.YtkandhljbbolnaaL.PrintMore
set_option linter.unusedVariables false
set_option linter.unusedSimpArgs false
def gInt (x : Int) : Int := x
theorem p_markIntS (l : List Int) (hl : l.length ≤ 1048576) (k : Nat) (hk : 3000000 ≤ k) (m : Int) (m0 : 0 ≤ m) (m1 : m ≤ 100000000) : laws_markIntS.f k l m = some (m + (1 * l.length : Nat), marked gInt 1 l.length m) := by
  unfold laws_markIntS.f
  refine loop_mark0 (fun k acc x i => laws_markIntS.l0 k acc x i) gInt 1 l.length 100 k m l hl (by omega) m0 m1 (fun k acc x i hk hi ha g0 g1 => ?_) (fun k acc x _ ha => ?_) (by omega) rfl
  · have e1 : wrap64 (x + 1) = x + 1 := by rw [wrap_in (by omega) (by omega)]
    simp only [laws_markIntS.l0]
    rw [if_pos (by omega), if_pos (by omega), e1, Int.toNat_natCast]
    rfl
  · simp only [laws_markIntS.l0]
    rw [if_neg (by omega)]
end Go.Proofs.Ytkandhljbbolnaa.Pure
