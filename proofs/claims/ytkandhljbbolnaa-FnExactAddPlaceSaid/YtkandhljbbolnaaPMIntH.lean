import Derived.Test.YtkandhljbbolnaaLMore
import Derived.Test.YtkandhljbbolnaaPBase
import Derived.Test.YtkandhljbbolnaaPLoops
import Derived.Test.YtkandhljbbolnaaPMInt
import Derived.Test.YtkandhljbbolnaaPXLoops
import Derived.Test.YtkandhljbbolnaaQ64
namespace Go.Proofs.Ytkandhljbbolnaa.Pure
open Go.RowKit Go.Proofs.Ytkandhljbbolnaa.Q Go.Proofs.YtkandhljbbolnaaL.PrintWords Go.Proofs.YtkandhljbbolnaaL.PrintLast Go.Proofs.YtkandhljbbolnaaL.PrintMore
set_option linter.unusedVariables false
set_option linter.unusedSimpArgs false
theorem p_heldIntS (n : Nat) (hl : n ≤ 1048576) (k : Nat) (hk : 3000000 ≤ k) (m : Int) (m0 : 0 ≤ m) (m1 : m ≤ 100000000) : laws_heldIntS.f k (marked gInt 1 n m) m = some (m + (1 * n : Nat)) := by
  unfold laws_heldIntS.f
  refine loop_held0 (fun k x i => laws_heldIntS.l0 k (marked gInt 1 n m) x i) 1 n 100 k m hl (by omega) m0 m1 (fun k i hk hi g0 g1 => ?_) (fun k x _ => ?_) (by omega)
  · generalize hx : m + ((1 * i : Nat) : Int) = x at g0 g1 ⊢
    have e1 : wrap64 (x + 1) = x + 1 := by rw [wrap_in (by omega) (by omega)]
    simp only [laws_heldIntS.l0]
    rw [if_pos (by rw [marked_length]; omega), if_pos (by omega), rd_nat, marked_at _ _ _ _ _ _ hi, hx, e1]
    simp [gInt]
  · simp only [laws_heldIntS.l0]
    rw [if_neg (by rw [marked_length]; omega)]
end Go.Proofs.Ytkandhljbbolnaa.Pure
