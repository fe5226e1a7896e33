import Derived.Test.YtkandhljbbolnaaLMore
import Derived.Test.YtkandhljbbolnaaPBase
import Derived.Test.YtkandhljbbolnaaPLoops
import Derived.Test.YtkandhljbbolnaaPMPair
import Derived.Test.YtkandhljbbolnaaPMarkText
import Derived.Test.YtkandhljbbolnaaPXEqPair
import Derived.Test.YtkandhljbbolnaaPXLoops
import Derived.Test.YtkandhljbbolnaaQ62
import Derived.Test.YtkandhljbbolnaaQ65
namespace Go.Proofs.Ytkandhljbbolnaa.Pure
open Go.RowKit Go.Proofs.Ytkandhljbbolnaa.Q Go.Proofs.YtkandhljbbolnaaL.PrintWords Go.Proofs.YtkandhljbbolnaaL.PrintLast Go.Proofs.YtkandhljbbolnaaL.PrintMore
set_option linter.unusedVariables false
set_option linter.unusedSimpArgs false
theorem p_heldPairS (n : Nat) (hl : n ≤ 1048576) (k : Nat) (hk : 3000000 ≤ k) (m : Int) (m0 : 0 ≤ m) (m1 : m ≤ 100000000) : laws_heldPairS.f k (marked gPair 2 n m) m = some (m + (2 * n : Nat)) := by
  unfold laws_heldPairS.f
  refine loop_held0 (fun k x i => laws_heldPairS.l0 k (marked gPair 2 n m) x i) 2 n 100 k m hl (by omega) m0 m1 (fun k i hk hi g0 g1 => ?_) (fun k x _ => ?_) (by omega)
  · generalize hx : m + ((2 * i : Nat) : Int) = x at g0 g1 ⊢
    have e1 : wrap64 (x + 1) = x + 1 := by rw [wrap_in (by omega) (by omega)]
    have e2 : wrap64 (x + 1 + 1) = x + 2 := by rw [wrap_in (by omega) (by omega)]; omega
    simp only [laws_heldPairS.l0]
    rw [if_pos (by rw [marked_length]; omega), if_pos (by omega)]
    simp only [rd_pairI, marked_at _ _ _ _ _ _ hi, hx, e1, e2]
    rw [p_markText (x) (by omega) k (by omega), Option.bind_some]
    simp [gPair]
  · simp only [laws_heldPairS.l0]
    rw [if_neg (by rw [marked_length]; omega)]
end Go.Proofs.Ytkandhljbbolnaa.Pure
