import Derived.Test.YtkandhljbbolnaaLMore
import Derived.Test.YtkandhljbbolnaaPBase
import Derived.Test.YtkandhljbbolnaaPLoops
import Derived.Test.YtkandhljbbolnaaPMarkText
import Derived.Test.YtkandhljbbolnaaPXEqPair
import Derived.Test.YtkandhljbbolnaaPXLoops
import Derived.Test.YtkandhljbbolnaaQ62
import Derived.Test.YtkandhljbbolnaaQ63
namespace Go.Proofs.Ytkandhljbbolnaa.Pure
open Go.RowKit Go.Proofs.Ytkandhljbbolnaa.Q Go.Proofs.YtkandhljbbolnaaL.PrintWords Go.Proofs.YtkandhljbbolnaaL.PrintLast Go.Proofs.YtkandhljbbolnaaL.PrintMore
set_option linter.unusedVariables false
set_option linter.unusedSimpArgs false
def gPair (x : Int) : S94 := ⟨mtx (x), x + 1⟩
theorem p_markPairS (l : List S94) (hl : l.length ≤ 1048576) (k : Nat) (hk : 3000000 ≤ k) (m : Int) (m0 : 0 ≤ m) (m1 : m ≤ 100000000) : laws_markPairS.f k l m = some (m + (2 * l.length : Nat), marked gPair 2 l.length m) := by
  unfold laws_markPairS.f
  refine loop_mark0 (fun k acc x i => laws_markPairS.l0 k acc x i) gPair 2 l.length 100 k m l hl (by omega) m0 m1 (fun k acc x i hk hi ha g0 g1 => ?_) (fun k acc x _ ha => ?_) (by omega) rfl
  · have e1 : wrap64 (x + 1) = x + 1 := by rw [wrap_in (by omega) (by omega)]
    have e2 : wrap64 (x + 1 + 1) = x + 2 := by rw [wrap_in (by omega) (by omega)]; omega
    have hset : ∀ (l : List S94) (v w : S94), (l.set i v).set i w = l.set i w := fun l v w => List.set_set ..
    have hget : ∀ v : S94, (acc.set i v).getD i z94 = v := fun v => getD_set _ _ _ _ (by omega)
    simp only [laws_markPairS.l0]
    rw [if_pos (by omega), p_markText x (by omega) k (by omega), Option.bind_some, if_pos (by omega)]
    simp only [Option.bind_some, Int.toNat_natCast, rd_pairI, hget, hset, e1, e2]
    rfl
  · simp only [laws_markPairS.l0]
    rw [if_neg (by omega)]
end Go.Proofs.Ytkandhljbbolnaa.Pure
