import Derived.Test.YtjcaiekalobmfaaLMore
import Derived.Test.YtjcaiekalobmfaaPBase
import Derived.Test.YtjcaiekalobmfaaPLoops
import Derived.Test.YtjcaiekalobmfaaPMarkText
import Derived.Test.YtjcaiekalobmfaaPXLoops
import Derived.Test.YtjcaiekalobmfaaPXPair
import Derived.Test.YtjcaiekalobmfaaQ62
import Derived.Test.YtjcaiekalobmfaaQ64
namespace Go.Proofs.Ytjcaiekalobmfaa.Pure
open Go.RowKit Go.Proofs.Ytjcaiekalobmfaa.Q Go.Proofs.YtjcaiekalobmfaaL.PrintWords Go.Proofs.YtjcaiekalobmfaaL.PrintLast Go.Proofs.YtjcaiekalobmfaaL.PrintMore
set_option linter.unusedVariables false
set_option linter.unusedSimpArgs false
def gPair (x : Int) : S116 := ⟨mtx (x), x + 1⟩
theorem p_markPairS (l : List S116) (hl : l.length ≤ 1048576) (k : Nat) (hk : 3000000 ≤ k) (m : Int) (m0 : 0 ≤ m) (m1 : m ≤ 100000000) : laws_markPairS.f k l m = some (m + (2 * l.length : Nat), marked gPair 2 l.length m) := by
  unfold laws_markPairS.f
  refine loop_mark0 (fun k acc x i => laws_markPairS.l0 k acc x i) gPair 2 l.length 100 k m l hl (by omega) m0 m1 (fun k acc x i hk hi ha g0 g1 => ?_) (fun k acc x _ ha => ?_) (by omega) rfl
  · have e1 : wrap64 (x + 1) = x + 1 := by rw [wrap_in (by omega) (by omega)]
    have e2 : wrap64 (x + 1 + 1) = x + 2 := by rw [wrap_in (by omega) (by omega)]; omega
    have hset : ∀ (l : List S116) (v w : S116), (l.set i v).set i w = l.set i w := fun l v w => List.set_set ..
    have hget : ∀ v : S116, (acc.set i v).getD i z116 = v := fun v => getD_set _ _ _ _ (by omega)
    simp only [laws_markPairS.l0]
    rw [if_pos (by omega), p_markText x (by omega) k (by omega), Option.bind_some, if_pos (by omega)]
    simp only [Option.bind_some, Int.toNat_natCast, rd_pairI, hget, hset, e1, e2]
    rfl
  · simp only [laws_markPairS.l0]
    rw [if_neg (by omega)]
theorem p_heldPairS (n : Nat) (hl : n ≤ 1048576) (k : Nat) (hk : 3000000 ≤ k) (m : Int) (m0 : 0 ≤ m) (m1 : m ≤ 100000000) : laws_heldPairS.f k (marked gPair 2 n m) m = some (m + (2 * n : Nat)) := by
  unfold laws_heldPairS.f
  refine loop_held0 (fun k x i => laws_heldPairS.l0 k (marked gPair 2 n m) x i) 2 n 100 k m hl (by omega) m0 m1 (fun k i hk hi g0 g1 => ?_) (fun k x _ => ?_) (by omega)
  · generalize hx : m + ((2 * i : Nat) : Int) = x at g0 g1 ⊢
    have e1 : wrap64 (x + 1) = x + 1 := by rw [wrap_in (by omega) (by omega)]
    have e2 : wrap64 (x + 1 + 1) = x + 2 := by rw [wrap_in (by omega) (by omega)]; omega
    simp only [laws_heldPairS.l0]
    rw [if_pos (by rw [marked_length]; omega), if_pos (by omega)]
    simp only [rd_pairI, marked_at _ _ _ _ _ _ hi, hx, e1, e2]
    rw [p_markText (x) (by omega) k (by omega), Option.bind_some]
    simp [gPair]
  · simp only [laws_heldPairS.l0]
    rw [if_neg (by rw [marked_length]; omega)]
end Go.Proofs.Ytjcaiekalobmfaa.Pure
