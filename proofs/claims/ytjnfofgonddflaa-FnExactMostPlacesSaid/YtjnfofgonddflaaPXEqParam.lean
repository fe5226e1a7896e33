import Derived.Test.YtjnfofgonddflaaLMore
import Derived.Test.YtjnfofgonddflaaPBase
import Derived.Test.YtjnfofgonddflaaPLoops
import Derived.Test.YtjnfofgonddflaaPXLoops
import Derived.Test.YtjnfofgonddflaaM0FnExactMostPlaces
namespace Go.Proofs.Ytjnfofgonddflaa.Pure
open Go.RowKit Go.Proofs.Ytjnfofgonddflaa.Q Go.Proofs.YtjnfofgonddflaaL.PrintWords Go.Proofs.YtjnfofgonddflaaL.PrintLast Go.Proofs.YtjnfofgonddflaaL.PrintMore
set_option linter.unusedVariables false
set_option linter.unusedSimpArgs false
theorem rd_paramI (l : List S41) (i : Nat) : rd_T41 l (i : Int) = l.getD i z41 := by
  unfold rd_T41
  rw [Int.toNat_natCast]
theorem p_eqParamS (l : List S41) (hl : l.length ≤ 2000000) (k : Nat) (hk : 3000000 ≤ k) : laws_eqParamS.f k l l = some true := by
  unfold laws_eqParamS.f
  rw [if_pos rfl]
  refine loop_true0 (fun k i => laws_eqParamS.l0 k l l i) l.length 0 k (by omega) (fun k i _ hi => ?_) (fun k _ => ?_) (by omega)
  · simp only [laws_eqParamS.l0]
    rw [if_pos (by omega), if_pos (by omega), if_pos (by omega)]
    unfold laws_eqParam.f
    simp
  · simp only [laws_eqParamS.l0]
    rw [if_neg (by omega)]
end Go.Proofs.Ytjnfofgonddflaa.Pure
