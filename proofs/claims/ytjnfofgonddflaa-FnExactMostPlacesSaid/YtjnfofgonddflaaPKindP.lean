import Derived.Test.YtjnfofgonddflaaLMore
import Derived.Test.YtjnfofgonddflaaPBase
import Derived.Test.YtjnfofgonddflaaPLoops
import Derived.Test.YtjnfofgonddflaaPSigs
import Derived.Test.YtjnfofgonddflaaPWide
import Derived.Test.YtjnfofgonddflaaM3FnExactMostPlaces
import Derived.Test.YtjnfofgonddflaaM4FnExactMostPlaces
namespace Go.Proofs.Ytjnfofgonddflaa.Pure
open Go.RowKit Go.Proofs.Ytjnfofgonddflaa.Q Go.Proofs.YtjnfofgonddflaaL.PrintWords Go.Proofs.YtjnfofgonddflaaL.PrintLast Go.Proofs.YtjnfofgonddflaaL.PrintMore
set_option linter.unusedVariables false
set_option linter.unusedSimpArgs false
def kAt (l : List PA) (c : Int) : Int := pxIdx (fun x : PA => x.f1 == c) l
theorem p_kindAt (l : List PA) (c : Int) (hl : l.length ≤ 2000000) (k : Nat) (hk : 3000000 ≤ k) : spec_kindAt.f k l c = some (kAt l c) := by
  unfold spec_kindAt.f kAt
  refine loop_find0 (fun k i => spec_kindAt.l0 k l c i) l paz _ 0 k (by omega) (fun k i _ hi => ?_) (fun k _ => ?_) (by omega)
  · simp only [spec_kindAt.l0]
    rw [if_pos (by omega), if_pos (by omega), rdpa]
    simp only [beq_iff_eq]
  · simp only [spec_kindAt.l0]
    rw [if_neg (by omega)]
theorem p_has (l : List PA) (c : Int) : impl_Signature_has.f l c = some (decide (kAt l c ≥ 0)) := by
  unfold impl_Signature_has.f kAt
  rw [pxIdx_any]
end Go.Proofs.Ytjnfofgonddflaa.Pure
