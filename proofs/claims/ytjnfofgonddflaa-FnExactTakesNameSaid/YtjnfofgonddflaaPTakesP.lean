import Derived.Test.YtjnfofgonddflaaLMore
import Derived.Test.YtjnfofgonddflaaPBase
import Derived.Test.YtjnfofgonddflaaPKindP
import Derived.Test.YtjnfofgonddflaaPLoops
import Derived.Test.YtjnfofgonddflaaPSigs
import Derived.Test.YtjnfofgonddflaaPWide
import Derived.Test.YtjnfofgonddflaaQ26
import Derived.Test.YtjnfofgonddflaaQ33
import Derived.Test.YtjnfofgonddflaaQ34
namespace Go.Proofs.Ytjnfofgonddflaa.Pure
open Go.RowKit Go.Proofs.Ytjnfofgonddflaa.Q Go.Proofs.YtjnfofgonddflaaL.PrintWords Go.Proofs.YtjnfofgonddflaaL.PrintLast Go.Proofs.YtjnfofgonddflaaL.PrintMore
set_option linter.unusedVariables false
set_option linter.unusedSimpArgs false
def takes (l : List PA) (s : ByteArray) : Int :=
  if 0 ≤ pxIdx (fun x : PA => x.f0.toList == s.toList) l then (if named (rd_T41 l (pxIdx (fun x : PA => x.f0.toList == s.toList) l)) = true then pxIdx (fun x : PA => x.f0.toList == s.toList) l else kAt l 4) else kAt l 4
theorem p_implTakes (l : List PA) (s : ByteArray) : impl_Signature_takes.f l s = some (takes l s) := rfl
theorem p_specTakes (l : List PA) (s : ByteArray) (hl : l.length ≤ 2000000) (k : Nat) (hk : 3000000 ≤ k) : spec_takesName.f k l s = some (takes l s) := by
  unfold spec_takesName.f takes
  rw [p_specFind l s hl k hk, Option.bind_some]
  rcases pxIdx_range (fun x : PA => x.f0.toList == s.toList) l with e | ⟨i, hi, e⟩
  · rw [e, if_neg (by omega), if_neg (by omega), p_kindAt l 4 hl k hk, Option.bind_some]
  · rw [e, if_pos (by omega), if_pos (by omega), if_pos (by omega), if_pos (by omega), p_byName, Option.bind_some, p_kindAt l 4 hl k hk, Option.bind_some]
    split <;> rfl
end Go.Proofs.Ytjnfofgonddflaa.Pure
