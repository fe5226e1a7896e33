import Derived.Test.YtjcaiekalobmfaaLMore
import Derived.Test.YtjcaiekalobmfaaPBase
import Derived.Test.YtjcaiekalobmfaaPLoops
import Derived.Test.YtjcaiekalobmfaaPPairs
import Derived.Test.YtjcaiekalobmfaaQ71
namespace Go.Proofs.Ytjcaiekalobmfaa.Pure
open Go.RowKit Go.Proofs.Ytjcaiekalobmfaa.Q Go.Proofs.YtjcaiekalobmfaaL.PrintWords Go.Proofs.YtjcaiekalobmfaaL.PrintLast Go.Proofs.YtjcaiekalobmfaaL.PrintMore
set_option linter.unusedVariables false
set_option linter.unusedSimpArgs false
def putP (l : List PR) (x : PR) : List PR := if pxIdx (fun y : PR => y.f0.toList == x.f0.toList) l ≥ 0 then l.set (pxIdx (fun y : PR => y.f0.toList == x.f0.toList) l).toNat x else l ++ [x]
theorem p_putPair (l : List PR) (s : ByteArray) (v : Int) (hl : l.length ≤ 2000000) (k : Nat) (hk : 3000000 ≤ k) : spec_putPair.f k l s v = some (putP l ⟨s, v⟩) := by
  unfold spec_putPair.f putP
  rw [Option.bind_some, if_pos (by simp; omega), Option.bind_some, List.nil_append, p_specPairAt l s hl k hk, Option.bind_some]
  dsimp only
  rcases pxIdx_range (fun x : PR => x.f0.toList == s.toList) l with e | ⟨i, hi, e⟩
  · rw [e, if_neg (by omega), if_pos (by omega), if_neg (by omega)]
  · rw [e, if_pos (by omega), if_pos (by omega), if_pos (by omega), if_pos (by omega)]
theorem putP_len (l : List PR) (x : PR) : (putP l x).length ≤ l.length + 1 := by
  unfold putP
  split
  · rw [List.length_set]; omega
  · rw [List.length_append]; simp
theorem putP_mem (l : List PR) (x y : PR) (h : y ∈ putP l x) : y = x ∨ y ∈ l := by
  unfold putP at h
  split at h
  · rcases List.mem_or_eq_of_mem_set h with h | h
    · exact .inr h
    · exact .inl h
  · simp at h
    rcases h with h | h
    · exact .inr h
    · exact .inl h
end Go.Proofs.Ytjcaiekalobmfaa.Pure
