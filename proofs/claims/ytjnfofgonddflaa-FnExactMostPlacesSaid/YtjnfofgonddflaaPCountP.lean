import Derived.Test.YtjnfofgonddflaaLMore
import Derived.Test.YtjnfofgonddflaaPBase
import Derived.Test.YtjnfofgonddflaaPLoops
import Derived.Test.YtjnfofgonddflaaPSigs
import Derived.Test.YtjnfofgonddflaaPWide
import Derived.Test.YtjnfofgonddflaaM3FnExactMostPlaces
namespace Go.Proofs.Ytjnfofgonddflaa.Pure
open Go.RowKit Go.Proofs.Ytjnfofgonddflaa.Q Go.Proofs.YtjnfofgonddflaaL.PrintWords Go.Proofs.YtjnfofgonddflaaL.PrintLast Go.Proofs.YtjnfofgonddflaaL.PrintMore
set_option linter.unusedVariables false
set_option linter.unusedSimpArgs false
theorem p_placeCount (l : List PA) (hl : l.length ≤ 2000000) (k : Nat) (hk : 3000000 ≤ k) : spec_placeCount.f k l = some (((l.filter placed).length : Nat) : Int) := by
  have key : ∀ (d k i : Nat) (c : Nat), i + d = l.length → d < k → c ≤ i → spec_placeCount.l0 k (c : Int) (i : Int) l = some (((c + ((l.drop i).filter placed).length : Nat)) : Int) := by
    intro d
    induction d with
    | zero =>
      intro k i c h hk hc
      obtain ⟨k, rfl⟩ : ∃ m, k = m + 1 := ⟨k - 1, by omega⟩
      simp only [spec_placeCount.l0]
      rw [if_neg (by omega), List.drop_of_length_le (by omega)]
      simp
    | succ d ih =>
      intro k i c h hk hc
      obtain ⟨k, rfl⟩ : ∃ m, k = m + 1 := ⟨k - 1, by omega⟩
      simp only [spec_placeCount.l0]
      rw [if_pos (by omega), if_pos (by omega), rdpa, p_byPlace, Option.bind_some, wrap_succ (i := i) (n := l.length) (by omega) (by omega), wrap_succ (i := c) (n := 2000001) (by omega) (by omega), drop_getD l paz i (by omega), List.filter_cons]
      have e : (⟨(l.getD i paz).f0, (l.getD i paz).f1, (l.getD i paz).f2, (l.getD i paz).f3⟩ : PA) = l.getD i paz := rfl
      rw [e]
      split
      · rw [ih k (i + 1) (c + 1) (by omega) (by omega) (by omega), List.length_cons]
        congr 1
        omega
      · exact ih k (i + 1) c (by omega) (by omega) (by omega)
  have := key l.length k 0 0 (by omega) (by omega) (by omega)
  unfold spec_placeCount.f
  simpa using this
end Go.Proofs.Ytjnfofgonddflaa.Pure
