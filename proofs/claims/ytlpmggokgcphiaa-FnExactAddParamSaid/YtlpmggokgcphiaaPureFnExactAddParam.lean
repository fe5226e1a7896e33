-- written by px.py and merge.py (programs of this claim's), over the kit's print. Not trusted: Lean checks it.
import Derived.Test.YtlpmggokgcphiaaVFnExactAddParam
import Derived.Test.YtlpmggokgcphiaaN0FnExactAddParam
import Derived.Test.YtlpmggokgcphiaaM2FnExactAddParam
import Derived.Test.YtlpmggokgcphiaaM5FnExactAddParam
import Derived.Test.YtlpmggokgcphiaaM6FnExactAddParam
import Derived.Test.YtlpmggokgcphiaaM8FnExactAddParam
import Derived.Test.YtlpmggokgcphiaaRFnExactAddParam
namespace Go.Proofs.Ytlpmggokgcphiaa.Pure
open Go.RowKit Go.Proofs.Ytlpmggokgcphiaa.Q Go.Proofs.YtlpmggokgcphiaaL.PrintWords Go.Proofs.YtlpmggokgcphiaaL.PrintLast Go.Proofs.YtlpmggokgcphiaaL.PrintMore
set_option linter.unusedVariables false
set_option linter.unusedSimpArgs false
theorem FnExactAddParam : laws_FnExactAddParam.Pure := by
  intro l a b c d ⟨hl, hs⟩ ha hb hc' hd
  obtain ⟨K, hK⟩ : ∃ K : Nat, K = 60000000 := ⟨_, rfl⟩
  refine ⟨K, ?_⟩
  unfold laws_FnExactAddParam.f
  obtain ⟨r, hr, hc⟩ := p_szSig l hl (fun x hx => (hs x hx).1) K (by omega) 1048576 (by omega) (by omega)
  rw [hr, Option.bind_some]
  rcases hc with hc | ⟨c0, c3, c1, c2⟩
  · rw [if_pos hc]
  rw [if_neg (by omega)]
  unfold maxLen at ha
  unfold laws_szParam.f
  rw [wrap_in (n := r - (a.size : Int)) (by omega) (by omega)]
  by_cases q : r - (a.size : Int) < 0
  · rw [if_pos q]
    rfl
  rw [if_neg q, Option.bind_some, if_neg q, p_toSig l (by omega) K (by omega)]
  unfold laws_toParam.f
  simp only [Option.bind_some]
  have h1 : (l.map cParam).length ≤ 1048576 := by rw [List.length_map]; exact c1
  have h2 := cParam_small c2
  generalize l.map cParam = ps at h1 h2
  have hT := addPa_len ps ⟨a, b, c, d⟩
  have e1 := p_specAddP ps ⟨a, b, c, d⟩ (by omega) h2 (by show a.size ≤ 2000000; omega) K (by omega)
  have e2 := p_implAddP ps ⟨a, b, c, d⟩ (by omega) h2 (by show a.size ≤ 2000000; omega) K (by omega)
  dsimp only at e1 e2
  rw [e1, e2]
  simp only [Option.bind_some]
  generalize addPa ps ⟨a, b, c, d⟩ = out at hT
  obtain ⟨rs, ok⟩ := out
  dsimp only at hT ⊢
  replace hT : rs.length ≤ 1048576 := by omega
  rw [p_xeqSig rs (by omega) K (by omega), p_xeqSig ps (by omega) K (by omega), p_markSig ps h1 K (by omega), p_markSig rs hT K (by omega)]
  simp only [Option.bind_some, bne_self_eq_false, Bool.false_eq_true, if_true, if_false]
  rw [p_heldSig rs.length hT K (by omega)]
  have n1 : ¬ ((1 : Int) + (4 * ps.length : Nat) < 0) := by omega
  have n2 : ¬ ((1 : Int) + (4 * rs.length : Nat) < 0) := by omega
  simp only [Option.bind_some, if_neg n1, if_neg n2, if_true]
end Go.Proofs.Ytlpmggokgcphiaa.Pure
