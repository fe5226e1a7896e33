import Derived.Test.YtkandhljbbolnaaLMore
import Derived.Test.YtkandhljbbolnaaPAnyNumber
import Derived.Test.YtkandhljbbolnaaPBase
import Derived.Test.YtkandhljbbolnaaPFlatOps
import Derived.Test.YtkandhljbbolnaaPGoodFlat
import Derived.Test.YtkandhljbbolnaaPLoops
import Derived.Test.YtkandhljbbolnaaPMethodP
import Derived.Test.YtkandhljbbolnaaPNames
import Derived.Test.YtkandhljbbolnaaPNumbers
import Derived.Test.YtkandhljbbolnaaPPairs
import Derived.Test.YtkandhljbbolnaaPPutPair
import Derived.Test.YtkandhljbbolnaaPSomeFlat
import Derived.Test.YtkandhljbbolnaaQ81
import Derived.Test.YtkandhljbbolnaaQ84
import Derived.Test.YtkandhljbbolnaaQ85
import Derived.Test.YtkandhljbbolnaaQ86
namespace Go.Proofs.Ytkandhljbbolnaa.Pure
open Go.RowKit Go.Proofs.Ytkandhljbbolnaa.Q Go.Proofs.YtkandhljbbolnaaL.PrintWords Go.Proofs.YtkandhljbbolnaaL.PrintLast Go.Proofs.YtkandhljbbolnaaL.PrintMore
set_option linter.unusedVariables false
set_option linter.unusedSimpArgs false
theorem FnMethodFlat : laws_FnMethodFlat.Pure := by
  intro l hl hs hb
  obtain ⟨K, hK⟩ : ∃ K : Nat, K = 30000000 := ⟨_, rfl⟩
  refine ⟨K + 10, ?_⟩
  unfold laws_FnMethodFlat.f
  by_cases h : (l.length : Int) > 1048576
  · rw [if_pos h]
  rw [if_neg h]
  unfold spec_DrawMethodFlat.f
  obtain ⟨m, e, hm⟩ := p_newReader l hb
  rw [e, Option.bind_some]
  dsimp only
  obtain ⟨v, e, _, _⟩ := p_anyNumber hm (K + 10) (by omega) (p := 0) (by omega) (by omega)
  rw [e, Option.bind_some]
  dsimp only
  obtain ⟨ps, ns, p', e, h1, h2, h3, h4, h5⟩ := p_someFlat hm (K + 10) (by omega) (p := 0 + 2) (by omega) (by omega)
  have h5' : SmallF ns := fun x hx => Nat.le_trans (h5 x hx) (by omega)
  rw [e, Option.bind_some, Option.bind_some]
  dsimp only
  rw [p_implMethodFlat v ps ns (by omega) (by omega) h5' (K + 10) (by omega), Option.bind_some, p_specMethodFlat v ps ns (by omega) (by omega) h5' (K + 10) (by omega), Option.bind_some]
  have b1 : (methodFlat v ps ns).1.length ≤ 2000000 := by
    unfold methodFlat
    split <;> simp <;> omega
  have b2 : (methodFlat v ps ns).2.1.length ≤ 2000000 := by
    unfold methodFlat
    split <;> simp <;> omega
  rw [p_eqFlat_self _ _ b1 b2 (K + 10) (by omega), Option.bind_some, if_pos rfl, if_neg (by simp)]
  simp only [laws_FnMethodFlat.j0]
  by_cases hv : (vflat ps ns && vflat (v :: ps) ns) = true
  · have ea : methodFlat v ps ns = (v :: ps, ns, true) := by unfold methodFlat; rw [if_pos hv]
    rw [ea]
    dsimp only
    rw [if_neg (by decide), if_pos (by simp only [List.length_cons]; omega)]
    have r1 : rd (v :: ps) 0 = v := by
      rw [show (0 : Int) = ((0 : Nat) : Int) from rfl, rd_nat]
      rfl
    rw [r1, if_pos rfl, if_pos (by simp only [List.length_cons]; omega), List.drop_one, List.tail_cons, p_eqInts_self ps (by omega) (K + 9) (by omega), Option.bind_some, if_pos rfl, p_eqPairs_self ns (by omega) (K + 9) (by omega)]
    rfl
  · have ea : methodFlat v ps ns = ([], [], false) := by unfold methodFlat; rw [if_neg hv]
    rw [ea]
    dsimp only
    rw [if_pos (show (!false) = true from rfl), p_eqFlat_self _ _ (by simp) (by simp) (K + 9) (by omega)]
    rfl
end Go.Proofs.Ytkandhljbbolnaa.Pure
