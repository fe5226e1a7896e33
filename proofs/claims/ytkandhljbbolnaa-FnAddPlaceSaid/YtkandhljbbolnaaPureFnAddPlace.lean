import Derived.Test.YtkandhljbbolnaaLMore
import Derived.Test.YtkandhljbbolnaaPAnyNumber
import Derived.Test.YtkandhljbbolnaaPBase
import Derived.Test.YtkandhljbbolnaaPFlatOps
import Derived.Test.YtkandhljbbolnaaPGoodFlat
import Derived.Test.YtkandhljbbolnaaPLoops
import Derived.Test.YtkandhljbbolnaaPNames
import Derived.Test.YtkandhljbbolnaaPNumbers
import Derived.Test.YtkandhljbbolnaaPPairs
import Derived.Test.YtkandhljbbolnaaPPutPair
import Derived.Test.YtkandhljbbolnaaPSomeFlat
import Derived.Test.YtkandhljbbolnaaQ49
import Derived.Test.YtkandhljbbolnaaQ56
import Derived.Test.YtkandhljbbolnaaQ58
import Derived.Test.YtkandhljbbolnaaQ61
namespace Go.Proofs.Ytkandhljbbolnaa.Pure
open Go.RowKit Go.Proofs.Ytkandhljbbolnaa.Q Go.Proofs.YtkandhljbbolnaaL.PrintWords Go.Proofs.YtkandhljbbolnaaL.PrintLast Go.Proofs.YtkandhljbbolnaaL.PrintMore
set_option linter.unusedVariables false
set_option linter.unusedSimpArgs false
def addPlace (ps : List Int) (l : List PR) (v : Int) : List Int × List PR × Bool := if (vflat ps l && vflat (ps ++ [v]) l) = true then (ps ++ [v], l, true) else ([], [], false)
theorem FnAddPlace : laws_FnAddPlace.Pure := by
  intro l hl hs hb
  obtain ⟨K, hK⟩ : ∃ K : Nat, K = 30000000 := ⟨_, rfl⟩
  refine ⟨K + 10, ?_⟩
  unfold laws_FnAddPlace.f
  by_cases h : (l.length : Int) > 1048576
  · rw [if_pos h]
  rw [if_neg h]
  unfold spec_DrawAddPlace.f
  obtain ⟨m, e, hm⟩ := p_newReader l hb
  rw [e, Option.bind_some]
  dsimp only
  obtain ⟨ps, ns, p', e, h1, h2, h3, h4, h5⟩ := p_someFlat hm (K + 10) (by omega) (p := 0) (by omega) (by omega)
  have h5' : SmallF ns := fun x hx => Nat.le_trans (h5 x hx) (by omega)
  rw [e, Option.bind_some]
  dsimp only
  obtain ⟨v, e, _, _⟩ := p_anyNumber hm (K + 10) (by omega) (p := p') (by omega) (by omega)
  rw [e, Option.bind_some, Option.bind_some]
  dsimp only
  have impl : impl_AddPlace.f (K + 10) ps ns v = some (addPlace ps ns v) := by
    unfold impl_AddPlace.f impl_clone_int.f addPlace
    rw [if_pos (by omega), Option.bind_some, Option.bind_some, if_pos (by simp; omega), p_implFlat ps ns (by omega) h5' (K + 10) (by omega), Option.bind_some, p_checked (ps ++ [v]) ns _ (by simp; omega) (by omega) h5' (K + 10) (by omega), Option.bind_some]
  have spec : spec_AddPlace.f (K + 10) ps ns v = some (addPlace ps ns v) := by
    unfold spec_AddPlace.f addPlace
    rw [p_specFlat ps ns (by omega) (by omega) h5' (K + 10) (by omega), Option.bind_some]
    cases vflat ps ns with
    | false => rfl
    | true =>
      rw [if_pos rfl, p_copyFlat ps ns (by omega) (by omega), Option.bind_some]
      dsimp only
      rw [if_pos (by omega), p_checkedFlat (ps ++ [v]) ns (by simp; omega) (by omega) h5' (K + 10) (by omega), Option.bind_some, Bool.true_and]
  rw [impl, Option.bind_some, spec, Option.bind_some]
  have b1 : (addPlace ps ns v).1.length ≤ 2000000 := by
    unfold addPlace
    split <;> simp <;> omega
  have b2 : (addPlace ps ns v).2.1.length ≤ 2000000 := by
    unfold addPlace
    split <;> simp <;> omega
  rw [p_eqFlat_self _ _ b1 b2 (K + 10) (by omega), Option.bind_some, if_pos rfl, if_neg (by simp)]
  simp only [laws_FnAddPlace.j0]
  by_cases hv : (vflat ps ns && vflat (ps ++ [v]) ns) = true
  · have ea : addPlace ps ns v = (ps ++ [v], ns, true) := by unfold addPlace; rw [if_pos hv]
    rw [ea]
    dsimp only
    rw [if_neg (by decide), if_pos (by omega), if_pos (by simp only [List.length_append, List.length_singleton]; omega), Int.toNat_natCast, List.take_left' rfl, p_eqInts_self ps (by omega) (K + 9) (by omega), Option.bind_some, if_pos rfl, if_pos (by simp only [List.length_append, List.length_singleton]; omega)]
    have r1 : rd (ps ++ [v]) (ps.length : Int) = v := by
      rw [rd_nat, List.getD_eq_getElem?_getD]
      simp
    rw [r1, if_pos rfl, wrap_in (by omega) (by omega), if_pos (by simp only [List.length_append, List.length_singleton]; omega), p_eqPairs_self ns (by omega) (K + 9) (by omega)]
    rfl
  · have ea : addPlace ps ns v = ([], [], false) := by unfold addPlace; rw [if_neg hv]
    rw [ea]
    dsimp only
    rw [if_pos (show (!false) = true from rfl), p_eqFlat_self _ _ (by simp) (by simp) (K + 9) (by omega)]
    rfl
end Go.Proofs.Ytkandhljbbolnaa.Pure
