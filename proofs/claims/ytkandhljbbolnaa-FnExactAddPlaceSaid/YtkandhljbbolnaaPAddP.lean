import Derived.Test.YtkandhljbbolnaaLMore
import Derived.Test.YtkandhljbbolnaaPBase
import Derived.Test.YtkandhljbbolnaaPFlatOps
import Derived.Test.YtkandhljbbolnaaPLoops
import Derived.Test.YtkandhljbbolnaaPPairs
import Derived.Test.YtkandhljbbolnaaQ52
import Derived.Test.YtkandhljbbolnaaQ56
import Derived.Test.YtkandhljbbolnaaQ58
namespace Go.Proofs.Ytkandhljbbolnaa.Pure
open Go.RowKit Go.Proofs.Ytkandhljbbolnaa.Q Go.Proofs.YtkandhljbbolnaaL.PrintWords Go.Proofs.YtkandhljbbolnaaL.PrintLast Go.Proofs.YtkandhljbbolnaaL.PrintMore
set_option linter.unusedVariables false
set_option linter.unusedSimpArgs false
def addPlace (ps : List Int) (l : List PR) (v : Int) : List Int × List PR × Bool := if (vflat ps l && vflat (ps ++ [v]) l) = true then (ps ++ [v], l, true) else ([], [], false)
theorem p_implAdd (ps : List Int) (ns : List PR) (v : Int) (hp : ps.length ≤ 1900000) (hl : ns.length ≤ 2000000) (hs : SmallF ns) (k : Nat) (hk : 9000000 ≤ k) : impl_AddPlace.f k ps ns v = some (addPlace ps ns v) := by
  unfold impl_AddPlace.f impl_clone_int.f addPlace
  rw [if_pos (by omega), Option.bind_some, Option.bind_some, if_pos (by simp; omega), p_implFlat ps ns hl hs k hk, Option.bind_some, p_checked (ps ++ [v]) ns _ (by simp; omega) hl hs k hk, Option.bind_some]
theorem p_specAdd (ps : List Int) (ns : List PR) (v : Int) (hp : ps.length ≤ 1900000) (hl : ns.length ≤ 2000000) (hs : SmallF ns) (k : Nat) (hk : 9000000 ≤ k) : spec_AddPlace.f k ps ns v = some (addPlace ps ns v) := by
  unfold spec_AddPlace.f addPlace
  rw [p_specFlat ps ns (by omega) hl hs k hk, Option.bind_some]
  cases vflat ps ns with
  | false => rfl
  | true =>
    rw [if_pos rfl, p_copyFlat ps ns (by omega) hl, Option.bind_some]
    dsimp only
    rw [if_pos (by omega), p_checkedFlat (ps ++ [v]) ns (by simp; omega) hl hs k hk, Option.bind_some, Bool.true_and]
theorem addPlace_len (ps : List Int) (ns : List PR) (v : Int) : (addPlace ps ns v).1.length ≤ ps.length + 1 ∧ (addPlace ps ns v).2.1.length ≤ ns.length := by
  unfold addPlace
  split <;> simp
end Go.Proofs.Ytkandhljbbolnaa.Pure
