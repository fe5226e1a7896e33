import Derived.Test.YtkandhljbbolnaaLMore
import Derived.Test.YtkandhljbbolnaaPBase
import Derived.Test.YtkandhljbbolnaaPLoops
import Derived.Test.YtkandhljbbolnaaPPairs
import Derived.Test.YtkandhljbbolnaaQ52
import Derived.Test.YtkandhljbbolnaaQ54
import Derived.Test.YtkandhljbbolnaaQ55
import Derived.Test.YtkandhljbbolnaaQ57
import Derived.Test.YtkandhljbbolnaaQ58
namespace Go.Proofs.Ytkandhljbbolnaa.Pure
open Go.RowKit Go.Proofs.Ytkandhljbbolnaa.Q Go.Proofs.YtkandhljbbolnaaL.PrintWords Go.Proofs.YtkandhljbbolnaaL.PrintLast Go.Proofs.YtkandhljbbolnaaL.PrintMore
set_option linter.unusedVariables false
set_option linter.unusedSimpArgs false
def SmallF (l : List PR) : Prop := ∀ x ∈ l, x.f0.size ≤ 2000000
theorem p_copyOf (ps : List Int) (l : List PR) (hp : ps.length ≤ 2000000) (hl : l.length ≤ 2000000) : impl_Flat_copyOf.f ps l = some (ps, l) := by
  unfold impl_Flat_copyOf.f impl_clone_int.f impl_Pair_105.f
  rw [if_pos (by omega), if_pos (by omega)]
  rfl
theorem p_checked (ps : List Int) (l : List PR) (b : Bool) (hp : ps.length ≤ 2000000) (hl : l.length ≤ 2000000) (hs : SmallF l) (k : Nat) (hk : 9000000 ≤ k) :
    impl_checked.f k ps l b = some (if (b && vflat ps l) = true then (ps, l, true) else ([], [], false)) := by
  unfold impl_checked.f
  cases b with
  | false => rfl
  | true =>
    rw [if_pos rfl, p_implFlat ps l hl hs k hk, Option.bind_some, p_copyOf ps l hp hl, Option.bind_some, Bool.true_and]
    split <;> rfl
theorem p_copyFlat (ps : List Int) (l : List PR) (hp : ps.length ≤ 2000000) (hl : l.length ≤ 2000000) : spec_copyFlat.f ps l = some (ps, l) := by
  unfold spec_copyFlat.f
  simp only [Option.bind_some, List.nil_append, List.length_nil]
  rw [if_pos (by omega), if_pos (by omega)]
theorem p_checkedFlat (ps : List Int) (l : List PR) (hp : ps.length ≤ 2000000) (hl : l.length ≤ 2000000) (hs : SmallF l) (k : Nat) (hk : 9000000 ≤ k) :
    spec_checkedFlat.f k ps l = some (if vflat ps l = true then (ps, l, true) else ([], [], false)) := by
  unfold spec_checkedFlat.f
  rw [p_specFlat ps l hp hl hs k hk, Option.bind_some]
  split <;> rfl
end Go.Proofs.Ytkandhljbbolnaa.Pure
