import Derived.Test.YtkandhljbbolnaaLMore
import Derived.Test.YtkandhljbbolnaaPBase
import Derived.Test.YtkandhljbbolnaaPLoops
import Derived.Test.YtkandhljbbolnaaPPairs
import Derived.Test.YtkandhljbbolnaaQ52
import Derived.Test.YtkandhljbbolnaaQ54
import Derived.Test.YtkandhljbbolnaaQ55
import Derived.Test.YtkandhljbbolnaaQ57
import Derived.Test.YtkandhljbbolnaaQ58
import Derived.Test.YtkandhljbbolnaaQ59
import Derived.Test.YtkandhljbbolnaaQ60
namespace Go.Proofs.Ytkandhljbbolnaa.Pure
open Go.RowKit Go.Proofs.Ytkandhljbbolnaa.Q Go.Proofs.YtkandhljbbolnaaL.PrintWords Go.Proofs.YtkandhljbbolnaaL.PrintLast Go.Proofs.YtkandhljbbolnaaL.PrintMore
set_option linter.unusedVariables false
set_option linter.unusedSimpArgs false
def SmallF (l : List PR) : Prop := ∀ x ∈ l, x.f0.size ≤ 2000000
theorem p_copyOf (ps : List Int) (l : List PR) (hp : ps.length ≤ 2000000) (hl : l.length ≤ 2000000) : impl_Flat_copyOf.f ps l = some (ps, l) := by
  unfold impl_Flat_copyOf.f impl_clone_int.f impl_Pair_105.f
  rw [if_pos (by omega), if_pos (by omega)]
  rfl
theorem p_checked (ps : List Int) (l : List PR) (b : Bool) (hp : ps.length ≤ 2000000) (hl : l.length ≤ 2000000) (hs : SmallF l) (k : Nat) (hk : 9000000 ≤ k) :
    impl_checked.f k ps l b = some (if (b && vflat ps l) = true then (ps, l, true) else ([], [], false)) := by
  unfold impl_checked.f
  cases b with
  | false => rfl
  | true =>
    rw [if_pos rfl, p_implFlat ps l hl hs k hk, Option.bind_some, p_copyOf ps l hp hl, Option.bind_some, Bool.true_and]
    split <;> rfl
theorem p_copyFlat (ps : List Int) (l : List PR) (hp : ps.length ≤ 2000000) (hl : l.length ≤ 2000000) : spec_copyFlat.f ps l = some (ps, l) := by
  unfold spec_copyFlat.f
  simp only [Option.bind_some, List.nil_append, List.length_nil]
  rw [if_pos (by omega), if_pos (by omega)]
theorem p_checkedFlat (ps : List Int) (l : List PR) (hp : ps.length ≤ 2000000) (hl : l.length ≤ 2000000) (hs : SmallF l) (k : Nat) (hk : 9000000 ≤ k) :
    spec_checkedFlat.f k ps l = some (if vflat ps l = true then (ps, l, true) else ([], [], false)) := by
  unfold spec_checkedFlat.f
  rw [p_specFlat ps l hp hl hs k hk, Option.bind_some]
  split <;> rfl
theorem p_eqInts_self (l : List Int) (hl : l.length ≤ 2000000) (k : Nat) (hk : 3000000 ≤ k) : laws_equalInts.f k l l = some true := by
  unfold laws_equalInts.f
  rw [if_pos rfl]
  have := loop_all0 (fun k i => laws_equalInts.l0 k l l i) (fun _ => true) true l.length 0 k (by omega) (fun k i _ hi => by
    simp only [laws_equalInts.l0]
    rw [if_pos (by omega), if_pos (by omega), if_pos (by omega)]
    try simp) (fun k _ => by
    simp only [laws_equalInts.l0]
    rw [if_neg (by omega)]) (by omega)
  rw [this]
  simp
theorem p_eqPairs_self (l : List PR) (hl : l.length ≤ 2000000) (k : Nat) (hk : 3000000 ≤ k) : laws_equalPairs.f k l l = some true := by
  unfold laws_equalPairs.f
  rw [if_pos rfl]
  have := loop_all0 (fun k i => laws_equalPairs.l0 k l l i) (fun _ => true) true l.length 0 k (by omega) (fun k i _ hi => by
    simp only [laws_equalPairs.l0]
    rw [if_pos (by omega), if_pos (by omega), if_pos (by omega)]
    try simp) (fun k _ => by
    simp only [laws_equalPairs.l0]
    rw [if_neg (by omega)]) (by omega)
  rw [this]
  simp
theorem p_eqFlat_self (ps : List Int) (l : List PR) (hp : ps.length ≤ 2000000) (hl : l.length ≤ 2000000) (k : Nat) (hk : 3000000 ≤ k) : laws_equalFlat.f k ps l ps l = some true := by
  unfold laws_equalFlat.f
  rw [p_eqInts_self ps hp k hk, Option.bind_some, if_pos rfl, p_eqPairs_self l hl k hk]
  rfl
end Go.Proofs.Ytkandhljbbolnaa.Pure
