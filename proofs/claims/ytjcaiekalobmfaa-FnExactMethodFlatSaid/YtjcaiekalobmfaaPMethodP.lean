import Derived.Test.YtjcaiekalobmfaaLMore
import Derived.Test.YtjcaiekalobmfaaPBase
import Derived.Test.YtjcaiekalobmfaaPFlatOps
import Derived.Test.YtjcaiekalobmfaaPLoops
import Derived.Test.YtjcaiekalobmfaaPPairs
import Derived.Test.YtjcaiekalobmfaaQ41
import Derived.Test.YtjcaiekalobmfaaQ57
import Derived.Test.YtjcaiekalobmfaaQ58
namespace Go.Proofs.Ytjcaiekalobmfaa.Pure
open Go.RowKit Go.Proofs.Ytjcaiekalobmfaa.Q Go.Proofs.YtjcaiekalobmfaaL.PrintWords Go.Proofs.YtjcaiekalobmfaaL.PrintLast Go.Proofs.YtjcaiekalobmfaaL.PrintMore
set_option linter.unusedVariables false
set_option linter.unusedSimpArgs false
def methodFlat (v : Int) (ps : List Int) (l : List PR) : List Int × List PR × Bool := if (vflat ps l && vflat (v :: ps) l) = true then (v :: ps, l, true) else ([], [], false)
theorem p_implMethodFlat (v : Int) (ps : List Int) (ns : List PR) (hp : ps.length ≤ 1900000) (hl : ns.length ≤ 2000000) (hs : SmallF ns) (k : Nat) (hk : 9000000 ≤ k) : impl_MethodFlat.f k v ps ns = some (methodFlat v ps ns) := by
  unfold impl_MethodFlat.f slices_Concat_int_int.f methodFlat
  have e : ([[v], ps] : List (List Int)).flatten = v :: ps := by simp
  rw [e, if_pos (by simp; omega), Option.bind_some, p_implFlat ps ns hl hs k hk, Option.bind_some, p_checked (v :: ps) ns _ (by simp; omega) hl hs k hk, Option.bind_some]
theorem p_specMethodFlat (v : Int) (ps : List Int) (ns : List PR) (hp : ps.length ≤ 1900000) (hl : ns.length ≤ 2000000) (hs : SmallF ns) (k : Nat) (hk : 9000000 ≤ k) : spec_MethodFlat.f k v ps ns = some (methodFlat v ps ns) := by
  unfold spec_MethodFlat.f methodFlat
  rw [p_specFlat ps ns (by omega) hl hs k hk, Option.bind_some]
  cases vflat ps ns with
  | false => rfl
  | true =>
    rw [if_pos rfl, p_copyFlat ps ns (by omega) hl, Option.bind_some]
    dsimp only
    rw [Option.bind_some, if_pos (by simp; omega), List.singleton_append, p_checkedFlat (v :: ps) ns (by simp; omega) hl hs k hk, Option.bind_some, Bool.true_and]
end Go.Proofs.Ytjcaiekalobmfaa.Pure
