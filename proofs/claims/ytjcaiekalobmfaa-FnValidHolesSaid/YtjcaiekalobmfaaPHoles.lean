import Derived.Test.YtjcaiekalobmfaaLMore
import Derived.Test.YtjcaiekalobmfaaPBase
import Derived.Test.YtjcaiekalobmfaaPLoops
import Derived.Test.YtjcaiekalobmfaaPPairs
import Derived.Test.YtjcaiekalobmfaaQ100
import Derived.Test.YtjcaiekalobmfaaQ101
namespace Go.Proofs.Ytjcaiekalobmfaa.Pure
open Go.RowKit Go.Proofs.Ytjcaiekalobmfaa.Q Go.Proofs.YtjcaiekalobmfaaL.PrintWords Go.Proofs.YtjcaiekalobmfaaL.PrintLast Go.Proofs.YtjcaiekalobmfaaL.PrintMore
set_option linter.unusedVariables false
set_option linter.unusedSimpArgs false
abbrev PL := S130
abbrev plz : PL := z130
theorem rdpl (l : List PL) (i : Nat) : rd_T130 l (i : Int) = l.getD i plz := by
  unfold rd_T130
  rw [Int.toNat_natCast]
def placeOk (x : PL) : Bool := val x.f1 && (!x.f0 || x.f1 == 0)
def vholes (l : List PL) (ns : List PR) : Bool := l.all placeOk && (decide (l.length ≤ 8) && vflat [] ns)
theorem p_implHoles (l : List PL) (ns : List PR) (hl : ns.length ≤ 2000000) (hs : ∀ x ∈ ns, x.f0.size ≤ 2000000) (k : Nat) (hk : 9000000 ≤ k) : impl_ValidHoles.f k l ns = some (vholes l ns) := by
  unfold impl_ValidHoles.f vholes
  rw [p_implFlat [] ns hl hs k hk, Option.bind_some]
  have e : (!l.any fun x : PL => !(decide (-99 ≤ x.f1) && decide (x.f1 ≤ 99)) || (x.f0 && !(x.f1 == 0))) = l.all placeOk := by
    rw [List.not_any_eq_all_not]
    congr 1
    funext x
    unfold placeOk val
    cases (decide (-99 ≤ x.f1) && decide (x.f1 ≤ 99)) <;> cases x.f0 <;> cases (x.f1 == 0) <;> rfl
  rw [e]
  by_cases h : l.length ≤ 8
  · rw [if_pos h, decide_eq_true h]
    cases vflat [] ns <;> cases l.all placeOk <;> rfl
  · rw [if_neg h, decide_eq_false h]
    cases l.all placeOk <;> rfl
theorem p_specHoles (l : List PL) (ns : List PR) (hp : l.length ≤ 2000000) (hl : ns.length ≤ 2000000) (hs : ∀ x ∈ ns, x.f0.size ≤ 2000000) (k : Nat) (hk : 12000000 ≤ k) : spec_validHoles.f k l ns = some (vholes l ns) := by
  unfold spec_validHoles.f vholes
  rw [← range_all l plz placeOk]
  refine loop_all0 (fun k i => spec_validHoles.l0 k i l ns) _ _ l.length 9000000 k (by omega) (fun k i hk hi => ?_) (fun k hk => ?_) (by omega)
  · simp only [spec_validHoles.l0]
    rw [if_pos (by omega), if_pos (by omega), rdpl, p_validNumber, Option.bind_some]
    unfold placeOk
    generalize l.getD i plz = x
    cases h0 : x.f0 with
    | false => simp
    | true =>
      by_cases h1 : x.f1 = 0
      · simp [h1]
      · simp [h1]
  · simp only [spec_validHoles.l0]
    rw [if_neg (by omega), p_specFlat [] ns (by simp) hl hs k hk, Option.bind_some]
    by_cases h : l.length ≤ 8
    · rw [if_pos (by omega), decide_eq_true h, Bool.true_and]
    · rw [if_neg (by omega), decide_eq_false h]
      rfl
theorem vholes_take (l : List PL) (ns : List PR) (n : Nat) (h : vholes l ns = true) : vholes (l.take n) ns = true := by
  unfold vholes at *
  simp only [Bool.and_eq_true, decide_eq_true_eq, List.all_eq_true] at *
  exact ⟨fun x hx => h.1 x (List.mem_of_mem_take hx), by rw [List.length_take]; omega, h.2.2⟩
end Go.Proofs.Ytjcaiekalobmfaa.Pure
