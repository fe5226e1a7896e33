-- written by px.py and merge.py (programs of this claim's), over the kit's print. Not trusted: Lean checks it.
import Derived.Test.YtfcpbgedgedalaaLMore
import Derived.Test.YtfcpbgedgedalaaN0FnStarCall
import Derived.Test.YtfcpbgedgedalaaM2FnStarCall
import Derived.Test.YtfcpbgedgedalaaM3FnStarCall
import Derived.Test.YtfcpbgedgedalaaM5FnStarCall
import Derived.Test.YtfcpbgedgedalaaM6FnStarCall
import Derived.Test.YtfcpbgedgedalaaM7FnStarCall
namespace Go.Proofs.Ytfcpbgedgedalaa.Pure
open Go.RowKit Go.Proofs.Ytfcpbgedgedalaa.Q Go.Proofs.YtfcpbgedgedalaaL.PrintWords Go.Proofs.YtfcpbgedgedalaaL.PrintLast Go.Proofs.YtfcpbgedgedalaaL.PrintMore
set_option linter.unusedVariables false
set_option linter.unusedSimpArgs false
def starP (ps : List Int) (l : List PR) : List AR := (if (ps.length : Int) > 0 then [(⟨1, ⟨#[]⟩, ps, []⟩ : AR)] else []) ++ (if (l.length : Int) > 0 then [(⟨3, ⟨#[]⟩, [], l⟩ : AR)] else [])
theorem p_implStar (ps : List Int) (l : List PR) (hp : ps.length ≤ 2000000) (hl : l.length ≤ 2000000) (hs : ∀ x ∈ l, x.f0.size ≤ 2000000) (k : Nat) (hk : 9000000 ≤ k) : impl_StarCall.f k ps l = some (if vflat ps l = true then starP ps l else []) := by
  unfold impl_StarCall.f impl_clone_int.f impl_Pair_63.f starP
  rw [p_implFlat ps l hl hs k hk, Option.bind_some]
  split
  · rw [if_pos (show ps.length * 8 ≤ 140737488355328 by omega), if_pos (show l.length * 24 ≤ 140737488355328 by omega)]
    simp only [Option.bind_some, List.nil_append]
    by_cases h1 : (ps.length : Int) > 0
    · by_cases h2 : (l.length : Int) > 0
      · rw [if_pos h1, if_pos h2, if_pos h1, if_pos h2]
        rfl
      · rw [if_pos h1, if_neg h2, if_pos h1, if_neg h2]
        rfl
    · by_cases h2 : (l.length : Int) > 0
      · rw [if_neg h1, if_pos h2, if_neg h1, if_pos h2]
        rfl
      · rw [if_neg h1, if_neg h2, if_neg h1, if_neg h2]
        rfl
  · rfl
theorem p_specStar (ps : List Int) (l : List PR) (hp : ps.length ≤ 2000000) (hl : l.length ≤ 2000000) (hs : ∀ x ∈ l, x.f0.size ≤ 2000000) (k : Nat) (hk : 9000000 ≤ k) : spec_StarCall.f k ps l = some (if vflat ps l = true then starP ps l else []) := by
  unfold spec_StarCall.f starP
  rw [p_specFlat ps l hp hl hs k hk, Option.bind_some]
  split
  · simp only [Option.bind_some, List.length_nil, Nat.zero_add, List.nil_append]
    have q2 : l.length < 5864062014805 := by omega
    rw [if_pos (show ps.length < 17592186044416 by omega)]
    simp only [if_pos q2]
    by_cases h1 : (ps.length : Int) > 0
    · by_cases h2 : (l.length : Int) > 0
      · rw [if_pos h1, if_pos h2, if_pos h1, if_pos h2]
        rfl
      · rw [if_pos h1, if_neg h2, if_pos h1, if_neg h2]
        rfl
    · by_cases h2 : (l.length : Int) > 0
      · rw [if_neg h1, if_pos h2, if_neg h1, if_pos h2]
        rfl
      · rw [if_neg h1, if_neg h2, if_neg h1, if_neg h2]
        rfl
  · rfl
theorem FnStarCall : laws_FnStarCall.Pure := by
  intro l hl hs hb
  obtain ⟨K, hK⟩ : ∃ K : Nat, K = 30000000 := ⟨_, rfl⟩
  refine ⟨K + 10, ?_⟩
  unfold laws_FnStarCall.f
  by_cases h : (l.length : Int) > 1048576
  · rw [if_pos h]
  rw [if_neg h]
  unfold spec_DrawStarCall.f
  obtain ⟨m, e, hm⟩ := p_newReader l hb
  rw [e, Option.bind_some]
  dsimp only
  obtain ⟨ps, ns, p', e, g1, g2, g3, g4, g5⟩ := p_someFlat hm (K + 10) (by omega) (p := 0) (by omega) (by omega)
  rw [e, Option.bind_some, Option.bind_some]
  dsimp only
  have g6 : ∀ x ∈ ns, x.f0.size ≤ 2000000 := fun x hx => Nat.le_trans (g5 x hx) (by omega)
  have fit : ∀ x ∈ starP ps ns, ArgFit x := by
    intro x hx
    unfold starP at hx
    rcases List.mem_append.1 hx with h | h
    · split at h
      · obtain rfl := List.mem_singleton.1 h
        exact ⟨by show (0 : Nat) ≤ 2000000; omega, g3, by simp, by simp, fun e => by cases (show _ = (2 : Int) from e)⟩
      · cases h
    · split at h
      · obtain rfl := List.mem_singleton.1 h
        exact ⟨by show (0 : Nat) ≤ 2000000; omega, by simp, by show ns.length ≤ 9; omega, g6, fun e => by cases (show _ = (2 : Int) from e)⟩
      · cases h
  have len : (starP ps ns).length ≤ 2 := by
    unfold starP
    rw [List.length_append]
    split <;> split <;> simp
  have sm : ∀ x ∈ (if vflat ps ns = true then starP ps ns else []), SmArg x := by
    intro x hx
    split at hx
    · obtain ⟨a, b, c, d, _⟩ := fit x hx
      exact ⟨a, by omega, by omega, d⟩
    · cases hx
  have len2 : (if vflat ps ns = true then starP ps ns else []).length ≤ 2 := by
    split
    · exact len
    · simp
  rw [p_implStar ps ns (by omega) (by omega) g6 (K + 10) (by omega), Option.bind_some, p_specStar ps ns (by omega) (by omega) g6 (K + 10) (by omega), Option.bind_some, p_eqCall_self _ (by omega) sm (K + 10) (by omega), Option.bind_some, if_pos rfl, p_implFlat ps ns (by omega) g6 (K + 10) (by omega), Option.bind_some]
  simp only [laws_FnStarCall.j0]
  cases hv : vflat ps ns with
  | false =>
    rw [if_pos (by rfl), p_specStar ps ns (by omega) (by omega) g6 (K + 9) (by omega), Option.bind_some]
    rw [hv] at sm len2 ⊢
    rw [p_eqCall_self _ (by omega) sm (K + 9) (by omega)]
    rfl
  | true =>
    rw [if_neg (by simp), if_pos rfl]
    have hn : ps.all val = true ∧ ns.all pairOk = true ∧ ps.length ≤ 8 ∧ ns.length ≤ 8 := by
      have := hv
      unfold vflat at this
      simp only [Bool.and_eq_true, decide_eq_true_eq] at this
      exact ⟨this.2.1.1.1, this.2.1.1.2, this.2.1.2, this.2.2⟩
    have hvals : pxVals ps = true := (Option.some.inj (p_areValues ps)).trans hn.1
    have hpairs : (!ns.any fun x => !pxPairOk x) = true := by
      rw [List.not_any_eq_all_not]
      simp only [Bool.not_not]
      exact hn.2.1
    have a1 : argB (⟨1, ⟨#[]⟩, ps, []⟩ : AR) = true := by
      unfold argB pxArg
      dsimp only
      rw [if_neg (by decide), if_pos rfl, hvals]
      have : (⟨#[]⟩ : ByteArray).toList = [] := by decide +kernel
      simp [this, hn.2.2.1]
    have a3 : argB (⟨3, ⟨#[]⟩, [], ns⟩ : AR) = true := by
      unfold argB pxArg
      dsimp only
      rw [if_neg (by decide), if_neg (by decide), if_neg (by decide), if_pos rfl, hpairs]
      have : (⟨#[]⟩ : ByteArray).toList = [] := by decide +kernel
      simp [this, hn.2.2.2]
    have hc : vcall (starP ps ns) = true := by
      unfold vcall starP
      split <;> split <;> simp [List.range_succ, callAt, a1, a3, az]
    have hf : (starP ps ns).foldl flStep ([], []) = (ps, ns) := by
      unfold starP
      by_cases h1 : (ps.length : Int) > 0
      · by_cases h2 : (ns.length : Int) > 0
        · rw [if_pos h1, if_pos h2]
          simp [flStep]
        · have : ns = [] := List.eq_nil_of_length_eq_zero (by omega)
          rw [if_pos h1, if_neg h2, this]
          simp [flStep]
      · have e1 : ps = [] := List.eq_nil_of_length_eq_zero (by omega)
        by_cases h2 : (ns.length : Int) > 0
        · rw [if_neg h1, if_pos h2, e1]
          simp [flStep]
        · have e2 : ns = [] := List.eq_nil_of_length_eq_zero (by omega)
          rw [if_neg h1, if_neg h2, e1, e2]
          simp
    rw [p_flatten (starP ps ns) (by omega) fit hc (K + 9) (by omega), Option.bind_some, hf]
    unfold flOut
    dsimp only
    rw [if_pos hv]
    dsimp only
    rw [if_pos rfl, p_eqFlat_self ps ns (by omega) (by omega) (K + 9) (by omega), Option.bind_some, if_pos rfl, if_pos (by omega), p_implCall _ (by omega) (fun x hx => by obtain ⟨a, b, c, d, _⟩ := fit x hx; exact ⟨a, by omega, by omega, d⟩) (K + 9) (by omega), hc]
    rfl
end Go.Proofs.Ytfcpbgedgedalaa.Pure
