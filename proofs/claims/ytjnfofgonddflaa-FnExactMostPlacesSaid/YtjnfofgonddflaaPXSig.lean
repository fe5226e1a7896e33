import Derived.Test.YtjnfofgonddflaaLMore
import Derived.Test.YtjnfofgonddflaaPBase
import Derived.Test.YtjnfofgonddflaaPLoops
import Derived.Test.YtjnfofgonddflaaPXLoops
import Derived.Test.YtjnfofgonddflaaPXParam
import Derived.Test.YtjnfofgonddflaaM0FnExactMostPlaces
namespace Go.Proofs.Ytjnfofgonddflaa.Pure
open Go.RowKit Go.Proofs.Ytjnfofgonddflaa.Q Go.Proofs.YtjnfofgonddflaaL.PrintWords Go.Proofs.YtjnfofgonddflaaL.PrintLast Go.Proofs.YtjnfofgonddflaaL.PrintMore
set_option linter.unusedVariables false
set_option linter.unusedSimpArgs false
theorem p_szSig (l : List S85) (hl : l.length ≤ maxLen) (hs : ∀ x ∈ l, x.f0.size ≤ maxLen) (k : Nat) (hk : 3000000 ≤ k) (a : Int) (h0 : 0 ≤ a) (h1 : a ≤ 1048576) :
    ∃ r, laws_szSignature.f k l a = some r ∧ (r < 0 ∨ 0 ≤ r ∧ r ≤ a ∧ l.length ≤ 1048576 ∧ ∀ x ∈ l, x.f0.size ≤ 1048576) := by
  unfold laws_szSignature.f
  obtain ⟨r, hr, hc⟩ := p_szParamS l hl hs k hk a h0 h1
  rw [hr, Option.bind_some]
  rcases hc with hc | hc
  · rw [if_pos hc]
    exact ⟨-1, rfl, .inl (by omega)⟩
  · rw [if_neg (by omega)]
    exact ⟨_, rfl, .inr hc⟩
theorem p_toSig (l : List S85) (hl : l.length ≤ 2000000) (k : Nat) (hk : 3000000 ≤ k) : laws_toSignature.f k l = some (l.map cParam) := by
  unfold laws_toSignature.f
  rw [p_toParamS l hl k hk, Option.bind_some]
theorem p_xeqSig (l : List S41) (hl : l.length ≤ 2000000) (k : Nat) (hk : 3000000 ≤ k) : laws_eqSignature.f k l l = some true := by
  unfold laws_eqSignature.f
  rw [p_eqParamS l hl k hk, Option.bind_some, if_pos rfl]
theorem cParam_small {l : List S85} (h : ∀ x ∈ l, x.f0.size ≤ 1048576) : ∀ x ∈ l.map cParam, x.f0.size ≤ 2000000 := by
  intro x hx
  obtain ⟨y, hy, rfl⟩ := List.mem_map.1 hx
  exact Nat.le_trans (h y hy) (by omega)
end Go.Proofs.Ytjnfofgonddflaa.Pure
