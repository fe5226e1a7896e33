import Derived.Test.YtjcaiekalobmfaaLMore
import Derived.Test.YtjcaiekalobmfaaPBase
import Derived.Test.YtjcaiekalobmfaaPBaseR
import Derived.Test.YtjcaiekalobmfaaQ19
namespace Go.Proofs.Ytjcaiekalobmfaa.Pure
open Go.RowKit Go.Proofs.Ytjcaiekalobmfaa.Q Go.Proofs.YtjcaiekalobmfaaL.PrintWords Go.Proofs.YtjcaiekalobmfaaL.PrintLast Go.Proofs.YtjcaiekalobmfaaL.PrintMore
set_option linter.unusedVariables false
set_option linter.unusedSimpArgs false
theorem p_aName {l : List Int} (h : Rdr l) (k : Nat) (hk : 1 ≤ k) {p : Int} (hp : 0 ≤ p) (hp' : p ≤ 1000000) : ∃ s, spec_aName.f k l p = some (s, p + 1) ∧ s.size = 1 ∧ pxName s = true := by
  unfold spec_aName.f
  obtain ⟨v, e, hv⟩ := p_of h k hk hp hp' ([(⟨#[97]⟩ : ByteArray), (⟨#[98]⟩ : ByteArray), (⟨#[99]⟩ : ByteArray), (⟨#[100]⟩ : ByteArray), (⟨#[120]⟩ : ByteArray), (⟨#[121]⟩ : ByteArray), (⟨#[97]⟩ : ByteArray), (⟨#[98]⟩ : ByteArray), (⟨#[99]⟩ : ByteArray)]) (by decide)
  rw [e, Option.bind_some]
  refine ⟨v, rfl, ?_⟩
  simp only [List.mem_cons, List.not_mem_nil, or_false] at hv
  rcases hv with rfl | rfl | rfl | rfl | rfl | rfl | rfl | rfl | rfl <;> exact ⟨rfl, by decide⟩
theorem p_anyName {l : List Int} (h : Rdr l) (k : Nat) (hk : 1 ≤ k) {p : Int} (hp : 0 ≤ p) (hp' : p ≤ 999999) : ∃ s, spec_anyName.f k l p = some (s, p + 2) ∧ s.size ≤ 7 := by
  unfold spec_anyName.f
  obtain ⟨v, e, _, _⟩ := p_pick h k hk hp (by omega) (n := 16) (by omega)
  rw [e, Option.bind_some]
  dsimp only
  have e2 : p + 1 + 1 = p + 2 := by omega
  split
  · obtain ⟨v, e, hv⟩ := p_of h k hk (p := p + 1) (by omega) (by omega) ([(⟨#[]⟩ : ByteArray), (⟨#[65]⟩ : ByteArray), (⟨#[116, 111, 111, 108, 111, 110, 103]⟩ : ByteArray), (⟨#[97, 49]⟩ : ByteArray), (⟨#[97, 98, 99, 100, 101, 102]⟩ : ByteArray)]) (by decide)
    rw [e, Option.bind_some, e2]
    refine ⟨v, rfl, ?_⟩
    simp only [List.mem_cons, List.not_mem_nil, or_false] at hv
    rcases hv with rfl | rfl | rfl | rfl | rfl <;> decide
  · obtain ⟨v, e, h1, _⟩ := p_aName h k hk (p := p + 1) (by omega) (by omega)
    rw [e, Option.bind_some, e2]
    exact ⟨v, rfl, by omega⟩
end Go.Proofs.Ytjcaiekalobmfaa.Pure
