-- written by px.py and merge.py (programs of this claim's), over the kit's print. Not trusted: Lean checks it.
import Derived.Test.YtfcpbgedgedalaaLMore
import Derived.Test.YtfcpbgedgedalaaN0FnOverFlat
import Derived.Test.YtfcpbgedgedalaaM3FnOverFlat
import Derived.Test.YtfcpbgedgedalaaM5FnOverFlat
import Derived.Test.YtfcpbgedgedalaaM6FnOverFlat
import Derived.Test.YtfcpbgedgedalaaM7FnOverFlat
import Derived.Test.YtfcpbgedgedalaaM8FnOverFlat
namespace Go.Proofs.Ytfcpbgedgedalaa.Pure
open Go.RowKit Go.Proofs.Ytfcpbgedgedalaa.Q Go.Proofs.YtfcpbgedgedalaaL.PrintWords Go.Proofs.YtfcpbgedgedalaaL.PrintLast Go.Proofs.YtfcpbgedgedalaaL.PrintMore
set_option linter.unusedVariables false
set_option linter.unusedSimpArgs false
theorem p_named (ps : List Int) (ns : List PR) (s : ByteArray) (hl : ns.length ≤ 2000000) (k : Nat) (hk : 3000000 ≤ k) : laws_named.f k ps ns s = some (ns.any (fun x : PR => x.f0.toList == s.toList)) := by
  have key : ∀ (d k i : Nat), i + d = ns.length → d < k → laws_named.l0 k s (i : Int) ps ns = some ((ns.drop i).any (fun x : PR => x.f0.toList == s.toList)) := by
    intro d
    induction d with
    | zero =>
      intro k i h hk
      obtain ⟨k, rfl⟩ : ∃ m, k = m + 1 := ⟨k - 1, by omega⟩
      simp only [laws_named.l0]
      rw [if_neg (by omega), List.drop_of_length_le (by omega)]
      rfl
    | succ d ih =>
      intro k i h hk
      obtain ⟨k, rfl⟩ : ∃ m, k = m + 1 := ⟨k - 1, by omega⟩
      simp only [laws_named.l0]
      rw [if_pos (by omega), if_pos (by omega), rdp, wrap_succ (n := ns.length) (by omega) (by omega), drop_getD ns pz i (by omega), List.any_cons]
      by_cases hx : (ns.getD i pz).f0.toList = s.toList
      · rw [if_pos hx, hx]
        simp
      · rw [if_neg hx, ih k (i + 1) (by omega) (by omega)]
        have : ((ns.getD i pz).f0.toList == s.toList) = false := by simpa using hx
        rw [this, Bool.false_or]
  unfold laws_named.f
  have := key ns.length k 0 (by omega) (by omega)
  simpa using this
def samePR (y : PR) (x : PR) : Bool := y.f0.toList == x.f0.toList && (y.f1 == x.f1)
theorem samePR_self (x : PR) : samePR x x = true := by simp [samePR]
theorem samePR_nm {x y : PR} (h : samePR y x = true) : y.f0 = x.f0 := by
  unfold samePR at h
  rw [Bool.and_eq_true, beq_iff_eq] at h
  exact (bt_eqv _ _).1 h.1
section
variable (p1 : List Int) (n1 : List PR) (p2 : List Int) (n2 : List PR) (P : List Int) (N : List PR)
theorem over_l2 (h1 : n1.length ≤ 1000) (h2 : n2.length ≤ 1000) (x : PR) (x9 : Int) (R : Option Bool) (kr : Nat) (hR : ∀ k, kr ≤ k → laws_FnOverFlat.l0 k (wrap64 (x9 + 1)) p1 n1 p2 n2 P N = R) :
    ∀ (d k i : Nat) (b : Bool), i + d = n1.length → 3000000 + kr + d < k → (b || ((n1.drop i).any (fun y => samePR y x) && !n2.any (fun y : PR => y.f0.toList == x.f0.toList))) = true → laws_FnOverFlat.l2 k x9 b (i : Int) p1 n1 p2 n2 P N x.f0 x.f1 = R := by
  intro d
  induction d with
  | zero =>
    intro k i b h hk hb
    obtain ⟨k, rfl⟩ : ∃ m, k = m + 1 := ⟨k - 1, by omega⟩
    rw [List.drop_of_length_le (by omega)] at hb
    have hb : b = true := by simpa using hb
    simp only [laws_FnOverFlat.l2]
    rw [if_neg (by omega), if_pos hb]
    exact hR k (by omega)
  | succ d ih =>
    intro k i b h hk hb
    obtain ⟨k, rfl⟩ : ∃ m, k = m + 1 := ⟨k - 1, by omega⟩
    simp only [laws_FnOverFlat.l2]
    rw [if_pos (by omega), wrap_succ (n := n1.length) (by omega) (by omega)]
    cases b with
    | true =>
      rw [if_pos rfl]
      exact ih k (i + 1) true (by omega) (by omega) rfl
    | false =>
      rw [drop_getD n1 pz i (by omega), List.any_cons, Bool.false_or] at hb
      rw [if_neg (by decide), if_pos (by omega), rdp, p_named p2 n2 x.f0 (by omega) k (by omega), Option.bind_some, show ((n1.getD i pz).f0.toList == x.f0.toList && ((n1.getD i pz).f1 == x.f1)) = samePR (n1.getD i pz) x from rfl]
      by_cases hs : samePR (n1.getD i pz) x = true
      · rw [if_pos hs]
        refine ih k (i + 1) _ (by omega) (by omega) ?_
        rw [Bool.and_eq_true] at hb
        rw [hb.2]
        rfl
      · rw [if_neg hs]
        have hs : samePR (n1.getD i pz) x = false := by simpa using hs
        rw [hs, Bool.false_or] at hb
        exact ih k (i + 1) false (by omega) (by omega) (by rw [Bool.false_or]; exact hb)
theorem over_l1 (h1 : n1.length ≤ 1000) (h2 : n2.length ≤ 1000) (x : PR) (x9 : Int) (R : Option Bool) (kr : Nat) (hR : ∀ k, kr ≤ k → laws_FnOverFlat.l0 k (wrap64 (x9 + 1)) p1 n1 p2 n2 P N = R) :
    ∀ (d k i : Nat) (b : Bool), i + d = n2.length → 3001001 + kr + d < k → (b || (n2.drop i).any (fun y => samePR y x) || (n1.any (fun y => samePR y x) && !n2.any (fun y : PR => y.f0.toList == x.f0.toList))) = true → laws_FnOverFlat.l1 k x9 b (i : Int) p1 n1 p2 n2 P N x.f0 x.f1 = R := by
  intro d
  induction d with
  | zero =>
    intro k i b h hk hb
    obtain ⟨k, rfl⟩ : ∃ m, k = m + 1 := ⟨k - 1, by omega⟩
    rw [List.drop_of_length_le (by omega)] at hb
    simp only [laws_FnOverFlat.l1]
    rw [if_neg (by omega), show (0 : Int) = ((0 : Nat) : Int) from rfl]
    refine over_l2 p1 n1 p2 n2 P N h1 h2 x x9 R kr hR n1.length k 0 b (by omega) (by omega) ?_
    simpa using hb
  | succ d ih =>
    intro k i b h hk hb
    obtain ⟨k, rfl⟩ : ∃ m, k = m + 1 := ⟨k - 1, by omega⟩
    simp only [laws_FnOverFlat.l1]
    rw [if_pos (by omega), wrap_succ (n := n2.length) (by omega) (by omega)]
    cases b with
    | true =>
      rw [if_pos rfl]
      exact ih k (i + 1) true (by omega) (by omega) (by simp)
    | false =>
      rw [drop_getD n2 pz i (by omega), List.any_cons, Bool.false_or] at hb
      rw [if_neg (by decide), if_pos (by omega), rdp]
      exact ih k (i + 1) (samePR (n2.getD i pz) x) (by omega) (by omega) hb
theorem over_l0 (h1 : n1.length ≤ 1000) (h2 : n2.length ≤ 1000) (h3 : N.length ≤ 1000) (hx : ∀ x ∈ N, x ∈ n2 ∨ (x ∈ n1 ∧ x.f0 ∉ nms n2)) (hlen : P = p1 ++ p2) (hp1 : p1.length ≤ 1000) (hp2 : p2.length ≤ 1000) (hge : n2.length ≤ N.length) :
    ∀ (d k i : Nat), i + d = N.length → 3003000 + 4000000 * d ≤ k → laws_FnOverFlat.l0 k (i : Int) p1 n1 p2 n2 P N = some true := by
  intro d
  induction d with
  | zero =>
    intro k i h hk
    obtain ⟨k, rfl⟩ : ∃ m, k = m + 1 := ⟨k - 1, by omega⟩
    simp only [laws_FnOverFlat.l0]
    have e1 : (P.drop ((p1.length : Int) : Int).toNat) = p2 := by rw [Int.toNat_natCast, hlen, List.drop_left]
    have e2 : P.length = p1.length + p2.length := by rw [hlen, List.length_append]
    rw [if_neg (by omega), wrap_in (by omega) (by omega), if_pos (by omega), if_pos (by omega), if_pos (by omega), e1, p_eqInts_self p2 (by omega) k (by omega), Option.bind_some, if_pos rfl]
    simp
    omega
  | succ d ih =>
    intro k i h hk
    obtain ⟨k, rfl⟩ : ∃ m, k = m + 1 := ⟨k - 1, by omega⟩
    simp only [laws_FnOverFlat.l0]
    rw [if_pos (by omega), if_pos (by omega), rdp, show (0 : Int) = ((0 : Nat) : Int) from rfl]
    refine over_l1 p1 n1 p2 n2 P N h1 h2 (N.getD i pz) (i : Int) (some true) (3003000 + 4000000 * d) (fun k hk => ?_) n2.length k 0 false (by omega) (by omega) ?_
    · rw [wrap_succ (n := N.length) (by omega) (by omega)]
      exact ih k (i + 1) (by omega) hk
    · rw [List.drop_zero, Bool.false_or, Bool.or_eq_true]
      rcases hx _ (getD_mem N pz i (by omega)) with hm | ⟨hm, hn⟩
      · exact .inl (List.any_eq_true.2 ⟨_, hm, samePR_self _⟩)
      · refine .inr ?_
        rw [Bool.and_eq_true]
        refine ⟨List.any_eq_true.2 ⟨_, hm, samePR_self _⟩, ?_⟩
        rw [Bool.not_eq_true', List.any_eq_false]
        intro y hy
        have : ¬ y.f0 = (N.getD i pz).f0 := fun e => hn (by rw [← e]; exact List.mem_map_of_mem (f := (·.f0)) hy)
        intro e2
        rw [beq_iff_eq] at e2
        exact this ((bt_eqv _ _).1 e2)
end
theorem FnOverFlat : laws_FnOverFlat.Pure := by
  intro l hl hs hb
  obtain ⟨K, hK⟩ : ∃ K : Nat, K = 60000000 := ⟨_, rfl⟩
  refine ⟨K + 10, ?_⟩
  unfold laws_FnOverFlat.f
  by_cases h : (l.length : Int) > 1048576
  · rw [if_pos h]
  rw [if_neg h]
  obtain ⟨p1, n1, p2, n2, e, g1, g2, g3, g4, g5, g6⟩ := p_drawOver l hb (K + 10) (by omega)
  rw [e, Option.bind_some]
  dsimp only
  have s1 : SmallF n1 := fun x hx => Nat.le_trans (g5 x hx) (by omega)
  have s2 : SmallF n2 := fun x hx => Nat.le_trans (g6 x hx) (by omega)
  obtain ⟨o1, o2⟩ := overF_len p1 n1 p2 n2
  rw [p_implOver p1 n1 p2 n2 (by omega) (by omega) (by omega) (by omega) s1 s2 (K + 10) (by omega), Option.bind_some, p_specOver p1 n1 p2 n2 (by omega) (by omega) (by omega) (by omega) s1 s2 (K + 10) (by omega), Option.bind_some, p_eqFlat_self _ _ (by omega) (by omega) (K + 10) (by omega), Option.bind_some, if_pos rfl, if_neg (by simp)]
  simp only [laws_FnOverFlat.j0]
  cases ho : (overF p1 n1 p2 n2).2.2 with
  | false =>
    rw [if_pos (by rfl), p_eqFlat_self _ _ (by omega) (by omega) (K + 9) (by omega)]
    simp
  | true =>
    rw [if_neg (by simp)]
    obtain ⟨v1, v2, v3, e3⟩ := overF_true ho
    have k1 := (okF_iff _ _).1 v1
    have k2 := (okF_iff _ _).1 v2
    rw [e3] at o1 o2 ⊢
    dsimp only at o1 o2 ⊢
    rw [show (0 : Int) = ((0 : Nat) : Int) from rfl]
    exact over_l0 p1 n1 p2 n2 (p1 ++ p2) (overN n1 n2) (by omega) (by omega) (by omega) (fun x hx => overN_mem n2 k1.names hx) rfl (by omega) (by omega) (overN_ge k2.names) (overN n1 n2).length (K + 9) 0 (by omega) (by omega)
end Go.Proofs.Ytfcpbgedgedalaa.Pure
