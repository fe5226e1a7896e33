-- written by px.py and merge.py (programs of this claim's), over the kit's print. Not trusted: Lean checks it.
import Derived.Test.YtfcpbgedgedalaaLMore
import Derived.Test.YtfcpbgedgedalaaN0FnCallOf
import Derived.Test.YtfcpbgedgedalaaM3FnCallOf
import Derived.Test.YtfcpbgedgedalaaM5FnCallOf
import Derived.Test.YtfcpbgedgedalaaM6FnCallOf
import Derived.Test.YtfcpbgedgedalaaM7FnCallOf
import Derived.Test.YtfcpbgedgedalaaM8FnCallOf
namespace Go.Proofs.Ytfcpbgedgedalaa.Pure
open Go.RowKit Go.Proofs.Ytfcpbgedgedalaa.Q Go.Proofs.YtfcpbgedgedalaaL.PrintWords Go.Proofs.YtfcpbgedgedalaaL.PrintLast Go.Proofs.YtfcpbgedgedalaaL.PrintMore
set_option linter.unusedVariables false
set_option linter.unusedSimpArgs false
def plainA (n : Int) : AR := ⟨0, ⟨#[]⟩, [n], []⟩
def nameA (p : PR) : AR := ⟨2, p.f0, [p.f1], []⟩
def callP (ps : List Int) (l : List PR) : List AR := ps.map plainA ++ l.map nameA
theorem map_take_succ {α β : Type} (f : α → β) (l : List α) (d : α) (i : Nat) (h : i < l.length) : (l.take (i + 1)).map f = (l.take i).map f ++ [f (l.getD i d)] := by
  rw [List.take_succ_eq_append_getElem h, List.map_append, List.getD_eq_getElem?_getD, List.getElem?_eq_getElem h]
  rfl
theorem p_implCallOf_l1 (l : List PR) (hl : l.length ≤ 2000000) : ∀ (d k i : Nat) (acc : List AR), i + d = l.length → d < k → acc.length ≤ 3000000 + i → impl_CallOf.l1 k acc l (l.length : Int) (i : Int) = some (acc ++ (l.drop i).map nameA) := by
  intro d
  induction d with
  | zero =>
    intro k i acc h hk ha
    obtain ⟨k, rfl⟩ : ∃ m, k = m + 1 := ⟨k - 1, by omega⟩
    simp only [impl_CallOf.l1]
    rw [if_neg (by omega), List.drop_of_length_le (by omega)]
    simp
  | succ d ih =>
    intro k i acc h hk ha
    obtain ⟨k, rfl⟩ : ∃ m, k = m + 1 := ⟨k - 1, by omega⟩
    simp only [impl_CallOf.l1]
    rw [if_pos (by omega), if_pos (by omega), if_pos (by omega), if_pos (by omega), rdp, wrap_succ (n := l.length) (by omega) (by omega), ih k (i + 1) _ (by omega) (by omega) (by rw [List.length_append, List.length_singleton]; omega), drop_getD l pz i (by omega), List.map_cons, List.append_assoc]
    rfl
theorem p_implCallOf_l0 (ps : List Int) (l : List PR) (hp : ps.length ≤ 2000000) (hl : l.length ≤ 2000000) : ∀ (d k i : Nat) (acc : List AR), i + d = ps.length → d + l.length + 1 < k → acc.length ≤ i → impl_CallOf.l0 k acc ps (ps.length : Int) (i : Int) ps l = some (acc ++ (ps.drop i).map plainA ++ l.map nameA) := by
  intro d
  induction d with
  | zero =>
    intro k i acc h hk ha
    obtain ⟨k, rfl⟩ : ∃ m, k = m + 1 := ⟨k - 1, by omega⟩
    simp only [impl_CallOf.l0]
    rw [if_neg (by omega), List.drop_of_length_le (by omega), show (0 : Int) = ((0 : Nat) : Int) from rfl, p_implCallOf_l1 l hl l.length k 0 acc (by omega) (by omega) (by omega)]
    simp
  | succ d ih =>
    intro k i acc h hk ha
    obtain ⟨k, rfl⟩ : ∃ m, k = m + 1 := ⟨k - 1, by omega⟩
    simp only [impl_CallOf.l0]
    rw [if_pos (by omega), if_pos (by omega), if_pos (by omega), if_pos (by omega), rd_nat, wrap_succ (n := ps.length) (by omega) (by omega), ih k (i + 1) _ (by omega) (by omega) (by rw [List.length_append, List.length_singleton]; omega), drop_getD ps 0 i (by omega), List.map_cons, List.append_assoc acc]
    rfl
theorem p_implCallOf (ps : List Int) (l : List PR) (hp : ps.length ≤ 2000000) (hl : l.length ≤ 2000000) (hs : ∀ x ∈ l, x.f0.size ≤ 2000000) (k : Nat) (hk : 9000000 ≤ k) : impl_CallOf.f k ps l = some (if vflat ps l = true then callP ps l else []) := by
  unfold impl_CallOf.f callP
  rw [p_implFlat ps l hl hs k hk, Option.bind_some]
  split
  · have := p_implCallOf_l0 ps l hp hl ps.length k 0 [] (by omega) (by omega) (by simp)
    simpa using this
  · rfl
theorem p_specCallOf_l1 (ps : List Int) (l : List PR) (hl : l.length ≤ 2000000) : ∀ (d k i : Nat) (acc : List AR), i + d = l.length → d < k → acc.length ≤ 3000000 + i → spec_callOf.l1 k (i : Int) ps l acc = some (acc ++ (l.drop i).map nameA) := by
  intro d
  induction d with
  | zero =>
    intro k i acc h hk ha
    obtain ⟨k, rfl⟩ : ∃ m, k = m + 1 := ⟨k - 1, by omega⟩
    simp only [spec_callOf.l1]
    rw [if_neg (by omega), List.drop_of_length_le (by omega)]
    simp
  | succ d ih =>
    intro k i acc h hk ha
    obtain ⟨k, rfl⟩ : ∃ m, k = m + 1 := ⟨k - 1, by omega⟩
    simp only [spec_callOf.l1]
    rw [if_pos (by omega), if_pos (by omega), if_pos (by omega), rdp, wrap_succ (n := l.length) (by omega) (by omega), ih k (i + 1) _ (by omega) (by omega) (by rw [List.length_append, List.length_singleton]; omega), drop_getD l pz i (by omega), List.map_cons, List.append_assoc]
    rfl
theorem p_specCallOf_l0 (ps : List Int) (l : List PR) (hp : ps.length ≤ 2000000) (hl : l.length ≤ 2000000) : ∀ (d k i : Nat) (acc : List AR), i + d = ps.length → d + l.length + 1 < k → acc.length ≤ i → spec_callOf.l0 k (i : Int) ps l acc = some (acc ++ (ps.drop i).map plainA ++ l.map nameA) := by
  intro d
  induction d with
  | zero =>
    intro k i acc h hk ha
    obtain ⟨k, rfl⟩ : ∃ m, k = m + 1 := ⟨k - 1, by omega⟩
    simp only [spec_callOf.l0]
    rw [if_neg (by omega), List.drop_of_length_le (by omega), show (0 : Int) = ((0 : Nat) : Int) from rfl, p_specCallOf_l1 ps l hl l.length k 0 acc (by omega) (by omega) (by omega)]
    simp
  | succ d ih =>
    intro k i acc h hk ha
    obtain ⟨k, rfl⟩ : ∃ m, k = m + 1 := ⟨k - 1, by omega⟩
    simp only [spec_callOf.l0]
    rw [if_pos (by omega), if_pos (by omega), if_pos (by omega), rd_nat, wrap_succ (n := ps.length) (by omega) (by omega), ih k (i + 1) _ (by omega) (by omega) (by rw [List.length_append, List.length_singleton]; omega), drop_getD ps 0 i (by omega), List.map_cons, List.append_assoc acc]
    rfl
theorem p_specCallOf (ps : List Int) (l : List PR) (hp : ps.length ≤ 2000000) (hl : l.length ≤ 2000000) (hs : ∀ x ∈ l, x.f0.size ≤ 2000000) (k : Nat) (hk : 9000000 ≤ k) : spec_CallOf.f k ps l = some (if vflat ps l = true then callP ps l else []) := by
  unfold spec_CallOf.f spec_callOf.f callP
  rw [p_specFlat ps l hp hl hs k hk, Option.bind_some]
  split
  · have := p_specCallOf_l0 ps l hp hl ps.length k 0 [] (by omega) (by omega) (by simp)
    rw [show ((0 : Nat) : Int) = 0 from rfl] at this
    rw [this]
    simp
  · rfl
theorem callP_kind (ps : List Int) (l : List PR) (i : Nat) (hi : i < ps.length + l.length) : ((callP ps l).getD i az).f0 = if i < ps.length then 0 else 2 := by
  unfold callP
  rw [List.getD_eq_getElem?_getD, List.getElem?_append, List.length_map]
  split
  · rename_i h
    rw [List.getElem?_map, List.getElem?_eq_getElem h]
    rfl
  · rename_i h
    rw [List.getElem?_map, List.getElem?_eq_getElem (by omega)]
    rfl
theorem FnCallOf : laws_FnCallOf.Pure := by
  intro l hl hs hb
  obtain ⟨K, hK⟩ : ∃ K : Nat, K = 30000000 := ⟨_, rfl⟩
  refine ⟨K + 10, ?_⟩
  unfold laws_FnCallOf.f
  by_cases h : (l.length : Int) > 1048576
  · rw [if_pos h]
  rw [if_neg h]
  unfold spec_DrawCallOf.f
  obtain ⟨m, e, hm⟩ := p_newReader l hb
  rw [e, Option.bind_some]
  dsimp only
  obtain ⟨ps, ns, p', e, g1, g2, g3, g4, g5⟩ := p_someFlat hm (K + 10) (by omega) (p := 0) (by omega) (by omega)
  rw [e, Option.bind_some, Option.bind_some]
  dsimp only
  have g6 : ∀ x ∈ ns, x.f0.size ≤ 2000000 := fun x hx => Nat.le_trans (g5 x hx) (by omega)
  have fit : ∀ x ∈ callP ps ns, ArgFit x := by
    intro x hx
    unfold callP at hx
    rcases List.mem_append.1 hx with h | h
    · obtain ⟨n, _, rfl⟩ := List.mem_map.1 h
      exact ⟨by show (0 : Nat) ≤ 2000000; omega, by simp [plainA], by simp [plainA], by simp [plainA], fun e => absurd (show (0 : Int) = 2 from e) (by decide)⟩
    · obtain ⟨n, hn, rfl⟩ := List.mem_map.1 h
      exact ⟨g6 n hn, by simp [nameA], by simp [nameA], by simp [nameA], fun _ => by simp [nameA]⟩
  have len : (callP ps ns).length = ps.length + ns.length := by
    unfold callP
    rw [List.length_append, List.length_map, List.length_map]
  have sm : ∀ x ∈ (if vflat ps ns = true then callP ps ns else []), SmArg x := by
    intro x hx
    split at hx
    · obtain ⟨a, b, c, d, _⟩ := fit x hx
      exact ⟨a, by omega, by omega, d⟩
    · cases hx
  have len2 : (if vflat ps ns = true then callP ps ns else []).length ≤ 20 := by
    split
    · omega
    · simp
  rw [p_implCallOf ps ns (by omega) (by omega) g6 (K + 10) (by omega), Option.bind_some, p_specCallOf ps ns (by omega) (by omega) g6 (K + 10) (by omega), Option.bind_some, p_eqCall_self _ (by omega) sm (K + 10) (by omega), Option.bind_some, if_pos rfl, p_implFlat ps ns (by omega) g6 (K + 10) (by omega), Option.bind_some]
  simp only [laws_FnCallOf.j0]
  cases hv : vflat ps ns with
  | false =>
    rw [if_pos (by rfl), p_specCallOf ps ns (by omega) (by omega) g6 (K + 9) (by omega), Option.bind_some]
    rw [hv] at sm len2 ⊢
    rw [p_eqCall_self _ (by omega) sm (K + 9) (by omega)]
    rfl
  | true =>
    rw [if_neg (by simp), if_pos rfl]
    have hn : ps.all val = true ∧ ns.all pairOk = true ∧ ps.length ≤ 8 ∧ ns.length ≤ 8 := by
      have := hv
      unfold vflat at this
      simp only [Bool.and_eq_true, decide_eq_true_eq] at this
      exact ⟨this.2.1.1.1, this.2.1.1.2, this.2.1.2, this.2.2⟩
    have ok : ∀ x ∈ callP ps ns, argB x = true := by
      intro x hx
      unfold callP at hx
      rcases List.mem_append.1 hx with h | h
      · obtain ⟨n, hq, rfl⟩ := List.mem_map.1 h
        have hvn : pxVals [n] = true := (Option.some.inj (p_areValues [n])).trans (by simp only [List.all_cons, List.all_nil, Bool.and_true]; exact List.all_eq_true.1 hn.1 n hq)
        unfold argB pxArg plainA
        dsimp only
        rw [if_pos rfl, hvn]
        have : (⟨#[]⟩ : ByteArray).toList = [] := by decide +kernel
        simp [this]
      · obtain ⟨n, hq, rfl⟩ := List.mem_map.1 h
        have hpo := List.all_eq_true.1 hn.2.1 n hq
        unfold pairOk at hpo
        rw [Bool.and_eq_true] at hpo
        have hvn : pxVals [n.f1] = true := (Option.some.inj (p_areValues [n.f1])).trans (by simp only [List.all_cons, List.all_nil, Bool.and_true]; exact hpo.2)
        unfold argB pxArg nameA
        dsimp only
        rw [if_neg (by decide), if_neg (by decide), if_pos rfl, hvn, hpo.1]
        simp
    have hc : vcall (callP ps ns) = true := by
      unfold vcall
      rw [Bool.and_eq_true, List.all_eq_true, decide_eq_true_eq]
      refine ⟨fun i hi => ?_, by omega⟩
      have hi := List.mem_range.1 hi
      unfold callAt
      rw [ok _ (getD_mem _ az i hi), callP_kind ps ns i (by omega), Bool.true_and]
      by_cases h0 : i = 0
      · simp [h0]
      · rw [callP_kind ps ns (i - 1) (by omega)]
        by_cases h1 : i < ps.length
        · rw [if_pos h1, if_pos (show i - 1 < ps.length by omega)]
          simp
        · rw [if_neg h1]
          simp
    have hf1 : ∀ (a : List Int) (P : List Int) (N : List PR), (a.map plainA).foldl flStep (P, N) = (P ++ a, N) := by
      intro a
      induction a with
      | nil => simp
      | cons x t ih =>
        intro P N
        rw [List.map_cons, List.foldl_cons, show flStep (P, N) (plainA x) = (P ++ [x], N) from rfl, ih]
        simp
    have hf2 : ∀ (a : List PR) (P : List Int) (N : List PR), (a.map nameA).foldl flStep (P, N) = (P, N ++ a) := by
      intro a
      induction a with
      | nil => simp
      | cons x t ih =>
        intro P N
        rw [List.map_cons, List.foldl_cons, show flStep (P, N) (nameA x) = (P, N ++ [x]) from rfl, ih]
        simp
    have hf : (callP ps ns).foldl flStep ([], []) = (ps, ns) := by
      unfold callP
      rw [List.foldl_append, hf1, hf2]
      simp
    rw [p_flatten (callP ps ns) (by omega) fit hc (K + 9) (by omega), Option.bind_some, hf]
    unfold flOut
    dsimp only
    rw [if_pos hv]
    dsimp only
    unfold laws_size.f
    rw [if_pos rfl, p_eqFlat_self ps ns (by omega) (by omega) (K + 9) (by omega), Option.bind_some, if_pos rfl, Option.bind_some, wrap_in (by omega) (by omega), if_pos (by omega), p_implCall _ (by omega) (fun x hx => by obtain ⟨a, b, c, d, _⟩ := fit x hx; exact ⟨a, by omega, by omega, d⟩) (K + 9) (by omega), hc]
    rfl
end Go.Proofs.Ytfcpbgedgedalaa.Pure
