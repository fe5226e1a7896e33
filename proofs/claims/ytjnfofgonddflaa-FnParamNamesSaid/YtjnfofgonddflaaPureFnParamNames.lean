import Derived.Test.YtjnfofgonddflaaLMore
import Derived.Test.YtjnfofgonddflaaPBase
import Derived.Test.YtjnfofgonddflaaPDrawSig
import Derived.Test.YtjnfofgonddflaaPLoops
import Derived.Test.YtjnfofgonddflaaPNames
import Derived.Test.YtjnfofgonddflaaPNumbers
import Derived.Test.YtjnfofgonddflaaPSigs
import Derived.Test.YtjnfofgonddflaaPSigsP
import Derived.Test.YtjnfofgonddflaaPWide
import Derived.Test.YtjnfofgonddflaaQ16
import Derived.Test.YtjnfofgonddflaaQ42
import Derived.Test.YtjnfofgonddflaaQ43
import Derived.Test.YtjnfofgonddflaaQ44
import Derived.Test.YtjnfofgonddflaaQ45
import Derived.Test.YtjnfofgonddflaaQ46
namespace Go.Proofs.Ytjnfofgonddflaa.Pure
open Go.RowKit Go.Proofs.Ytjnfofgonddflaa.Q Go.Proofs.YtjnfofgonddflaaL.PrintWords Go.Proofs.YtjnfofgonddflaaL.PrintLast Go.Proofs.YtjnfofgonddflaaL.PrintMore
set_option linter.unusedVariables false
set_option linter.unusedSimpArgs false
def namesAt (l : List PA) (c : Int) : List ByteArray := (l.filter (fun x : PA => x.f1 == c)).map (·.f0)
theorem namesAt_len (l : List PA) (c : Int) : (namesAt l c).length ≤ l.length := by
  unfold namesAt
  rw [List.length_map]
  exact List.length_filter_le _ _
theorem p_specNames_l0 (l : List PA) (c : Int) (hl : l.length ≤ 2000000) : ∀ (d k i : Nat) (acc : List ByteArray), i + d = l.length → acc.length ≤ i → d < k → spec_ParamNames.l0 k c acc (i : Int) l = some (acc ++ namesAt (l.drop i) c) := by
  intro d
  induction d with
  | zero =>
    intro k i acc h ha hk
    obtain ⟨k, rfl⟩ : ∃ m, k = m + 1 := ⟨k - 1, by omega⟩
    simp only [spec_ParamNames.l0]
    rw [if_neg (by omega), List.drop_of_length_le (by omega)]
    simp [namesAt]
  | succ d ih =>
    intro k i acc h ha hk
    obtain ⟨k, rfl⟩ : ∃ m, k = m + 1 := ⟨k - 1, by omega⟩
    simp only [spec_ParamNames.l0]
    rw [if_pos (by omega), if_pos (by omega), rdpa, wrap_succ (n := l.length) (by omega) (by omega), drop_getD l paz i (by omega)]
    generalize l.getD i paz = x
    by_cases hx : x.f1 = c
    · rw [if_pos hx, if_pos (by omega), ih k (i + 1) _ (by omega) (by simp; omega) (by omega)]
      simp [namesAt, hx]
    · rw [if_neg hx, ih k (i + 1) _ (by omega) (by omega) (by omega)]
      simp [namesAt, hx]
theorem sorted_split : ∀ (l : List PA) (c : Int), (l.Pairwise fun x y => x.f1 ≤ y.f1) → (∀ x ∈ l, c ≤ x.f1) → (l.filter fun x => x.f1 == c) ++ (l.filter fun x => decide (c < x.f1)) = l
  | [], _, _, _ => rfl
  | x :: l, c, hp, hc => by
    rw [List.pairwise_cons] at hp
    have hx := hc x (by simp)
    have ih := sorted_split l c hp.2 (fun y hy => hc y (by simp [hy]))
    by_cases e : x.f1 = c
    · have : ¬ c < x.f1 := by omega
      simp only [List.filter_cons, e, beq_self_eq_true, if_true]
      rw [if_neg (by simp), List.cons_append, ih]
    · have h1 : (x.f1 == c) = false := by simpa using e
      have h2 : c < x.f1 := by omega
      have none : (l.filter fun x => x.f1 == c) = [] := by
        rw [List.filter_eq_nil_iff]
        intro y hy
        have := hp.1 y hy
        simp
        omega
      have all : (l.filter fun x => decide (c < x.f1)) = l := by
        rw [List.filter_eq_self]
        intro y hy
        have := hp.1 y hy
        simp
        omega
      simp only [List.filter_cons, h1, none, all, decide_eq_true h2]
      simp
theorem sorted_next (l : List PA) (c d : Int) (hd : d = c + 1) (hp : l.Pairwise fun x y => x.f1 ≤ y.f1) :
    (l.filter fun x => x.f1 == d) ++ (l.filter fun x => decide (d < x.f1)) = (l.filter fun x => decide (c < x.f1)) := by
  have h := sorted_split (l.filter fun x => decide (c < x.f1)) d (List.Pairwise.filter _ hp) (fun x hx => by
    have := (List.mem_filter.1 hx).2
    simp only [decide_eq_true_eq] at this
    omega)
  rw [List.filter_filter, List.filter_filter] at h
  rw [← h]
  congr 1
  · refine List.filter_congr (fun x _ => ?_)
    by_cases e : x.f1 = d
    · have : c < x.f1 := by omega
      simp [e, this]
      omega
    · simp [e]
  · refine List.filter_congr (fun x _ => ?_)
    by_cases e : d < x.f1
    · have : c < x.f1 := by omega
      simp [e, this]
    · simp [e]
theorem p_eqTexts_self (l : List ByteArray) (hl : l.length ≤ 2000000) (k : Nat) (hk : 3000000 ≤ k) : laws_equalTexts.f k l l = some true := by
  unfold laws_equalTexts.f
  rw [if_pos rfl]
  have := loop_all0 (fun k i => laws_equalTexts.l0 k l l i) (fun _ => true) true l.length 0 k (by omega) (fun k i _ hi => by
    simp only [laws_equalTexts.l0]
    rw [if_pos (by omega), if_pos (by omega), if_pos (by omega)]
    try rw [if_pos rfl]
    try simp) (fun k _ => by
    simp only [laws_equalTexts.l0]
    rw [if_neg (by omega)]) (by omega)
  rw [this]
  simp
theorem FnParamNames : laws_FnParamNames.Pure := by
  intro l hl hs hb
  obtain ⟨K, hK⟩ : ∃ K : Nat, K = 30000000 := ⟨_, rfl⟩
  refine ⟨K + 10, ?_⟩
  unfold laws_FnParamNames.f
  by_cases h : (l.length : Int) > 1048576
  · rw [if_pos h]
  rw [if_neg h]
  unfold spec_DrawParamNames.f
  obtain ⟨m, e, hm⟩ := p_newReader l hb
  rw [e, Option.bind_some]
  dsimp only
  obtain ⟨ps, p', e, h1, h2, h3, h4⟩ := p_someSig hm (K + 10) (by omega) (p := 0) (by omega) (by omega)
  rw [e, Option.bind_some]
  dsimp only
  obtain ⟨c, e, _⟩ := p_one hm (K + 10) (by omega) (p := p') (by omega) (by omega) ([0, 1, 2, 3, 4, 1, 3, 5, (-1)]) (by decide)
  rw [e, Option.bind_some, Option.bind_some]
  dsimp only
  have impl : ∀ k c, 20000000 ≤ k → impl_ParamNames.f k ps c = some (if vsig ps = true then namesAt ps c else []) := by
    intro k c hk
    unfold impl_ParamNames.f
    rw [p_implSig ps (by omega) h4.big k (by omega), Option.bind_some, if_pos (show ps.length * 16 ≤ 140737488355328 by omega)]
    split <;> rfl
  have spec : ∀ k c, 20000000 ≤ k → spec_ParamNames.f k ps c = some (if vsig ps = true then namesAt ps c else []) := by
    intro k c hk
    unfold spec_ParamNames.f spec_validSignature.f
    rw [p_specSig ps (by omega) h4.big k (by omega), Option.bind_some, Option.bind_some]
    split
    · have := p_specNames_l0 ps c (by omega) ps.length k 0 [] (by omega) (by simp) (by omega)
      simpa using this
    · rfl
  have nl : (if vsig ps = true then namesAt ps c else []).length ≤ 2000000 := by
    split
    · have := namesAt_len ps c
      omega
    · simp
  rw [impl (K + 10) c (by omega), Option.bind_some, spec (K + 10) c (by omega), Option.bind_some, p_eqTexts_self _ nl (K + 10) (by omega), Option.bind_some, if_pos rfl, p_implSig ps (by omega) h4.big (K + 10) (by omega), Option.bind_some]
  simp only [laws_FnParamNames.j0]
  cases hv : vsig ps with
  | false =>
    rw [if_pos (show (!false) = true from rfl), spec (K + 9) c (by omega), Option.bind_some, hv, p_eqTexts_self _ (by simp) (K + 9) (by omega)]
    rfl
  | true =>
    have ok := (okS_iff ps).1 hv
    rw [if_neg (by decide)]
    have step : ∀ k acc (c : Int), 20000000 ≤ k → 0 ≤ c → c ≤ 4 → acc.length ≤ 1000 → laws_FnParamNames.l0 (k + 1) acc c ps = laws_FnParamNames.l0 k (acc ++ namesAt ps c) (c + 1) ps := by
      intro k acc c hk h0 h1 ha
      have := namesAt_len ps c
      simp only [laws_FnParamNames.l0]
      rw [if_pos h1, impl k c hk, Option.bind_some, hv, if_pos rfl, if_pos (by omega), wrap_in (by omega) (by omega)]
    have n0 := namesAt_len ps 0
    have n1 := namesAt_len ps 1
    have n2 := namesAt_len ps 2
    have n3 := namesAt_len ps 3
    rw [step (K + 8) [] 0 (by omega) (by omega) (by omega) (by simp), step (K + 7) _ (0 + 1) (by omega) (by omega) (by omega) (by simp; omega), step (K + 6) _ (0 + 1 + 1) (by omega) (by omega) (by omega) (by simp; omega),
      step (K + 5) _ (0 + 1 + 1 + 1) (by omega) (by omega) (by omega) (by simp; omega), step (K + 4) _ (0 + 1 + 1 + 1 + 1) (by omega) (by omega) (by omega) (by simp; omega)]
    have all : [] ++ namesAt ps 0 ++ namesAt ps (0 + 1) ++ namesAt ps (0 + 1 + 1) ++ namesAt ps (0 + 1 + 1 + 1) ++ namesAt ps (0 + 1 + 1 + 1 + 1) = ps.map (·.f0) := by
      have srt := ok.sorted
      have s0 := sorted_split ps 0 srt (fun x hx => (ok.range hx).1)
      have s1 := sorted_next ps 0 1 (by omega) srt
      have s2 := sorted_next ps 1 2 (by omega) srt
      have s3 := sorted_next ps 2 3 (by omega) srt
      have s4 := sorted_next ps 3 4 (by omega) srt
      have s5 : (ps.filter fun x => decide ((4 : Int) < x.f1)) = [] := by
        rw [List.filter_eq_nil_iff]
        intro y hy
        have := (ok.range hy).2
        simp
        omega
      rw [s5, List.append_nil] at s4
      rw [← s4] at s3
      rw [← s3] at s2
      rw [← s2] at s1
      rw [← s1] at s0
      conv => rhs; rw [← s0]
      simp [namesAt, List.append_assoc]
    rw [all]
    simp only [laws_FnParamNames.l0]
    rw [if_neg (by omega)]
    have w := loop_all0 (fun k i => laws_FnParamNames.l1 k (ps.map (·.f0)) i ps) (fun _ => true) true ps.length 0 (K + 3) (by omega) (fun k i hk hi => ?_) (fun k hk => ?_) (by omega)
    · rw [w]; simp
    · simp only [laws_FnParamNames.l1]
      rw [if_pos (by omega), if_pos (by omega), if_pos (by rw [List.length_map]; omega), rdOf_nat, rdpa, if_pos]
      · simp
      · rw [getD_at _ _ i (by rw [List.length_map]; exact hi), List.getElem_map, getD_at ps paz i hi]
    · simp only [laws_FnParamNames.l1]
      rw [if_neg (by omega), List.length_map]
      simp
end Go.Proofs.Ytjnfofgonddflaa.Pure
