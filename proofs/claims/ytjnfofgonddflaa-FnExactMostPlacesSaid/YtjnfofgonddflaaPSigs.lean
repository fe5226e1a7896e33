import Derived.Test.YtjnfofgonddflaaLMore
import Derived.Test.YtjnfofgonddflaaPBase
import Derived.Test.YtjnfofgonddflaaPLoops
import Derived.Test.YtjnfofgonddflaaPWide
import Derived.Test.YtjnfofgonddflaaM3FnExactMostPlaces
import Derived.Test.YtjnfofgonddflaaM4FnExactMostPlaces
import Derived.Test.YtjnfofgonddflaaM1FnExactMostPlaces
import Derived.Test.YtjnfofgonddflaaM2FnExactMostPlaces
namespace Go.Proofs.Ytjnfofgonddflaa.Pure
open Go.RowKit Go.Proofs.Ytjnfofgonddflaa.Q Go.Proofs.YtjnfofgonddflaaL.PrintWords Go.Proofs.YtjnfofgonddflaaL.PrintLast Go.Proofs.YtjnfofgonddflaaL.PrintMore
set_option linter.unusedVariables false
set_option linter.unusedSimpArgs false
abbrev PA := S41
abbrev paz : PA := z41
theorem rdpa (l : List PA) (i : Nat) : rd_T41 l (i : Int) = l.getD i paz := by
  unfold rd_T41
  rw [Int.toNat_natCast]
def placed (x : PA) : Bool := x.f1 == 0 || x.f1 == 1
def named (x : PA) : Bool := x.f1 == 1 || x.f1 == 3
def single (x : PA) : Bool := placed x || x.f1 == 3
def paramOk (x : PA) : Bool := pxName x.f0 && ((decide (0 ≤ x.f1) && decide (x.f1 ≤ 4)) && (val x.f3 && ((x.f2 || x.f3 == 0) && (!x.f2 || single x))))
def ordOk (a x : PA) : Bool := !decide (x.f1 < a.f1) && ((!(x.f1 == a.f1) || single x) && (!placed x || !a.f2 || x.f2))
def freshPa (l : List PA) (i : Nat) : Bool := !((l.take i).any fun x => x.f0.toList == (l.getD i paz).f0.toList)
def sigAt (l : List PA) (i : Nat) : Bool := paramOk (l.getD i paz) && (freshPa l i && (i == 0 || ordOk (l.getD (i - 1) paz) (l.getD i paz)))
def vsig (l : List PA) : Bool := (List.range l.length).all (sigAt l) && decide (l.length ≤ 8)
theorem p_byPlace (a : ByteArray) (b : Int) (c : Bool) (d : Int) : spec_byPlace.f a b c d = some (placed ⟨a, b, c, d⟩) := by
  unfold spec_byPlace.f placed
  split <;> simp_all
theorem p_byName (a : ByteArray) (b : Int) (c : Bool) (d : Int) : spec_byName.f a b c d = some (named ⟨a, b, c, d⟩) := by
  unfold spec_byName.f named
  split <;> simp_all
theorem p_isSingle (a : ByteArray) (b : Int) (c : Bool) (d : Int) : spec_isSingle.f a b c d = some (single ⟨a, b, c, d⟩) := by
  unfold spec_isSingle.f
  rw [p_byPlace, Option.bind_some, p_byName, Option.bind_some]
  unfold single placed named
  by_cases h0 : b = 0
  · simp [h0]
  · by_cases h1 : b = 1
    · simp [h1]
    · have e0 : (b == 0) = false := by simpa using h0
      have e1 : (b == 1) = false := by simpa using h1
      simp [e0, e1]
theorem p_placed (a : ByteArray) (b : Int) (c : Bool) (d : Int) : impl_Param_placed.f a b c d = some (placed ⟨a, b, c, d⟩) := by
  unfold impl_Param_placed.f placed
  split <;> simp_all
theorem p_single (a : ByteArray) (b : Int) (c : Bool) (d : Int) : impl_Param_single.f a b c d = some (single ⟨a, b, c, d⟩) := by
  unfold impl_Param_single.f
  rw [p_placed, Option.bind_some]
  unfold single
  cases placed ⟨a, b, c, d⟩ <;> simp
theorem p_validParam (a : ByteArray) (b : Int) (c : Bool) (d : Int) (hs : a.size ≤ 2000000) (k : Nat) (hk : 3000000 ≤ k) : spec_validParam.f k a b c d = some (paramOk ⟨a, b, c, d⟩) := by
  unfold spec_validParam.f paramOk
  rw [p_validName a (by omega) k (by omega), Option.bind_some, p_inRange, Option.bind_some, p_validNumber, Option.bind_some, p_isSingle]
  cases pxName a <;> cases (decide (0 ≤ b) && decide (b ≤ 4)) <;> cases val d <;> cases c <;> cases single ⟨a, b, _, d⟩ <;> by_cases h : d = 0 <;> simp_all
theorem p_specFind (l : List PA) (s : ByteArray) (hl : l.length ≤ 2000000) (k : Nat) (hk : 3000000 ≤ k) : spec_findParam.f k l s = some (pxIdx (fun x : PA => x.f0.toList == s.toList) l) := by
  unfold spec_findParam.f
  refine loop_find0 (fun k i => spec_findParam.l0 k l s i) l paz _ 0 k (by omega) (fun k i _ hi => ?_) (fun k _ => ?_) (by omega)
  · simp only [spec_findParam.l0]
    rw [if_pos (by omega), if_pos (by omega), rdpa]
    simp only [beq_iff_eq]
  · simp only [spec_findParam.l0]
    rw [if_neg (by omega)]
theorem freshPa_idx (l : List PA) (i : Nat) : freshPa l i = !decide (pxIdx (fun x : PA => x.f0.toList == (l.getD i paz).f0.toList) (l.take i) ≥ 0) := by
  rw [pxIdx_any]; rfl
theorem prev_nat {i n : Nat} (h : 0 < i) (hn : i ≤ n) (hm : n ≤ 2000000) : wrap64 ((i : Int) - 1) = ((i - 1 : Nat) : Int) := by
  rw [wrap_in (by omega) (by omega)]; omega
theorem p_specSig (l : List PA) (hl : l.length ≤ 2000000) (hs : ∀ x ∈ l, x.f0.size ≤ 2000000) (k : Nat) (hk : 9000000 ≤ k) : spec_validParams.f k l = some (vsig l) := by
  unfold spec_validParams.f vsig
  refine loop_wide0 (fun k i => spec_validParams.l0 k l i) _ _ l.length 4000000 2 k (by omega) (fun k i hk hi => ?_) (fun k hk => ?_) (by omega)
  · obtain ⟨k, rfl⟩ : ∃ m, k = m + 2 := ⟨k - 2, by omega⟩
    have hsz := hs _ (getD_mem l paz i hi)
    simp only [spec_validParams.l0]
    rw [if_pos (by omega), if_pos (by omega), rdpa, p_validParam _ _ _ _ hsz (k + 1) (by omega), Option.bind_some, if_pos (show (i : Int) ≤ (l.length : Int) by omega), Int.toNat_natCast, p_specFind _ _ (by rw [List.length_take]; omega) (k + 1) (by omega), Option.bind_some]
    unfold sigAt
    rw [freshPa_idx]
    generalize pxIdx (fun x : PA => x.f0.toList == (l.getD i paz).f0.toList) (l.take i) = q
    have e : (⟨(l.getD i paz).f0, (l.getD i paz).f1, (l.getD i paz).f2, (l.getD i paz).f3⟩ : PA) = l.getD i paz := rfl
    rw [e]
    cases paramOk (l.getD i paz) with
    | false => simp [spec_validParams.j1]
    | true =>
      rw [if_pos rfl]
      simp only [spec_validParams.j1]
      by_cases hq : q ≥ 0
      · simp [hq]
      · simp only [hq, decide_false, Bool.false_eq_true, if_false]
        by_cases h0 : i = 0
        · subst h0
          simp
          exact ⟨k, by omega, rfl⟩
        · rw [if_neg (by omega), prev_nat (n := l.length) (by omega) (by omega) hl, if_pos (by omega), if_pos (by omega), rdpa, p_isSingle, Option.bind_some, p_byPlace, Option.bind_some, e]
          have hb : (i == 0) = false := by simpa using h0
          rw [hb]
          generalize l.getD (i - 1) paz = a
          generalize l.getD i paz = x
          unfold ordOk
          have key : k + 2 ≤ k + 2 := by omega
          by_cases h1 : x.f1 < a.f1
          · simp [h1]
          · by_cases h2 : x.f1 = a.f1
            · cases h3 : single x <;> cases h4 : placed x <;> cases h5 : a.f2 <;> cases h6 : x.f2 <;> simp [h1, h2, h3, h4, h5, h6] <;> exact ⟨k, by omega, rfl⟩
            · cases h4 : placed x <;> cases h5 : a.f2 <;> cases h6 : x.f2 <;> simp [h1, h2, h4, h5, h6] <;> exact ⟨k, by omega, rfl⟩
  · obtain ⟨k, rfl⟩ : ∃ m, k = m + 1 := ⟨k - 1, by omega⟩
    simp only [spec_validParams.l0]
    rw [if_neg (by omega)]
    congr 1
    rw [decide_eq_decide]
    omega
/-- Whether the last one placed had a default. -/
def lastP (l : List PA) : Bool := l.foldl (fun b x => if placed x then x.f2 else b) false
theorem lastP_succ (l : List PA) (i : Nat) (hi : i < l.length) : lastP (l.take (i + 1)) = if placed (l.getD i paz) then (l.getD i paz).f2 else lastP (l.take i) := by
  unfold lastP
  rw [List.take_succ_eq_append_getElem hi, List.foldl_append, List.getD_eq_getElem?_getD, List.getElem?_eq_getElem hi]
  rfl
theorem lastP_prev (l : List PA) (i : Nat) (h0 : 0 < i) (hi : i ≤ l.length) (hp : placed (l.getD (i - 1) paz) = true) : lastP (l.take i) = (l.getD (i - 1) paz).f2 := by
  obtain ⟨j, rfl⟩ : ∃ j, i = j + 1 := ⟨i - 1, by omega⟩
  rw [lastP_succ l j (by omega), Nat.add_sub_cancel] at *
  rw [if_pos hp]
theorem ordOk_lt {a x : PA} (h : x.f1 < a.f1) : ordOk a x = false := by
  unfold ordOk
  simp [h]
theorem ordOk_of {a x : PA} (hg : (!placed x || !a.f2 || x.f2) = true) : ordOk a x = (!decide (x.f1 < a.f1) && (!(x.f1 == a.f1) || single x)) := by
  unfold ordOk
  rw [hg, Bool.and_true]
theorem ord_lt {a x : PA} (h : x.f1 < a.f1) : (!decide (x.f1 < a.f1) && (!(x.f1 == a.f1) || single x)) = false := by simp [h]
theorem ord_eq {a x : PA} (h : x.f1 = a.f1) : (!decide (x.f1 < a.f1) && (!(x.f1 == a.f1) || single x)) = single x := by simp [h]
theorem ord_gt {a x : PA} (h : ¬ x.f1 < a.f1) (h2 : x.f1 ≠ a.f1) : (!decide (x.f1 < a.f1) && (!(x.f1 == a.f1) || single x)) = true := by simp [h, h2]
theorem p_implSig_l0 (l : List PA) (hl : l.length ≤ 2000000) (hs : ∀ x ∈ l, x.f0.size ≤ 2000000) : ∀ (d k i : Nat), i + d = l.length → (∀ j, j < i → sigAt l j = true) → 4000000 + 4 * d ≤ k →
    impl_ValidSignature.l0 k (lastP (l.take i)) l (l.length : Int) (i : Int) l = some ((List.range' i d).all (sigAt l) && decide (l.length ≤ 8)) := by
  intro d
  induction d with
  | zero =>
    intro k i h hok hk
    obtain ⟨k, rfl⟩ : ∃ m, k = m + 1 := ⟨k - 1, by omega⟩
    obtain rfl : i = l.length := by omega
    simp only [impl_ValidSignature.l0]
    rw [if_neg (by omega)]
    simp only [List.range'_zero, List.all_nil, Bool.true_and]
    congr 1
    rw [decide_eq_decide]
    omega
  | succ d ih =>
    intro k i h hok hk
    obtain ⟨k, rfl⟩ : ∃ m, k = m + 4 := ⟨k - 4, by omega⟩
    have hi : i < l.length := by omega
    have hsz := hs _ (getD_mem l paz i hi)
    have prevOk : 0 < i → sigAt l (i - 1) = true := fun h => hok (i - 1) (by omega)
    have lp := lastP_prev l i
    have ls := lastP_succ l i hi
    rw [List.range'_succ, List.all_cons]
    have next : sigAt l i = true → ∀ k', k ≤ k' → impl_ValidSignature.l0 k' (lastP (l.take (i + 1))) l (l.length : Int) (wrap64 ((i : Int) + 1)) l = some ((List.range' (i + 1) d).all (sigAt l) && decide (l.length ≤ 8)) := by
      intro hq k' hk'
      rw [wrap_succ (n := l.length) hi (by omega)]
      refine ih k' (i + 1) (by omega) (fun j hj => ?_) (by omega)
      by_cases e : j = i
      · rw [e]; exact hq
      · exact hok j (by omega)
    have e : (⟨(l.getD i paz).f0, (l.getD i paz).f1, (l.getD i paz).f2, (l.getD i paz).f3⟩ : PA) = l.getD i paz := rfl
    simp only [impl_ValidSignature.l0]
    rw [if_pos (by omega), if_pos (by omega), if_pos (by omega), rdpa, p_isName _ (by omega) (k + 3) (by omega), Option.bind_some, p_in, Option.bind_some, p_isValue, Option.bind_some, p_single, e, Option.bind_some]
    -- what stands behind the first test
    have J : ∀ b, b = !paramOk (l.getD i paz) → impl_ValidSignature.j1 (k + 3) (lastP (l.take i)) (i : Int) l (l.length : Int) (i : Int) b l (l.getD i paz).f0 (l.getD i paz).f1 (l.getD i paz).f2 (l.getD i paz).f3
        = some ((sigAt l i && (List.range' (i + 1) d).all (sigAt l)) && decide (l.length ≤ 8)) := by
      intro b hb
      subst hb
      simp only [impl_ValidSignature.j1]
      have hsig : sigAt l i = (paramOk (l.getD i paz) && (freshPa l i && (i == 0 || ordOk (l.getD (i - 1) paz) (l.getD i paz)))) := rfl
      cases hpo : paramOk (l.getD i paz) with
      | false =>
        rw [if_pos (show (!false) = true from rfl), hsig, hpo]
        simp
      | true =>
        rw [if_neg (by decide), p_placed, e, Option.bind_some]
        rw [hpo, Bool.true_and] at hsig
        rw [freshPa_idx] at hsig
        -- the end of a round
        have R : ∀ (x3 : Bool) (k' : Nat), k ≤ k' → x3 = lastP (l.take (i + 1)) → ((i == 0 || ordOk (l.getD (i - 1) paz) (l.getD i paz)) = true) →
            ((impl_find.f (l.take ((i : Int)).toNat) (l.getD i paz).f0).bind fun t => if t ≥ 0 then (some false) else (impl_ValidSignature.l0 k' x3 l (l.length : Int) (wrap64 ((i : Int) + 1)) l))
            = some ((sigAt l i && (List.range' (i + 1) d).all (sigAt l)) && decide (l.length ≤ 8)) := by
          intro x3 k' hk' hx hord
          unfold impl_find.f
          rw [Option.bind_some, Int.toNat_natCast]
          rw [hord] at hsig
          by_cases hq : pxIdx (fun x : PA => x.f0.toList == (l.getD i paz).f0.toList) (l.take i) ≥ 0
          · rw [if_pos hq, hsig]
            rw [decide_eq_true hq]
            simp
          · rw [if_neg hq]
            rw [decide_eq_false hq] at hsig
            have hs1 : sigAt l i = true := by rw [hsig]; rfl
            rw [hx, next hs1 k' hk', hs1]
            simp
        have N : (i == 0 || ordOk (l.getD (i - 1) paz) (l.getD i paz)) = false → some false = some ((sigAt l i && (List.range' (i + 1) d).all (sigAt l)) && decide (l.length ≤ 8)) := by
          intro hf
          rw [hsig, hf]
          simp
        -- the second test on, with the flag that is kept
        have J2 : ∀ x3 : Bool, x3 = lastP (l.take (i + 1)) → (placed (l.getD i paz) = true → lastP (l.take i) = true → (l.getD i paz).f2 = true) →
            impl_ValidSignature.j2 (k + 2) x3 (i : Int) l (l.length : Int) (i : Int) l (l.getD i paz).f0 (l.getD i paz).f1 (l.getD i paz).f2 (l.getD i paz).f3
            = some ((sigAt l i && (List.range' (i + 1) d).all (sigAt l)) && decide (l.length ≤ 8)) := by
          intro x3 hx hgood
          simp only [impl_ValidSignature.j2]
          by_cases h0 : i = 0
          · subst h0
            rw [if_neg (by omega), if_pos (by omega), if_pos (by omega)]
            exact R x3 (k + 1) (by omega) hx (by simp)
          · have hb : (i == 0) = false := by simpa using h0
            rw [if_pos (by omega), prev_nat (n := l.length) (by omega) (by omega) hl, if_pos (by omega), if_pos (by omega), rdpa, p_single, e, Option.bind_some]
            have pk := prevOk (by omega)
            have hprev : paramOk (l.getD (i - 1) paz) = true := by
              unfold sigAt at pk
              rw [Bool.and_eq_true] at pk
              exact pk.1
            have hrange : 0 ≤ (l.getD (i - 1) paz).f1 := by
              unfold paramOk at hprev
              simp only [Bool.and_eq_true, decide_eq_true_eq] at hprev
              exact hprev.2.1.1
            have lp' := lp (by omega) (by omega)
            have hord : ordOk (l.getD (i - 1) paz) (l.getD i paz) = (!decide ((l.getD i paz).f1 < (l.getD (i - 1) paz).f1) && (!((l.getD i paz).f1 == (l.getD (i - 1) paz).f1) || single (l.getD i paz))) := by
              by_cases hlt : (l.getD i paz).f1 < (l.getD (i - 1) paz).f1
              · rw [ordOk_lt hlt, ord_lt hlt]
              · have : (!placed (l.getD i paz) || !(l.getD (i - 1) paz).f2 || (l.getD i paz).f2) = true := by
                  cases hpl : placed (l.getD i paz) with
                  | false => rfl
                  | true =>
                    have hpp : placed (l.getD (i - 1) paz) = true := by
                      unfold placed at hpl ⊢
                      simp only [Bool.or_eq_true, beq_iff_eq] at hpl ⊢
                      omega
                    have := hgood hpl
                    rw [lp' hpp] at this
                    cases h5 : (l.getD (i - 1) paz).f2 with
                    | false => rfl
                    | true => rw [this h5]; rfl
                exact ordOk_of this
            rw [hb, Bool.false_or, hord] at N R
            by_cases h1 : (l.getD i paz).f1 < (l.getD (i - 1) paz).f1
            · rw [if_pos h1]
              simp only [impl_ValidSignature.j3, if_true]
              exact N (ord_lt h1)
            · rw [if_neg h1]
              by_cases h2 : (l.getD i paz).f1 = (l.getD (i - 1) paz).f1
              · rw [if_pos h2]
                simp only [impl_ValidSignature.j3]
                cases h3 : single (l.getD i paz) with
                | false =>
                  rw [if_pos (show (!false) = true from rfl)]
                  exact N (by rw [ord_eq h2, h3])
                | true =>
                  rw [if_neg (by decide), if_pos (by omega), if_pos (by omega)]
                  exact R x3 k (by omega) hx (by rw [ord_eq h2, h3])
              · rw [if_neg h2]
                simp only [impl_ValidSignature.j3]
                rw [if_neg (by decide), if_pos (by omega), if_pos (by omega)]
                exact R x3 k (by omega) hx (ord_gt h1 h2)
        cases hpl : placed (l.getD i paz) with
        | false =>
          rw [if_neg (by decide)]
          rw [hpl] at ls
          exact J2 _ (by rw [ls]; rfl) (by rw [hpl]; intro h; exact absurd h (by decide))
        | true =>
          rw [if_pos rfl]
          rw [hpl, if_pos rfl] at ls
          cases hx3 : lastP (l.take i) with
          | false =>
            rw [if_neg (by decide)]
            exact J2 _ ls.symm (by rw [hx3]; intro _ h; exact absurd h (by decide))
          | true =>
            rw [if_pos rfl]
            cases hf2 : (l.getD i paz).f2 with
            | false =>
              rw [if_neg (by decide)]
              refine N ?_
              -- the one before is placed, too, and has a default
              by_cases h0 : i = 0
              · subst h0
                exact absurd hx3 (by simp [lastP])
              · have hb : (i == 0) = false := by simpa using h0
                rw [hb, Bool.false_or]
                by_cases hlt : (l.getD i paz).f1 < (l.getD (i - 1) paz).f1
                · exact ordOk_lt hlt
                · have pk := prevOk (by omega)
                  have hprev : paramOk (l.getD (i - 1) paz) = true := by
                    unfold sigAt at pk
                    rw [Bool.and_eq_true] at pk
                    exact pk.1
                  have hrange : 0 ≤ (l.getD (i - 1) paz).f1 := by
                    unfold paramOk at hprev
                    simp only [Bool.and_eq_true, decide_eq_true_eq] at hprev
                    exact hprev.2.1.1
                  have hpp : placed (l.getD (i - 1) paz) = true := by
                    have hpl' := hpl
                    unfold placed at hpl' ⊢
                    simp only [Bool.or_eq_true, beq_iff_eq] at hpl' ⊢
                    omega
                  have lp' := lp (by omega) (by omega) hpp
                  rw [hx3] at lp'
                  unfold ordOk
                  rw [hpl, ← lp', hf2]
                  simp
            | true =>
              rw [if_pos rfl, ← hf2]
              exact J2 _ ls.symm (fun _ _ => hf2)
    unfold paramOk at J
    cases h1 : pxName (l.getD i paz).f0 with
    | false => rw [if_neg (by decide)]; exact J true (by rw [h1]; rfl)
    | true =>
      rw [if_pos rfl]
      cases h2 : (decide (0 ≤ (l.getD i paz).f1) && decide ((l.getD i paz).f1 ≤ 4)) with
      | false => rw [if_neg (by decide)]; exact J true (by rw [h1, h2]; rfl)
      | true =>
        rw [if_pos rfl]
        cases h3 : val (l.getD i paz).f3 with
        | false => rw [if_neg (by decide)]; exact J true (by rw [h1, h2, h3]; rfl)
        | true =>
          rw [if_pos rfl]
          by_cases h4 : (l.getD i paz).f2 = true
          · rw [if_pos h4, if_pos h4]
            exact J _ (by rw [h1, h2, h3, h4]; rfl)
          · rw [if_neg h4]
            have h4' : (l.getD i paz).f2 = false := Bool.eq_false_iff.2 h4
            by_cases h5 : (l.getD i paz).f3 = 0
            · rw [if_pos h5, if_neg h4]
              exact J false (by rw [h1, h2, h3, h4', h5]; rfl)
            · rw [if_neg h5]
              have h5' : ((l.getD i paz).f3 == 0) = false := by
                generalize (l.getD i paz).f3 = z at h5
                simpa using h5
              exact J true (by rw [h1, h2, h3, h4', h5']; rfl)
theorem p_implSig (l : List PA) (hl : l.length ≤ 2000000) (hs : ∀ x ∈ l, x.f0.size ≤ 2000000) (k : Nat) (hk : 14000000 ≤ k) : impl_ValidSignature.f k l = some (vsig l) := by
  unfold impl_ValidSignature.f vsig
  have := p_implSig_l0 l hl hs l.length k 0 (by omega) (fun j hj => absurd hj (Nat.not_lt_zero _)) (by omega)
  rw [List.range_eq_range']
  exact this
end Go.Proofs.Ytjnfofgonddflaa.Pure
