-- written by px.py and merge.py (programs of this claim's), over the kit's print. Not trusted: Lean checks it.
import Derived.Test.YtkandhljbbolnaaLMore
import Derived.Test.YtkandhljbbolnaaN0FnPutName
import Derived.Test.YtkandhljbbolnaaM0FnPutName
import Derived.Test.YtkandhljbbolnaaM2FnPutName
import Derived.Test.YtkandhljbbolnaaM3FnPutName
import Derived.Test.YtkandhljbbolnaaM4FnPutName
import Derived.Test.YtkandhljbbolnaaM5FnPutName
namespace Go.Proofs.Ytkandhljbbolnaa.Pure
open Go.RowKit Go.Proofs.Ytkandhljbbolnaa.Q Go.Proofs.YtkandhljbbolnaaL.PrintWords Go.Proofs.YtkandhljbbolnaaL.PrintLast Go.Proofs.YtkandhljbbolnaaL.PrintMore
set_option linter.unusedVariables false
set_option linter.unusedSimpArgs false
theorem pxIdx_first {α : Type} (p : α → Bool) (l : List α) (d : α) (i : Nat) (e : pxIdx p l = (i : Int)) : i < l.length ∧ p (l.getD i d) = true ∧ ∀ j, j < i → p (l.getD j d) = false := by
  unfold pxIdx at e
  cases hf : l.findIdx? p with
  | none => rw [hf] at e; simp at e <;> omega
  | some q =>
    rw [hf] at e
    have : q = i := by
      simp only at e
      omega
    subst this
    rw [List.findIdx?_eq_some_iff_getElem] at hf
    obtain ⟨h1, h2, h3⟩ := hf
    refine ⟨h1, by rw [List.getD_eq_getElem?_getD, List.getElem?_eq_getElem h1]; exact h2, fun j hj => ?_⟩
    have := h3 j hj
    rw [List.getD_eq_getElem?_getD, List.getElem?_eq_getElem (by omega)]
    simpa using this
theorem putP_facts (ns : List PR) (s : ByteArray) (v : Int) :
    ∃ i : Nat, i < (putP ns ⟨s, v⟩).length ∧ atP (putP ns ⟨s, v⟩) s = (i : Int) ∧ putP (putP ns ⟨s, v⟩) ⟨s, v⟩ = putP ns ⟨s, v⟩ ∧
      ((ns.any (fun x : PR => x.f0.toList == s.toList) = false ∧ (putP ns ⟨s, v⟩).take i ++ (putP ns ⟨s, v⟩).drop (i + 1) = ns) ∨ (ns.any (fun x : PR => x.f0.toList == s.toList) = true ∧ (putP ns ⟨s, v⟩).length = ns.length)) := by
  have again : ∀ (q : List PR) (i : Nat), i < q.length → pxIdx (fun x : PR => x.f0.toList == s.toList) q = (i : Int) → q.getD i pz = ⟨s, v⟩ → putP q ⟨s, v⟩ = q := by
    intro q i hi e hx
    unfold putP
    show (if pxIdx (fun y : PR => y.f0.toList == s.toList) q ≥ 0 then q.set (pxIdx (fun y : PR => y.f0.toList == s.toList) q).toNat ⟨s, v⟩ else q ++ [⟨s, v⟩]) = q
    rw [e, if_pos (by omega), Int.toNat_natCast, ← hx, List.getD_eq_getElem?_getD, List.getElem?_eq_getElem hi]
    exact List.set_getElem_self hi
  have hany := pxIdx_any (fun x : PR => x.f0.toList == s.toList) ns
  rcases pxIdx_range (fun x : PR => x.f0.toList == s.toList) ns with e | ⟨i, hi, e⟩
  · have hq : putP ns ⟨s, v⟩ = ns ++ [⟨s, v⟩] := by
      unfold putP
      show (if pxIdx (fun y : PR => y.f0.toList == s.toList) ns ≥ 0 then ns.set (pxIdx (fun y : PR => y.f0.toList == s.toList) ns).toNat ⟨s, v⟩ else ns ++ [⟨s, v⟩]) = _
      rw [e, if_neg (by omega)]
    rw [e] at hany
    have hno : ns.any (fun x : PR => x.f0.toList == s.toList) = false := hany.symm
    have hlast : (ns ++ [(⟨s, v⟩ : PR)]).getD ns.length pz = ⟨s, v⟩ := by
      rw [List.getD_eq_getElem?_getD, List.getElem?_append_right (Nat.le_refl _), Nat.sub_self]
      rfl
    have at1 : pxIdx (fun x : PR => x.f0.toList == s.toList) (ns ++ [⟨s, v⟩]) = (ns.length : Int) := by
      refine pxIdx_hit _ _ pz ns.length (by simp) (by rw [hlast]; simp) (fun j hj => ?_)
      rw [List.getD_eq_getElem?_getD, List.getElem?_append_left hj, List.getElem?_eq_getElem hj]
      have := List.any_eq_false.1 hno _ (List.getElem_mem hj)
      simpa using this
    rw [hq]
    refine ⟨ns.length, by simp, at1, again _ _ (by simp) at1 hlast, .inl ⟨hno, ?_⟩⟩
    rw [List.take_left' rfl, List.drop_of_length_le (by simp), List.append_nil]
  · obtain ⟨_, h1, h2⟩ := pxIdx_first _ ns pz i e
    have hq : putP ns ⟨s, v⟩ = ns.set i ⟨s, v⟩ := by
      unfold putP
      show (if pxIdx (fun y : PR => y.f0.toList == s.toList) ns ≥ 0 then ns.set (pxIdx (fun y : PR => y.f0.toList == s.toList) ns).toNat ⟨s, v⟩ else ns ++ [⟨s, v⟩]) = _
      rw [e, if_pos (by omega), Int.toNat_natCast]
    rw [e] at hany
    have hyes : ns.any (fun x : PR => x.f0.toList == s.toList) = true := by rw [← hany]; simp
    have hl : (ns.set i (⟨s, v⟩ : PR)).length = ns.length := List.length_set ..
    have hat : (ns.set i (⟨s, v⟩ : PR)).getD i pz = ⟨s, v⟩ := by
      rw [List.getD_eq_getElem?_getD, List.getElem?_set_self hi]
      rfl
    have at1 : pxIdx (fun x : PR => x.f0.toList == s.toList) (ns.set i ⟨s, v⟩) = (i : Int) := by
      refine pxIdx_hit _ _ pz i (by omega) (by rw [hat]; simp) (fun j hj => ?_)
      rw [List.getD_eq_getElem?_getD, List.getElem?_set_ne (by omega), ← List.getD_eq_getElem?_getD]
      exact h2 j hj
    rw [hq]
    exact ⟨i, by omega, at1, again _ _ (by omega) at1 hat, .inr ⟨hyes, hl⟩⟩
theorem p_named (ps : List Int) (ns : List PR) (s : ByteArray) (hl : ns.length ≤ 2000000) (k : Nat) (hk : 3000000 ≤ k) : laws_named.f k ps ns s = some (ns.any (fun x : PR => x.f0.toList == s.toList)) := by
  have key : ∀ (d k i : Nat), i + d = ns.length → d < k → laws_named.l0 k s (i : Int) ps ns = some ((ns.drop i).any (fun x : PR => x.f0.toList == s.toList)) := by
    intro d
    induction d with
    | zero =>
      intro k i h hk
      obtain ⟨k, rfl⟩ : ∃ m, k = m + 1 := ⟨k - 1, by omega⟩
      simp only [laws_named.l0]
      rw [if_neg (by omega), List.drop_of_length_le (by omega)]
      rfl
    | succ d ih =>
      intro k i h hk
      obtain ⟨k, rfl⟩ : ∃ m, k = m + 1 := ⟨k - 1, by omega⟩
      simp only [laws_named.l0]
      rw [if_pos (by omega), if_pos (by omega), rdp, wrap_succ (n := ns.length) (by omega) (by omega), drop_getD ns pz i (by omega), List.any_cons]
      by_cases hx : (ns.getD i pz).f0.toList = s.toList
      · rw [if_pos hx, hx]
        simp
      · rw [if_neg hx, ih k (i + 1) (by omega) (by omega)]
        have : ((ns.getD i pz).f0.toList == s.toList) = false := by simpa using hx
        rw [this, Bool.false_or]
  unfold laws_named.f
  have := key ns.length k 0 (by omega) (by omega)
  simpa using this
theorem FnPutName : laws_FnPutName.Pure := by
  intro l hl hs hb
  obtain ⟨K, hK⟩ : ∃ K : Nat, K = 30000000 := ⟨_, rfl⟩
  refine ⟨K + 10, ?_⟩
  unfold laws_FnPutName.f
  by_cases h : (l.length : Int) > 1048576
  · rw [if_pos h]
  rw [if_neg h]
  unfold spec_DrawPutName.f
  obtain ⟨m, e, hm⟩ := p_newReader l hb
  rw [e, Option.bind_some]
  dsimp only
  obtain ⟨ps, ns, p', e, h1, h2, h3, h4, h5⟩ := p_someFlat hm (K + 10) (by omega) (p := 0) (by omega) (by omega)
  have h5' : SmallF ns := fun x hx => Nat.le_trans (h5 x hx) (by omega)
  rw [e, Option.bind_some]
  dsimp only
  obtain ⟨s, e, hz⟩ := p_anyName hm (K + 10) (by omega) (p := p') (by omega) (by omega)
  rw [e, Option.bind_some]
  dsimp only
  obtain ⟨v, e, _, _⟩ := p_anyNumber hm (K + 10) (by omega) (p := p' + 2) (by omega) (by omega)
  rw [e, Option.bind_some, Option.bind_some]
  dsimp only
  have hln := putName_len ps ns s v
  rw [p_implPutName ps ns s v (by omega) (by omega) h5' (by omega) (K + 10) (by omega), Option.bind_some, p_specPutName ps ns s v (by omega) (by omega) h5' (by omega) (K + 10) (by omega), Option.bind_some, p_eqFlat_self _ _ (by omega) (by omega) (K + 10) (by omega), Option.bind_some, if_pos rfl, if_neg (by simp)]
  simp only [laws_FnPutName.j0]
  by_cases hv : (vflat ps ns && vflat ps (putP ns ⟨s, v⟩)) = true
  · have ea : putName ps ns s v = (ps, putP ns ⟨s, v⟩, true) := by unfold putName; rw [if_pos hv]
    obtain ⟨v1, v2⟩ := (Bool.and_eq_true _ _ ▸ hv : _ ∧ _)
    obtain ⟨i, hi, hat, hag, hd⟩ := putP_facts ns s v
    have hql := putP_len ns ⟨s, v⟩
    have hqs := putP_small (v := v) h5' (show s.size ≤ 2000000 by omega)
    rw [ea]
    dsimp only
    generalize putP ns ⟨s, v⟩ = q at *
    have e2 : putName ps q s v = (ps, q, true) := by unfold putName; rw [hag, if_pos (by rw [v2]; rfl)]
    have e3 : dropN ps q s = (ps, q.take i ++ q.drop (i + 1), true) := by unfold dropN; rw [if_pos v2, hat, if_neg (by omega), Int.toNat_natCast]
    rw [if_neg (by decide), p_implPutName ps q s v (by omega) (by omega) hqs (by omega) (K + 9) (by omega), Option.bind_some, p_implDropName ps q s (by omega) (by omega) hqs (K + 9) (by omega), Option.bind_some, e2, e3]
    dsimp only
    rw [if_pos rfl, p_eqFlat_self _ _ (by omega) (by omega) (K + 9) (by omega), Option.bind_some, if_pos rfl]
    simp only [laws_FnPutName.j1]
    rw [if_neg (by decide), p_named ps ns s (by omega) (K + 8) (by omega), Option.bind_some]
    rcases hd with ⟨hn, hq⟩ | ⟨hn, hq⟩
    · rw [hn, if_neg (by decide), hq, p_eqFlat_self _ _ (by omega) (by omega) (K + 8) (by omega)]
      rfl
    · unfold laws_size.f
      rw [hn, if_pos rfl, Option.bind_some, Option.bind_some, hq]
      simp
  · have ea : putName ps ns s v = ([], [], false) := by unfold putName; rw [if_neg hv]
    rw [ea]
    dsimp only
    rw [if_pos (show (!false) = true from rfl), p_eqFlat_self _ _ (by simp) (by simp) (K + 9) (by omega)]
    rfl
end Go.Proofs.Ytkandhljbbolnaa.Pure
