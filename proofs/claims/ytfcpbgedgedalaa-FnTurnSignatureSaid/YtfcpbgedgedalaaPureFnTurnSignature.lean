-- written by px.py and merge.py (programs of this claim's), over the kit's print. Not trusted: Lean checks it.
import Derived.Test.YtfcpbgedgedalaaLMore
import Derived.Test.YtfcpbgedgedalaaN0FnTurnSignature
import Derived.Test.YtfcpbgedgedalaaM7FnTurnSignature
import Derived.Test.YtfcpbgedgedalaaM8FnTurnSignature
import Derived.Test.YtfcpbgedgedalaaM9FnTurnSignature
import Derived.Test.YtfcpbgedgedalaaM5FnTurnSignature
namespace Go.Proofs.Ytfcpbgedgedalaa.Pure
open Go.RowKit Go.Proofs.Ytfcpbgedgedalaa.Q Go.Proofs.YtfcpbgedgedalaaL.PrintWords Go.Proofs.YtfcpbgedgedalaaL.PrintLast Go.Proofs.YtfcpbgedgedalaaL.PrintMore
set_option linter.unusedVariables false
set_option linter.unusedSimpArgs false
def tnS (T : List TU) (x : PA) : PA := ⟨tn T x.f0, x.f1, x.f2, x.f3⟩
theorem p_sigCopy (l : List PA) (hl : l.length ≤ 2000000) : impl_Signature_copyOf.f l = some l := by
  unfold impl_Signature_copyOf.f impl_Param_135.f
  rw [if_pos (by omega)]
  rfl
theorem implTurnSig_l0 (T : List TU) (l : List PA) (hT : T.length ≤ 2000000) (hl : l.length ≤ 2000000) : ∀ (d k i : Nat), i + d = l.length → 3000000 + d < k →
    impl_TurnSignature.l0 k T (l.length : Int) (i : Int) ((l.take i).map (tnS T) ++ l.drop i) = some (l.map (tnS T)) := by
  intro d
  induction d with
  | zero =>
    intro k i h hk
    obtain ⟨k, rfl⟩ : ∃ m, k = m + 1 := ⟨k - 1, by omega⟩
    simp only [impl_TurnSignature.l0]
    rw [if_neg (by omega), List.drop_of_length_le (by omega), List.take_of_length_le (by omega), List.append_nil]
  | succ d ih =>
    intro k i h hk
    obtain ⟨k, rfl⟩ : ∃ m, k = m + 1 := ⟨k - 1, by omega⟩
    simp only [impl_TurnSignature.l0]
    have hlen : ((l.take i).map (tnS T) ++ l.drop i).length = l.length := by rw [List.length_append, List.length_map, List.length_take, List.length_drop]; omega
    rw [if_pos (by omega), if_pos (by omega), if_pos (by omega), rdpa, p_implTurn T _ hT k (by omega), Option.bind_some, wrap_succ (n := l.length) (by omega) (by omega), Int.toNat_natCast]
    have := set_take_map (tnS T) paz l i (by omega)
    unfold tnS at this
    unfold tnS
    rw [this]
    exact ih k (i + 1) (by omega) (by omega)
theorem specTurnSig_l0 (T : List TU) (l : List PA) (hT : T.length ≤ 2000000) (hl : l.length ≤ 2000000) : ∀ (d k i : Nat), i + d = l.length → 3000000 + d < k →
    spec_TurnSignature.l0 k T ((l.take i).map (tnS T) ++ l.drop i) (i : Int) = some (l.map (tnS T)) := by
  intro d
  induction d with
  | zero =>
    intro k i h hk
    obtain ⟨k, rfl⟩ : ∃ m, k = m + 1 := ⟨k - 1, by omega⟩
    simp only [spec_TurnSignature.l0]
    rw [List.drop_of_length_le (by omega), List.take_of_length_le (by omega), List.append_nil, if_neg (by rw [List.length_map]; omega)]
  | succ d ih =>
    intro k i h hk
    obtain ⟨k, rfl⟩ : ∃ m, k = m + 1 := ⟨k - 1, by omega⟩
    simp only [spec_TurnSignature.l0]
    have hlen : ((l.take i).map (tnS T) ++ l.drop i).length = l.length := by rw [List.length_append, List.length_map, List.length_take, List.length_drop]; omega
    rw [if_pos (by omega), if_pos (by omega), rdpa, p_specTurn T _ hT k (by omega), Option.bind_some, wrap_succ (n := l.length) (by omega) (by omega), Int.toNat_natCast]
    have := set_take_map (tnS T) paz l i (by omega)
    unfold tnS at this
    unfold tnS
    rw [this]
    exact ih k (i + 1) (by omega) (by omega)
def turnSig (T : List TU) (l : List PA) : List PA := if (pxTurns T && vsig l) = true then l.map (tnS T) else []
theorem p_implTurnSig (T : List TU) (l : List PA) (hT : T.length ≤ 2000000) (hTs : ∀ x ∈ T, x.f0.size ≤ 2000000) (hl : l.length ≤ 2000000) (hs : ∀ x ∈ l, x.f0.size ≤ 2000000) (k : Nat) (hk : 20000000 ≤ k) :
    impl_TurnSignature.f k T l = some (turnSig T l) := by
  obtain ⟨k, rfl⟩ : ∃ m, k = m + 1 := ⟨k - 1, by omega⟩
  unfold impl_TurnSignature.f turnSig
  rw [p_implTurns T hTs, Option.bind_some, p_implSig l hl hs (k + 1) (by omega), Option.bind_some]
  simp only [impl_TurnSignature.j0]
  have := implTurnSig_l0 T l hT hl l.length k 0 (by omega) (by omega)
  simp only [List.take_zero, List.map_nil, List.nil_append, List.drop_zero] at this
  rw [p_sigCopy l hl, Option.bind_some]
  rw [show ((0 : Nat) : Int) = 0 from rfl] at this
  cases pxTurns T <;> cases vsig l <;> simp [this]
theorem p_specTurnSig (T : List TU) (l : List PA) (hT : T.length ≤ 2000000) (hTs : ∀ x ∈ T, x.f0.size ≤ 2000000) (hl : l.length ≤ 2000000) (hs : ∀ x ∈ l, x.f0.size ≤ 2000000) (k : Nat) (hk : 6000000000000 ≤ k) :
    spec_TurnSignature.f k T l = some (turnSig T l) := by
  obtain ⟨k, rfl⟩ : ∃ m, k = m + 1 := ⟨k - 1, by omega⟩
  unfold spec_TurnSignature.f turnSig spec_validSignature.f
  rw [p_specTurns T hT hTs (k + 1) (by omega), Option.bind_some, p_specSig l hl hs (k + 1) (by omega), Option.bind_some, Option.bind_some]
  simp only [spec_TurnSignature.j0]
  have := specTurnSig_l0 T l hT hl l.length k 0 (by omega) (by omega)
  simp only [List.take_zero, List.map_nil, List.nil_append, List.drop_zero] at this
  rw [p_copyParams l hl, Option.bind_some]
  rw [show ((0 : Nat) : Int) = 0 from rfl] at this
  cases pxTurns T <;> cases vsig l <;> simp [this]
theorem okS_turn (T : List TU) (h : OkT T) (l : List PA) (hf : OkS l) : OkS (l.map (tnS T)) := by
  refine ⟨fun x hx => ?_, ?_, fun i hi => ?_, by rw [List.length_map]; exact hf.len⟩
  · obtain ⟨y, hy, rfl⟩ := List.mem_map.1 hx
    have := hf.ok y hy
    unfold paramOk at this ⊢
    rw [Bool.and_eq_true] at this ⊢
    exact ⟨tn_name T h this.1, this.2⟩
  · have hn := hf.names
    rw [List.Nodup, List.pairwise_map] at hn
    rw [List.map_map, List.Nodup, List.pairwise_map]
    exact hn.imp (fun hne e => hne (tn_inj T h e))
  · rw [List.length_map] at hi
    rw [List.getElem_map, List.getElem_map]
    exact hf.ord i hi
theorem FnTurnSignature : laws_FnTurnSignature.Pure := by
  intro l hl hs hb
  obtain ⟨K, hK⟩ : ∃ K : Nat, K = 7000000000000 := ⟨_, rfl⟩
  refine ⟨K + 10, ?_⟩
  unfold laws_FnTurnSignature.f
  by_cases h : (l.length : Int) > 1048576
  · rw [if_pos h]
  rw [if_neg h]
  unfold spec_DrawTurnSignature.f
  obtain ⟨m, e, hm⟩ := p_newReader l hb
  rw [e, Option.bind_some]
  dsimp only
  obtain ⟨ts, p1, e, h1, h2, h3, h4⟩ := p_someTurns hm (K + 10) (by omega) (p := 0) (by omega) (by omega)
  rw [e, Option.bind_some]
  dsimp only
  obtain ⟨ns, p', e, g1, g2, g3, g4⟩ := p_someSig hm (K + 10) (by omega) (p := p1) (by omega) (by omega)
  rw [e, Option.bind_some, Option.bind_some]
  dsimp only
  have h4' : ∀ x ∈ ts, x.f0.size ≤ 2000000 := fun x hx => Nat.le_trans (h4 x hx).1 (by omega)
  have h4'' : ∀ x ∈ ts.map sw, x.f0.size ≤ 2000000 := fun x hx => by
    obtain ⟨y, hy, rfl⟩ := List.mem_map.1 hx
    have := (h4 y hy).2
    show y.f1.size ≤ 2000000
    omega
  have g6 : SmallP (ns.map (tnS ts)) := fun x hx => by
    obtain ⟨y, hy, rfl⟩ := List.mem_map.1 hx
    exact tn_size ts (fun x hx => (h4 x hx).2) (g4 y hy)
  have b2 : (turnSig ts ns).length ≤ 2000000 := by unfold turnSig; split <;> simp <;> omega
  rw [p_implTurnSig ts ns (by omega) h4' (by omega) g4.big (K + 10) (by omega), Option.bind_some, p_specTurnSig ts ns (by omega) h4' (by omega) g4.big (K + 10) (by omega), Option.bind_some, p_eqSig_self _ b2 (K + 10) (by omega), Option.bind_some, if_pos rfl,
    p_implTurns ts h4', Option.bind_some, p_implSig ns (by omega) g4.big (K + 10) (by omega), Option.bind_some]
  have no : ∀ b, b = true → laws_FnTurnSignature.j0 (K + 10) ts b ns (turnSig ts ns) = some true := by
    rintro _ rfl
    simp only [laws_FnTurnSignature.j0, if_true]
    rw [p_specTurnSig ts ns (by omega) h4' (by omega) g4.big (K + 9) (by omega), Option.bind_some, p_eqSig_self _ b2 (K + 9) (by omega)]
    rfl
  cases hv : pxTurns ts with
  | false =>
    rw [if_neg (by decide)]
    exact no true rfl
  | true =>
    rw [if_pos rfl]
    cases hf : vsig ns with
    | false => exact no _ rfl
    | true =>
      have ok := (okT_iff ts).1 hv
      have okf := (okS_iff ns).1 hf
      have ea : turnSig ts ns = ns.map (tnS ts) := by unfold turnSig; rw [hv, hf]; rfl
      have vb : pxTurns (ts.map sw) = true := (okT_iff _).2 (okT_sw ts ok)
      have vf : vsig (ns.map (tnS ts)) = true := (okS_iff _).2 (okS_turn ts ok ns okf)
      have eb : turnSig (ts.map sw) (ns.map (tnS ts)) = ns := by
        unfold turnSig
        rw [vb, vf, if_pos (show (true && true) = true from rfl), List.map_map]
        have : tnS (ts.map sw) ∘ tnS ts = id := by
          funext x
          show (⟨tn (ts.map sw) (tn ts x.f0), x.f1, x.f2, x.f3⟩ : PA) = x
          rw [tn_back ts ok]
        rw [this, List.map_id]
      rw [ea]
      simp only [laws_FnTurnSignature.j0, Bool.not_true, Bool.false_eq_true, if_false]
      rw [p_implTurnBack ts (by omega) h4' (K + 9) (by omega), Option.bind_some, hv, if_pos rfl, p_implTurnSig (ts.map sw) (ns.map (tnS ts)) (by rw [List.length_map]; omega) h4'' (by rw [List.length_map]; omega) g6.big (K + 9) (by omega), Option.bind_some, eb,
        p_eqSig_self ns (by omega) (K + 9) (by omega), Option.bind_some, if_pos rfl, p_implSig (ns.map (tnS ts)) (by rw [List.length_map]; omega) g6.big (K + 9) (by omega), Option.bind_some, vf]
end Go.Proofs.Ytfcpbgedgedalaa.Pure
