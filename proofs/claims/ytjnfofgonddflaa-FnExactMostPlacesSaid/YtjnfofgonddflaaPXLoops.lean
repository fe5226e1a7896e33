import Derived.Test.YtjnfofgonddflaaLMore
import Derived.Test.YtjnfofgonddflaaPBase
import Derived.Test.YtjnfofgonddflaaPLoops
import Derived.Test.YtjnfofgonddflaaM1FnExactMostPlaces
namespace Go.Proofs.Ytjnfofgonddflaa.Pure
open Go.RowKit Go.Proofs.Ytjnfofgonddflaa.Q Go.Proofs.YtjnfofgonddflaaL.PrintWords Go.Proofs.YtjnfofgonddflaaL.PrintLast Go.Proofs.YtjnfofgonddflaaL.PrintMore
set_option linter.unusedVariables false
set_option linter.unusedSimpArgs false
/-- A loop that writes its list, place by place. -/
theorem loop_set {β : Type} (F : Nat → List β → Int → Option (List β)) (g : Nat → β) (n B : Nat) (hn : n ≤ 9223372036854775807)
    (hstep : ∀ k acc i, B ≤ k → i < n → acc.length = n → F (k + 1) acc (i : Int) = F k (acc.set i (g i)) (wrap64 ((i : Int) + 1))) (hend : ∀ k acc, B ≤ k → F (k + 1) acc (n : Int) = some acc) :
    ∀ d k i acc, i + d = n → B + d < k → acc.length = n → F k acc (i : Int) = some (acc.take i ++ (List.range' i d).map g) := by
  intro d
  induction d with
  | zero =>
    intro k i acc h hk ha
    obtain ⟨k, rfl⟩ : ∃ m, k = m + 1 := ⟨k - 1, by omega⟩
    obtain rfl : i = n := by omega
    rw [hend k acc (by omega), List.take_of_length_le (by omega)]
    simp
  | succ d ih =>
    intro k i acc h hk ha
    obtain ⟨k, rfl⟩ : ∃ m, k = m + 1 := ⟨k - 1, by omega⟩
    rw [hstep k acc i (by omega) (by omega) ha, wrap_succ (n := n) (by omega) hn, ih k (i + 1) _ (by omega) (by omega) (by rw [List.length_set]; exact ha), List.range'_succ, List.map_cons]
    rw [List.take_succ_eq_append_getElem (by rw [List.length_set]; omega), List.take_set_of_le (by omega)]
    simp
theorem loop_set0 {β : Type} (F : Nat → List β → Int → Option (List β)) (g : Nat → β) (n B k : Nat) (acc : List β) (hn : n ≤ 9223372036854775807)
    (hstep : ∀ k acc i, B ≤ k → i < n → acc.length = n → F (k + 1) acc (i : Int) = F k (acc.set i (g i)) (wrap64 ((i : Int) + 1))) (hend : ∀ k acc, B ≤ k → F (k + 1) acc (n : Int) = some acc)
    (hk : B + n < k) (ha : acc.length = n) : F k acc 0 = some ((List.range n).map g) := by
  have := loop_set F g n B hn hstep hend n k 0 acc (by omega) hk ha
  rw [List.range_eq_range']
  simpa using this
theorem range_map {α β : Type} (l : List α) (d : α) (g : α → β) : (List.range l.length).map (fun i => g (l.getD i d)) = l.map g := by
  apply List.ext_getElem
  · simp
  · intro i h1 h2
    simp only [List.getElem_map, List.getElem_range]
    have : i < l.length := by simpa using h2
    rw [List.getD_eq_getElem?_getD, List.getElem?_eq_getElem this]
    rfl
/-- A loop that counts down from a number, and ends early below 0. -/
theorem loop_sz {α : Type} (F : Nat → Int → Int → Option Int) (l : List α) (d : α) (P : α → Prop) (B : Nat) (hn : l.length ≤ 9223372036854775807)
    (hstep : ∀ k a i, B ≤ k → i < l.length → 0 ≤ a → a ≤ 1048576 → F (k + 1) a (i : Int) = some (-1) ∨ ∃ a', 0 ≤ a' ∧ a' ≤ a ∧ P (l.getD i d) ∧ F (k + 1) a (i : Int) = F k a' (wrap64 ((i : Int) + 1)))
    (hend : ∀ k a, B ≤ k → F (k + 1) a (l.length : Int) = some a) :
    ∀ e k i a, i + e = l.length → B + e < k → 0 ≤ a → a ≤ 1048576 → ∃ r, F k a (i : Int) = some r ∧ (r < 0 ∨ 0 ≤ r ∧ r ≤ a ∧ ∀ j, i ≤ j → j < l.length → P (l.getD j d)) := by
  intro e
  induction e with
  | zero =>
    intro k i a h hk h0 h1
    obtain ⟨k, rfl⟩ : ∃ m, k = m + 1 := ⟨k - 1, by omega⟩
    obtain rfl : i = l.length := by omega
    exact ⟨a, hend k a (by omega), .inr ⟨h0, Int.le_refl _, fun j h1 h2 => by omega⟩⟩
  | succ e ih =>
    intro k i a h hk h0 h1
    obtain ⟨k, rfl⟩ : ∃ m, k = m + 1 := ⟨k - 1, by omega⟩
    rcases hstep k a i (by omega) (by omega) h0 h1 with hf | ⟨a', g0, g1, hp, hf⟩
    · exact ⟨-1, hf, .inl (by omega)⟩
    · rw [hf, wrap_succ (n := l.length) (by omega) hn]
      obtain ⟨r, hr, hc⟩ := ih k (i + 1) a' (by omega) (by omega) g0 (by omega)
      refine ⟨r, hr, ?_⟩
      rcases hc with hc | ⟨c0, c1, c2⟩
      · exact .inl hc
      · refine .inr ⟨c0, by omega, fun j h1 h2 => ?_⟩
        by_cases e : j = i
        · rw [e]; exact hp
        · exact c2 j (by omega) h2
theorem loop_sz0 {α : Type} (F : Nat → Int → Int → Option Int) (l : List α) (d : α) (P : α → Prop) (B k : Nat) (a : Int) (hn : l.length ≤ 9223372036854775807)
    (hstep : ∀ k a i, B ≤ k → i < l.length → 0 ≤ a → a ≤ 1048576 → F (k + 1) a (i : Int) = some (-1) ∨ ∃ a', 0 ≤ a' ∧ a' ≤ a ∧ P (l.getD i d) ∧ F (k + 1) a (i : Int) = F k a' (wrap64 ((i : Int) + 1)))
    (hend : ∀ k a, B ≤ k → F (k + 1) a (l.length : Int) = some a) (hk : B + l.length < k) (h0 : 0 ≤ a) (h1 : a ≤ 1048576) :
    ∃ r, F k a 0 = some r ∧ (r < 0 ∨ 0 ≤ r ∧ r ≤ a ∧ ∀ x ∈ l, P x) := by
  obtain ⟨r, hr, hc⟩ := loop_sz F l d P B hn hstep hend l.length k 0 a (by omega) hk h0 h1
  refine ⟨r, hr, ?_⟩
  rcases hc with hc | ⟨c0, c1, c2⟩
  · exact .inl hc
  · refine .inr ⟨c0, c1, fun x hx => ?_⟩
    obtain ⟨j, hj, rfl⟩ := List.mem_iff_getElem.1 hx
    have := c2 j (by omega) hj
    rwa [List.getD_eq_getElem?_getD, List.getElem?_eq_getElem hj] at this
/-- A loop that marks. -/
theorem loop_mark {β : Type} (F : Nat → List β → Int → Int → Option (Int × List β)) (g : Int → β) (c n B : Nat) (m : Int) (hn : n ≤ 1048576) (hc : c ≤ 10) (h0 : 0 ≤ m) (h1 : m ≤ 100000000)
    (hstep : ∀ k acc x i, B ≤ k → i < n → acc.length = n → 0 ≤ x → x ≤ 1000000000 → F (k + 1) acc x (i : Int) = F k (acc.set i (g x)) (x + c) (wrap64 ((i : Int) + 1))) (hend : ∀ k acc x, B ≤ k → acc.length = n → F (k + 1) acc x (n : Int) = some (x, acc)) :
    ∀ d k i acc, i + d = n → B + d < k → acc.length = n → F k acc (m + (c * i : Nat)) (i : Int) = some (m + (c * n : Nat), acc.take i ++ (List.range' i d).map (fun j => g (m + (c * j : Nat)))) := by
  intro d
  induction d with
  | zero =>
    intro k i acc h hk ha
    obtain ⟨k, rfl⟩ : ∃ m, k = m + 1 := ⟨k - 1, by omega⟩
    obtain rfl : i = n := by omega
    rw [hend k acc _ (by omega) ha, List.take_of_length_le (by omega)]
    simp
  | succ d ih =>
    intro k i acc h hk ha
    obtain ⟨k, rfl⟩ : ∃ m, k = m + 1 := ⟨k - 1, by omega⟩
    have hci : c * i ≤ 10485760 := by
      have := Nat.mul_le_mul hc (show i ≤ 1048576 by omega)
      omega
    have e : m + (c * i : Nat) + (c : Int) = m + (c * (i + 1) : Nat) := by rw [Nat.mul_add, Nat.mul_one]; omega
    rw [hstep k acc _ i (by omega) (by omega) ha (by omega) (by omega), wrap_succ (n := n) (by omega) (by omega), e, ih k (i + 1) _ (by omega) (by omega) (by rw [List.length_set]; exact ha), List.range'_succ, List.map_cons]
    rw [List.take_succ_eq_append_getElem (by rw [List.length_set]; omega), List.take_set_of_le (by omega)]
    simp
def marked {β : Type} (g : Int → β) (c n : Nat) (m : Int) : List β := (List.range n).map (fun j => g (m + (c * j : Nat)))
theorem marked_length {β : Type} (g : Int → β) (c n : Nat) (m : Int) : (marked g c n m).length = n := by simp [marked]
theorem marked_at {β : Type} (g : Int → β) (c n : Nat) (m : Int) (d : β) (i : Nat) (h : i < n) : (marked g c n m).getD i d = g (m + (c * i : Nat)) := by
  unfold marked
  rw [List.getD_eq_getElem?_getD, List.getElem?_eq_getElem (by simpa using h)]
  simp
theorem loop_mark0 {β : Type} (F : Nat → List β → Int → Int → Option (Int × List β)) (g : Int → β) (c n B k : Nat) (m : Int) (acc : List β) (hn : n ≤ 1048576) (hc : c ≤ 10) (h0 : 0 ≤ m) (h1 : m ≤ 100000000)
    (hstep : ∀ k acc x i, B ≤ k → i < n → acc.length = n → 0 ≤ x → x ≤ 1000000000 → F (k + 1) acc x (i : Int) = F k (acc.set i (g x)) (x + c) (wrap64 ((i : Int) + 1))) (hend : ∀ k acc x, B ≤ k → acc.length = n → F (k + 1) acc x (n : Int) = some (x, acc))
    (hk : B + n < k) (ha : acc.length = n) : F k acc m 0 = some (m + (c * n : Nat), marked g c n m) := by
  have := loop_mark F g c n B m hn hc h0 h1 hstep hend n k 0 acc (by omega) hk ha
  unfold marked
  rw [List.range_eq_range']
  simpa using this
/-- A loop that looks whether marks are held. -/
theorem loop_held (F : Nat → Int → Int → Option Int) (c n B : Nat) (m : Int) (hn : n ≤ 1048576) (hc : c ≤ 10) (h0 : 0 ≤ m) (h1 : m ≤ 100000000)
    (hstep : ∀ k i, B ≤ k → i < n → 0 ≤ m + (c * i : Nat) → m + (c * i : Nat) ≤ 1000000000 → F (k + 1) (m + (c * i : Nat)) (i : Int) = F k (m + (c * i : Nat) + c) (wrap64 ((i : Int) + 1))) (hend : ∀ k x, B ≤ k → F (k + 1) x (n : Int) = some x) :
    ∀ d k i, i + d = n → B + d < k → F k (m + (c * i : Nat)) (i : Int) = some (m + (c * n : Nat)) := by
  intro d
  induction d with
  | zero =>
    intro k i h hk
    obtain ⟨k, rfl⟩ : ∃ m, k = m + 1 := ⟨k - 1, by omega⟩
    obtain rfl : i = n := by omega
    rw [hend k _ (by omega)]
  | succ d ih =>
    intro k i h hk
    obtain ⟨k, rfl⟩ : ∃ m, k = m + 1 := ⟨k - 1, by omega⟩
    have hci : c * i ≤ 10485760 := by
      have := Nat.mul_le_mul hc (show i ≤ 1048576 by omega)
      omega
    have e : m + (c * i : Nat) + (c : Int) = m + (c * (i + 1) : Nat) := by rw [Nat.mul_add, Nat.mul_one]; omega
    rw [hstep k i (by omega) (by omega) (by omega) (by omega), wrap_succ (n := n) (by omega) (by omega), e, ih k (i + 1) (by omega) (by omega)]
theorem loop_held0 (F : Nat → Int → Int → Option Int) (c n B k : Nat) (m : Int) (hn : n ≤ 1048576) (hc : c ≤ 10) (h0 : 0 ≤ m) (h1 : m ≤ 100000000)
    (hstep : ∀ k i, B ≤ k → i < n → 0 ≤ m + (c * i : Nat) → m + (c * i : Nat) ≤ 1000000000 → F (k + 1) (m + (c * i : Nat)) (i : Int) = F k (m + (c * i : Nat) + c) (wrap64 ((i : Int) + 1))) (hend : ∀ k x, B ≤ k → F (k + 1) x (n : Int) = some x)
    (hk : B + n < k) : F k m 0 = some (m + (c * n : Nat)) := by
  have := loop_held F c n B m hn hc h0 h1 hstep hend n k 0 (by omega) hk
  simpa using this
/-- A loop that compares a list with itself. -/
theorem loop_true0 (F : Nat → Int → Option Bool) (n B k : Nat) (hn : n ≤ 9223372036854775807)
    (hstep : ∀ k i, B ≤ k → i < n → F (k + 1) (i : Int) = F k (wrap64 ((i : Int) + 1))) (hend : ∀ k, B ≤ k → F (k + 1) (n : Int) = some true) (hk : B + n < k) : F k 0 = some true := by
  have := loop_all0 F (fun _ => true) true n B k hn (fun k i hk hi => by rw [hstep k i hk hi, if_pos rfl]) hend hk
  rw [this]
  simp
theorem getD_set {α : Type} (l : List α) (d : α) (i : Nat) (v : α) (h : i < l.length) : (l.set i v).getD i d = v := by
  rw [List.getD_eq_getElem?_getD, List.getElem?_set_self h]
  rfl
theorem sub_in {a : Int} {n : Nat} (h0 : 0 ≤ a) (h1 : a ≤ 1048576) (hn : n ≤ 9223372036854775807) : wrap64 (a - (n : Int)) = a - (n : Int) := wrap_in (by omega) (by omega)
end Go.Proofs.Ytjnfofgonddflaa.Pure
