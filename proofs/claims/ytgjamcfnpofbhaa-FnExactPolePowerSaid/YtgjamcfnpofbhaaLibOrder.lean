/- Plain laws: 'is in a list' and 'is an order', as the program and the reference tell them; for lists that fit into memory. -/
import Derived.Test.YtgjamcfnpofbhaaLibIn
import Derived.Test.YtgjamcfnpofbhaaQx1
import Derived.Test.YtgjamcfnpofbhaaQx8
import Derived.Test.YtgjamcfnpofbhaaQx11
namespace Go.Proofs.Ytgjamcfnpofbhaa.L
open Go.RowKit Go.Proofs.Ytgjamcfnpofbhaa.Q Go.Proofs.YtgjamcfnpofbhaaW.PrintWords Go.Proofs.YtgjamcfnpofbhaaW.PrintLast
set_option linter.unusedVariables false
set_option linter.unusedSimpArgs false
theorem l1Has_l0 (l : List Int) (a : Int) (hb : l.length ≤ 35184372088832) (d : Nat) : ∀ (i k : Nat), i + d = l.length → d < k → spec_l1Has.l0 k a l (l.length : Int) (i : Int) = some (decide (a ∈ l.drop i)) := by
  induction d with
  | zero =>
    intro i k hi hk
    obtain ⟨k, rfl⟩ : ∃ m, k = m + 1 := ⟨k - 1, by omega⟩
    simp only [spec_l1Has.l0]
    rw [if_neg (by omega), show i = l.length from by omega, List.drop_length]
    simp
  | succ d ih =>
    intro i k hi hk
    obtain ⟨k, rfl⟩ : ∃ m, k = m + 1 := ⟨k - 1, by omega⟩
    simp only [spec_l1Has.l0]
    rw [if_pos (by omega), if_pos (by omega), if_pos (by omega), rd_nat l i (by omega), wrap_id (by omega) (by omega), List.drop_eq_getElem_cons (by omega)]
    by_cases h : l[i] = a
    · rw [if_pos h]
      simp [h]
    · rw [if_neg h]
      have := ih (i + 1) k (by omega) (by omega)
      have e : decide (a ∈ l[i] :: l.drop (i + 1)) = decide (a ∈ l.drop (i + 1)) := by
        congr 1
        rw [List.mem_cons]
        simp [Ne.symm h]
      rw [e]
      exact_mod_cast this
theorem l1Has (l : List Int) (a : Int) (hb : l.length ≤ 35184372088832) (k : Nat) (hk : l.length + 1 ≤ k) : spec_l1Has.f k l a = some (decide (a ∈ l)) := by
  unfold spec_l1Has.f
  have := l1Has_l0 l a hb l.length 0 k (by omega) (by omega)
  simpa using this
theorem index_l0 (l : List Int) (a : Int) (hb : l.length ≤ 35184372088832) (d : Nat) : ∀ (i k : Nat), i + d = l.length → d < k → ∃ r, slices_Index_int_int.l0 k l a (l.length : Int) (i : Int) = some r ∧ decide (r ≥ 0) = decide (a ∈ l.drop i) := by
  induction d with
  | zero =>
    intro i k hi hk
    obtain ⟨k, rfl⟩ : ∃ m, k = m + 1 := ⟨k - 1, by omega⟩
    simp only [slices_Index_int_int.l0]
    rw [if_neg (by omega), show i = l.length from by omega, List.drop_length]
    exact ⟨-1, rfl, by simp⟩
  | succ d ih =>
    intro i k hi hk
    obtain ⟨k, rfl⟩ : ∃ m, k = m + 1 := ⟨k - 1, by omega⟩
    simp only [slices_Index_int_int.l0]
    rw [if_pos (by omega), if_pos (by omega), if_pos (by omega), rd_nat l i (by omega), wrap_id (by omega) (by omega), List.drop_eq_getElem_cons (by omega)]
    by_cases h : a = l[i]
    · rw [if_pos h]
      exact ⟨_, rfl, by rw [decide_eq_true (by omega), decide_eq_true (by rw [h]; exact List.mem_cons_self)]⟩
    · rw [if_neg h]
      obtain ⟨r, e1, e2⟩ := ih (i + 1) k (by omega) (by omega)
      refine ⟨r, by exact_mod_cast e1, ?_⟩
      rw [e2]
      congr 1
      rw [List.mem_cons]
      simp [h]
theorem contains (l : List Int) (a : Int) (hb : l.length ≤ 35184372088832) (k : Nat) (hk : l.length + 1 ≤ k) : slices_Contains_int_int.f k l a = some (decide (a ∈ l)) := by
  unfold slices_Contains_int_int.f slices_Index_int_int.f
  obtain ⟨r, e1, e2⟩ := index_l0 l a hb l.length 0 k (by omega) (by omega)
  have e1' : slices_Index_int_int.l0 k l a (l.length : Int) 0 = some r := e1
  rw [e1', Option.bind_some, e2]
  simp
/-- Are these the numbers below n, each at most once, and none of those seen? -/
def ordGo (n : Int) (seen : List Int) : List Int → Bool
  | [] => true
  | x :: xs => decide (0 ≤ x ∧ x ≤ n - 1) && !decide (x ∈ seen) && ordGo n (seen ++ [x]) xs
/-- Is this an order? -/
def isOrd (p : List Int) : Bool := decide ((1 : Int) ≤ (p.length : Int) ∧ (p.length : Int) ≤ 8) && ordGo (p.length : Int) [] p
theorem ord_l0 (l : List Int) (hb : l.length ≤ 8) (d : Nat) : ∀ (i k : Nat), i + d = l.length → d + 9 < k → spec_laOrder.l0 k l l (l.length : Int) (i : Int) = some (ordGo (l.length : Int) (l.take i) (l.drop i)) ∧ impl_isOrder.l0 k l l (l.length : Int) (i : Int) = some (ordGo (l.length : Int) (l.take i) (l.drop i)) := by
  induction d with
  | zero =>
    intro i k hi hk
    obtain ⟨k, rfl⟩ : ∃ m, k = m + 1 := ⟨k - 1, by omega⟩
    simp only [spec_laOrder.l0, impl_isOrder.l0]
    rw [if_neg (by omega), if_neg (by omega), show i = l.length from by omega, List.drop_length]
    exact ⟨rfl, rfl⟩
  | succ d ih =>
    intro i k hi hk
    obtain ⟨k, rfl⟩ : ∃ m, k = m + 1 := ⟨k - 1, by omega⟩
    have ht : (l.take ((i : Int)).toNat).length ≤ 8 := by rw [List.length_take]; omega
    have IH := ih (i + 1) k (by omega) (by omega)
    rw [List.take_succ_eq_append_getElem (by omega)] at IH
    simp only [spec_laOrder.l0, impl_isOrder.l0]
    rw [List.drop_eq_getElem_cons (by omega)]
    simp only [ordGo]
    have c1 : (i : Int) < (l.length : Int) := by omega
    have c2 : (0 : Int) ≤ (i : Int) := by omega
    have c3 : (i : Int) ≤ (l.length : Int) := by omega
    have e0 : ((i : Int)).toNat = i := by omega
    have e1 : wrap64 ((l.length : Int) - 1) = (l.length : Int) - 1 := wrap_id (by omega) (by omega)
    have e2 : wrap64 ((i : Int) + 1) = ((i + 1 : Nat) : Int) := by rw [wrap_id (by omega) (by omega)]; omega
    simp only [if_pos c1, if_pos c2, if_pos c3, rd_nat l i (by omega), l1In, between, e1, e2, Option.bind_some]
    by_cases h : 0 ≤ l[i] ∧ l[i] ≤ (l.length : Int) - 1
    · rw [decide_eq_true h, if_pos rfl, if_pos rfl, l1Has _ _ (by omega) k (by omega), contains _ _ (by omega) k (by omega), Option.bind_some, Option.bind_some, e0, Bool.true_and]
      by_cases h2 : l[i] ∈ l.take i
      · rw [decide_eq_true h2]
        exact ⟨rfl, rfl⟩
      · rw [decide_eq_false h2, if_neg (by decide), if_neg (by decide)]
        exact IH
    · rw [decide_eq_false h, if_neg (by decide), if_neg (by decide)]
      exact ⟨rfl, rfl⟩
theorem laOrder (l : List Int) (k : Nat) (hk : 20 ≤ k) : spec_laOrder.f k l = some (isOrd l) := by
  unfold spec_laOrder.f isOrd
  rw [l1In, Option.bind_some]
  by_cases h : (1 : Int) ≤ (l.length : Int) ∧ (l.length : Int) ≤ 8
  · rw [decide_eq_true h, if_pos rfl]
    exact (ord_l0 l (by omega) l.length 0 k (by omega) (by omega)).1
  · rw [decide_eq_false h]
    rfl
theorem isOrder (l : List Int) (k : Nat) (hk : 20 ≤ k) : impl_isOrder.f k l = some (isOrd l) := by
  unfold impl_isOrder.f isOrd
  rw [between, Option.bind_some]
  by_cases h : (1 : Int) ≤ (l.length : Int) ∧ (l.length : Int) ≤ 8
  · rw [decide_eq_true h, if_pos rfl]
    exact (ord_l0 l (by omega) l.length 0 k (by omega) (by omega)).2
  · rw [decide_eq_false h]
    rfl
theorem ordGo_mem (n : Int) : ∀ (l seen : List Int), ordGo n seen l = true → ∀ x ∈ l, 0 ≤ x ∧ x ≤ n - 1
  | [], _, _, x, hx => by simp at hx
  | y :: ys, seen, h, x, hx => by
    simp only [ordGo, Bool.and_eq_true, decide_eq_true_eq] at h
    rcases List.mem_cons.1 hx with rfl | hx
    · exact h.1.1
    · exact ordGo_mem n ys _ h.2 x hx
theorem isOrd_facts {p : List Int} (h : isOrd p = true) : 1 ≤ p.length ∧ p.length ≤ 8 ∧ ∀ x ∈ p, 0 ≤ x ∧ x ≤ (p.length : Int) - 1 := by
  unfold isOrd at h
  simp only [Bool.and_eq_true, decide_eq_true_eq] at h
  exact ⟨by omega, by omega, ordGo_mem _ _ _ h.2⟩
end Go.Proofs.Ytgjamcfnpofbhaa.L
