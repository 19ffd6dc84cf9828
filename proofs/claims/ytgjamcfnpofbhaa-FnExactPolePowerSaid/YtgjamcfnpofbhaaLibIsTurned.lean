/- Plain laws: 'is a turned order', as the program and the reference tell it; for structs that fit into memory. -/
import Derived.Test.YtgjamcfnpofbhaaLibOrder
import Derived.Test.YtgjamcfnpofbhaaQx8
import Derived.Test.YtgjamcfnpofbhaaQx11
namespace Go.Proofs.Ytgjamcfnpofbhaa.L
open Go.RowKit Go.Proofs.Ytgjamcfnpofbhaa.Q Go.Proofs.YtgjamcfnpofbhaaW.PrintWords Go.Proofs.YtgjamcfnpofbhaaW.PrintLast
set_option linter.unusedVariables false
set_option linter.unusedSimpArgs false
/-- Is this a turned order? -/
def isTur (p w : List Int) : Bool := isOrd p && decide (3 ≤ p.length) && decide (w.length = p.length) && (w.all fun x => decide ((-20 : Int) ≤ x ∧ x ≤ 20)) && decide (w.sum = 0)
theorem tur_l0s (w : List Int) (hb : w.length ≤ 8) (hw : ∀ x ∈ w, (-20 : Int) ≤ x ∧ x ≤ 20) (d : Nat) : ∀ (i k : Nat) (s : Int), i + d = w.length → (-20 * (i : Int) ≤ s ∧ s ≤ 20 * (i : Int)) → d < k → spec_poTurned.l0 k s w (w.length : Int) (i : Int) = some (decide (s + (w.drop i).sum = 0)) := by
  induction d with
  | zero =>
    intro i k s hi hs hk
    obtain ⟨k, rfl⟩ : ∃ m, k = m + 1 := ⟨k - 1, by omega⟩
    simp only [spec_poTurned.l0]
    rw [if_neg (by omega), show i = w.length from by omega, List.drop_length]
    simp [Bool.beq_eq_decide_eq]
  | succ d ih =>
    intro i k s hi hs hk
    obtain ⟨k, rfl⟩ : ∃ m, k = m + 1 := ⟨k - 1, by omega⟩
    have hx := hw w[i] (List.getElem_mem _)
    simp only [spec_poTurned.l0]
    rw [if_pos (by omega), if_pos (by omega), if_pos (by omega), rd_nat w i (by omega), wrap_id (by omega) (by omega), wrap_id (by omega) (by omega), List.drop_eq_getElem_cons (by omega), List.sum_cons]
    have := ih (i + 1) k (s + w[i]) (by omega) (by omega) (by omega)
    rw [Int.add_assoc] at this
    exact_mod_cast this
theorem tur_l0i (w : List Int) (hb : w.length ≤ 8) (d : Nat) : ∀ (i k : Nat) (s : Int), i + d = w.length → (-20 * (i : Int) ≤ s ∧ s ≤ 20 * (i : Int)) → d < k → impl_isTurned.l0 k s w (w.length : Int) (i : Int) = some (((w.drop i).all fun x => decide ((-20 : Int) ≤ x ∧ x ≤ 20)) && decide (s + (w.drop i).sum = 0)) := by
  induction d with
  | zero =>
    intro i k s hi hs hk
    obtain ⟨k, rfl⟩ : ∃ m, k = m + 1 := ⟨k - 1, by omega⟩
    simp only [impl_isTurned.l0]
    rw [if_neg (by omega), show i = w.length from by omega, List.drop_length]
    simp [Bool.beq_eq_decide_eq]
  | succ d ih =>
    intro i k s hi hs hk
    obtain ⟨k, rfl⟩ : ∃ m, k = m + 1 := ⟨k - 1, by omega⟩
    simp only [impl_isTurned.l0]
    rw [if_pos (by omega), if_pos (by omega), if_pos (by omega), rd_nat w i (by omega), between, Option.bind_some, List.drop_eq_getElem_cons (by omega), List.sum_cons, List.all_cons]
    by_cases h : (-20 : Int) ≤ w[i] ∧ w[i] ≤ 20
    · rw [decide_eq_true h, if_pos rfl, wrap_id (by omega) (by omega), wrap_id (by omega) (by omega), Bool.true_and]
      have := ih (i + 1) k (s + w[i]) (by omega) (by omega) (by omega)
      rw [Int.add_assoc] at this
      exact_mod_cast this
    · rw [decide_eq_false h, if_neg (by decide), Bool.false_and, Bool.false_and]
theorem poTurned (p w : List Int) (hw : w.length ≤ 35184372088832) (k : Nat) (hk : w.length + 25 ≤ k) : spec_poTurned.f k p w = some (isTur p w) := by
  obtain ⟨k, rfl⟩ : ∃ m, k = m + 1 := ⟨k - 1, by omega⟩
  unfold spec_poTurned.f isTur
  rw [laOrder p _ (by omega), Option.bind_some]
  by_cases h : isOrd p = true
  · obtain ⟨h1, h2, h3⟩ := isOrd_facts h
    rw [if_pos h, h]
    by_cases h4 : 3 ≤ p.length
    · rw [if_neg (by omega), decide_eq_true h4]
      by_cases h5 : w.length = p.length
      · rw [if_pos (by omega), l1All w _ _ hw _ (by omega), Option.bind_some, decide_eq_true h5]
        by_cases h6 : (w.all fun x => decide ((-20 : Int) ≤ x ∧ x ≤ 20)) = true
        · rw [h6]
          simp only [spec_poTurned.j0, Bool.not_true, Bool.true_and]
          rw [if_neg (by decide)]
          have := tur_l0s w (by omega) (fun x hx => by have := List.all_eq_true.1 h6 x hx; simpa using this) w.length 0 k 0 (by omega) (by omega) (by omega)
          simpa using this
        · rw [Bool.eq_false_iff.2 h6]
          rfl
      · rw [if_neg (by omega), decide_eq_false h5]
        rfl
    · rw [if_pos (by omega), decide_eq_false h4]
      rfl
  · rw [if_neg h, Bool.eq_false_iff.2 h]
    rfl
theorem isTurned (p w : List Int) (hw : w.length ≤ 35184372088832) (k : Nat) (hk : w.length + 25 ≤ k) : impl_isTurned.f k p w = some (isTur p w) := by
  obtain ⟨k, rfl⟩ : ∃ m, k = m + 1 := ⟨k - 1, by omega⟩
  unfold impl_isTurned.f isTur
  rw [isOrder p _ (by omega), Option.bind_some]
  by_cases h : isOrd p = true
  · obtain ⟨h1, h2, h3⟩ := isOrd_facts h
    rw [if_pos h, h]
    by_cases h4 : 3 ≤ p.length
    · rw [if_neg (by omega), decide_eq_true h4]
      by_cases h5 : w.length = p.length
      · have e : ((w.length : Int) != (p.length : Int)) = false := by simp; omega
        rw [decide_eq_true h5, e]
        simp only [impl_isTurned.j0, Bool.true_and]
        rw [if_neg (by decide)]
        have := tur_l0i w (by omega) w.length 0 k 0 (by omega) (by omega) (by omega)
        simpa using this
      · have e : ((w.length : Int) != (p.length : Int)) = true := by simp; omega
        rw [decide_eq_false h5, e]
        rfl
    · rw [if_pos (by omega), decide_eq_false h4]
      rfl
  · rw [if_neg h, Bool.eq_false_iff.2 h]
    rfl
theorem isTur_facts {p w : List Int} (h : isTur p w = true) : isOrd p = true ∧ 3 ≤ p.length ∧ p.length ≤ 8 ∧ w.length = p.length ∧ (∀ x ∈ p, 0 ≤ x ∧ x ≤ (p.length : Int) - 1) ∧ (∀ x ∈ w, (-20 : Int) ≤ x ∧ x ≤ 20) ∧ w.sum = 0 := by
  unfold isTur at h
  simp only [Bool.and_eq_true, decide_eq_true_eq, List.all_eq_true] at h
  obtain ⟨⟨⟨⟨h1, h2⟩, h3⟩, h4⟩, h5⟩ := h
  have := isOrd_facts h1
  exact ⟨h1, h2, this.2.1, h3, this.2.2, h4, h5⟩
end Go.Proofs.Ytgjamcfnpofbhaa.L
