/- Plain laws: 'in a range', and 'all of a list are', as the program and the reference tell them; no condition but bounds of lengths. -/
import Derived.Test.YtgjamcfnpofbhaaDoorLibA
import Derived.Test.YtgjamcfnpofbhaaDoorQx1
import Derived.Test.YtgjamcfnpofbhaaDoorQx3
namespace Go.Proofs.YtgjamcfnpofbhaaDoor.L
open Go.RowKit Go.Proofs.YtgjamcfnpofbhaaDoor.Q Go.Proofs.YtgjamcfnpofbhaaDoorW.PrintWords Go.Proofs.YtgjamcfnpofbhaaDoorW.PrintLast
set_option linter.unusedVariables false
set_option linter.unusedSimpArgs false
theorem l1In (a lo hi : Int) : spec_l1In.f a lo hi = some (decide (lo ≤ a ∧ a ≤ hi)) := by
  unfold spec_l1In.f
  by_cases h : a ≥ lo
  · rw [if_pos h]; congr 1; simp [h]
  · rw [if_neg h]; congr 1; simp; omega
theorem between (a lo hi : Int) : impl_between.f a lo hi = some (decide (lo ≤ a ∧ a ≤ hi)) := by
  unfold impl_between.f
  by_cases h : a ≥ lo
  · rw [if_pos h]; congr 1; simp [h]
  · rw [if_neg h]; congr 1; simp; omega
theorem l1All_l0 (l : List Int) (lo hi : Int) (hb : l.length ≤ 35184372088832) (d : Nat) : ∀ (i k : Nat), i + d = l.length → d < k → spec_l1All.l0 k lo hi l (l.length : Int) (i : Int) = some ((l.drop i).all fun r => decide (lo ≤ r ∧ r ≤ hi)) := by
  induction d with
  | zero =>
    intro i k hi' hk
    obtain ⟨k, rfl⟩ : ∃ m, k = m + 1 := ⟨k - 1, by omega⟩
    simp only [spec_l1All.l0]
    rw [if_neg (by omega), show i = l.length from by omega, List.drop_length]
    rfl
  | succ d ih =>
    intro i k hi' hk
    obtain ⟨k, rfl⟩ : ∃ m, k = m + 1 := ⟨k - 1, by omega⟩
    simp only [spec_l1All.l0]
    rw [if_pos (by omega), if_pos (by omega), if_pos (by omega), rd_nat l i (by omega), l1In, Option.bind_some, wrap_id (by omega) (by omega), List.drop_eq_getElem_cons (by omega), List.all_cons]
    by_cases h : lo ≤ l[i] ∧ l[i] ≤ hi
    · rw [decide_eq_true h, if_pos rfl]
      have := ih (i + 1) k (by omega) (by omega)
      rw [Bool.true_and]
      exact_mod_cast this
    · rw [decide_eq_false h, if_neg (by decide)]
      rfl
theorem l1All (l : List Int) (lo hi : Int) (hb : l.length ≤ 35184372088832) (k : Nat) (hk : l.length + 1 ≤ k) : spec_l1All.f k l lo hi = some (l.all fun r => decide (lo ≤ r ∧ r ≤ hi)) := by
  unfold spec_l1All.f
  have := l1All_l0 l lo hi hb l.length 0 k (by omega) (by omega)
  simpa using this
end Go.Proofs.YtgjamcfnpofbhaaDoor.L
