/- Plain laws: 'is a pole', 'is a ladder', as the program and the reference tell them; no condition but bounds of lengths. -/
import Derived.Test.YtgjamcfnpofbhaaDoorLibIn
import Derived.Test.YtgjamcfnpofbhaaDoorQx1
import Derived.Test.YtgjamcfnpofbhaaDoorQx5
namespace Go.Proofs.YtgjamcfnpofbhaaDoor.L
open Go.RowKit Go.Proofs.YtgjamcfnpofbhaaDoor.Q Go.Proofs.YtgjamcfnpofbhaaDoorW.PrintWords Go.Proofs.YtgjamcfnpofbhaaDoorW.PrintLast
set_option linter.unusedVariables false
set_option linter.unusedSimpArgs false
/-- Is this a pole? -/
def isPole (a : Int) (l : List Int) : Bool := decide (3 ≤ a ∧ a ≤ 8) && decide (l.length ≤ 60) && l.all fun r => decide (0 ≤ r ∧ r ≤ a - 1)
theorem poGood (a : Int) (l : List Int) (hb : l.length ≤ 35184372088832) (k : Nat) (hk : l.length + 1 ≤ k) : spec_poGood.f k a l = some (isPole a l) := by
  unfold spec_poGood.f isPole
  rw [l1In, Option.bind_some]
  by_cases h : 3 ≤ a ∧ a ≤ 8
  · rw [decide_eq_true h, if_pos rfl, wrap_id (by omega) (by omega)]
    by_cases h2 : l.length ≤ 60
    · rw [if_pos (by omega), l1All l 0 (a - 1) hb k hk, Option.bind_some, decide_eq_true h2, Bool.true_and, Bool.true_and]
    · rw [if_neg (by omega), decide_eq_false h2, Bool.true_and, Bool.false_and]
  · rw [decide_eq_false h, if_neg (by decide), Bool.false_and, Bool.false_and]
theorem isPole_eq (a : Int) (l : List Int) : impl_isPole.f a l = some (isPole a l) := rfl
theorem isPole_wires {a : Int} {l : List Int} (h : isPole a l = true) : 3 ≤ a ∧ a ≤ 8 ∧ l.length ≤ 60 ∧ ∀ r ∈ l, 0 ≤ r ∧ r ≤ a - 1 := by
  unfold isPole at h
  simp only [Bool.and_eq_true, decide_eq_true_eq, List.all_eq_true] at h
  exact ⟨h.1.1.1, h.1.1.2, h.1.2, h.2⟩
end Go.Proofs.YtgjamcfnpofbhaaDoor.L
