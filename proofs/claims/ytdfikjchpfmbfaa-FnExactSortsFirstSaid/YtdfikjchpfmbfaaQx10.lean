/- Each function below comes to the Lean function beside it (theorems '.calls'); no condition beyond each theorem's own. Written by our program oprint.py over the kit's print. -/
import Derived.Test.YtdfikjchpfmbfaaQx0
import Derived.Test.YtdfikjchpfmbfaaQx6
namespace Go.Proofs.Ytdfikjchpfmbfaa.Q
open Go.RowKit Go.Proofs.YtdfikjchpfmbfaaW.PrintWords Go.Proofs.YtdfikjchpfmbfaaW.PrintLast Go.Proofs.YtdfikjchpfmbfaaW.PrintMore
attribute [local go_sem] max2_int min2_int max_two min_two max_three min_three max_four min_four   -- for this text's walks alone
set_option linter.unusedVariables false
set_option linter.unusedSimpArgs false

theorem ladder_nat {a : Int} {l : List Int} (h : impl_isLadder.f a l = some true) : ∃ n : Nat, a = (n : Int) ∧ n ≤ 8 ∧ 2 ≤ n := by
  have h2 : (decide (2 ≤ a ∧ a ≤ 8) && decide (l.length ≤ 60) && l.all fun r => decide (0 ≤ r ∧ r ≤ a - 2)) = true := Option.some.inj h
  simp only [Bool.and_eq_true, decide_eq_true_eq] at h2
  exact ⟨a.toNat, by omega, by omega, by omega⟩

end Go.Proofs.Ytdfikjchpfmbfaa.Q
