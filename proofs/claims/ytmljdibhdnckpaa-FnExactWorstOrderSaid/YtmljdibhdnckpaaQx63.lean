/- Each function below comes to the Lean function beside it (theorems '.calls'); no condition beyond each theorem's own. Written by our program oprint.py over the kit's print. -/
import Derived.Test.YtmljdibhdnckpaaQx0
import Derived.Test.YtmljdibhdnckpaaQx1
import Derived.Test.YtmljdibhdnckpaaQx36
namespace Go.Proofs.Ytmljdibhdnckpaa.Q
open Go.RowKit Go.Proofs.YtmljdibhdnckpaaW.PrintWords Go.Proofs.YtmljdibhdnckpaaW.PrintLast Go.Proofs.YtmljdibhdnckpaaW.PrintMore
attribute [local go_sem] max2_int min2_int max_two min_two max_three min_three max_four min_four   -- for this text's walks alone
set_option linter.unusedVariables false
set_option linter.unusedSimpArgs false

theorem few_nat {a : Int} {l : List Int} (h : impl_isFew.f a l = some true) : ∃ n : Nat, a = (n : Int) ∧ n ≤ 6 ∧ 2 ≤ n := by
  unfold impl_isFew.f at h
  obtain ⟨t, e1, h⟩ := Option.bind_eq_some_iff.mp h
  cases t with
  | false => simp at h
  | true =>
    obtain ⟨n, rfl, h1, h2⟩ := ladder_nat e1
    simp at h
    exact ⟨n, rfl, by omega, h2⟩

end Go.Proofs.Ytmljdibhdnckpaa.Q
