/- 'Too big', as the laws tell it. -/
import Derived.Test.YtpmpgncjlcdabaaQx1
namespace Go.Proofs.Ytpmpgncjlcdabaa.L
open Go.RowKit Go.Proofs.Ytpmpgncjlcdabaa.Q Go.Proofs.YtpmpgncjlcdabaaW.PrintWords Go.Proofs.YtpmpgncjlcdabaaW.PrintLast
set_option linter.unusedVariables false
set_option linter.unusedSimpArgs false
theorem big_cases (l m : List Int) (hl : l.length ≤ 9223372036854775807) (hm : m.length ≤ 9223372036854775807) : laws_big.f l m = some true ∨ (laws_big.f l m = some false ∧ l.length ≤ 1048576 ∧ m.length ≤ 1048576) := by
  unfold laws_big.f
  by_cases h : (l.length : Int) > 1048576
  · rw [if_pos h]; exact Or.inl rfl
  · rw [if_neg h]
    have e : wrap64 (1048576 - (l.length : Int)) = 1048576 - (l.length : Int) := by unfold wrap64; omega
    rw [e]
    by_cases h2 : (m.length : Int) > 1048576 - (l.length : Int)
    · exact Or.inl (by simp; omega)
    · exact Or.inr ⟨by simp; omega, by omega, by omega⟩
end Go.Proofs.Ytpmpgncjlcdabaa.L
