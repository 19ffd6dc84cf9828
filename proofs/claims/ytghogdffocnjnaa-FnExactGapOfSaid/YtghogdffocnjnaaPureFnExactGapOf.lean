/- FnExactGapOf: for all whole numbers of int the law answers true (its pure form: the inside of the range by the kernel's run, the outside by the guards). No condition. -/
import Derived.Test.YtghogdffocnjnaaQx33
namespace Go.Proofs.Ytghogdffocnjnaa.Pure
open Go.RowKit Go.Proofs.Ytghogdffocnjnaa.Q Go.Proofs.YtghogdffocnjnaaW.PrintWords Go.Proofs.YtghogdffocnjnaaW.PrintLast
set_option linter.unusedSimpArgs false
set_option linter.unusedVariables false
namespace FnExactGapOfAid
theorem between_in (a lo hi : Int) (h1 : lo ≤ a) (h2 : a ≤ hi) : impl_between.f a lo hi = some true := by
  unfold impl_between.f; rw [if_pos h1, decide_eq_true h2]
theorem between_out (a lo hi : Int) (h : a < lo ∨ hi < a) : impl_between.f a lo hi = some false := by
  unfold impl_between.f
  split
  · rw [decide_eq_false (by omega)]
  · rfl
theorem l1In_in (a lo hi : Int) (h1 : lo ≤ a) (h2 : a ≤ hi) : spec_l1In.f a lo hi = some true := by
  unfold spec_l1In.f; rw [if_pos h1, decide_eq_true h2]
theorem l1In_out (a lo hi : Int) (h : a < lo ∨ hi < a) : spec_l1In.f a lo hi = some false := by
  unfold spec_l1In.f
  split
  · rw [decide_eq_false (by omega)]
  · rfl
theorem inside : ∀ x0 ∈ List.range 5, ∀ x1 ∈ List.range 21, laws_FnExactGapOf.f 2000 (((x0 : Nat) : Int) + 2) ((x1 : Nat) : Int) = some true := by decide +kernel
end FnExactGapOfAid
open FnExactGapOfAid
theorem FnExactGapOf (a0 : Int) (a1 : Int) (w0 : (Lit.int .i64 a0).wf = true) (w1 : (Lit.int .i64 a1).wf = true) : ∃ k, laws_FnExactGapOf.f k a0 a1 = some true := by
  refine ⟨2000, ?_⟩
  by_cases h0 : 2 ≤ a0 ∧ a0 ≤ 6
  · by_cases h1 : 0 ≤ a1 ∧ a1 ≤ 20
    · obtain ⟨x0, hx0⟩ : ∃ x : Nat, a0 = x + 2 := ⟨(a0 - 2).toNat, by omega⟩
      obtain ⟨x1, hx1⟩ : ∃ x : Nat, a1 = x + 0 := ⟨(a1 - 0).toNat, by omega⟩
      subst hx0
      subst hx1
      have t := inside x0 (List.mem_range.2 (by omega)) x1 (List.mem_range.2 (by omega))
      simpa using t
    · simp [laws_FnExactGapOf.f, spec_chGood.f, impl_isFall.f, spec_GapOf.f, impl_GapOf.f, laws_eqRatio.f, between_in a0 2 (6) h0.1 h0.2, l1In_in a0 2 (6) h0.1 h0.2, between_out a1 0 (20) (by omega), l1In_out a1 0 (20) (by omega)]
  · simp [laws_FnExactGapOf.f, spec_chGood.f, impl_isFall.f, spec_GapOf.f, impl_GapOf.f, laws_eqRatio.f, between_out a0 2 (6) (by omega), l1In_out a0 2 (6) (by omega)]
end Go.Proofs.Ytghogdffocnjnaa.Pure
