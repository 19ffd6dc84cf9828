/- FnExactFirstAll: for all whole numbers of int the law answers true (its pure form: the inside of the range by the kernel's run, the outside by the guards). No condition. -/
import Derived.Test.YtghogdffocnjnaaQx12
namespace Go.Proofs.Ytghogdffocnjnaa.Pure
open Go.RowKit Go.Proofs.Ytghogdffocnjnaa.Q Go.Proofs.YtghogdffocnjnaaW.PrintWords Go.Proofs.YtghogdffocnjnaaW.PrintLast
set_option linter.unusedSimpArgs false
set_option linter.unusedVariables false
namespace FnExactFirstAllAid
theorem between_in (a lo hi : Int) (h1 : lo ≤ a) (h2 : a ≤ hi) : impl_between.f a lo hi = some true := by
  unfold impl_between.f; rw [if_pos h1, decide_eq_true h2]
theorem between_out (a lo hi : Int) (h : a < lo ∨ hi < a) : impl_between.f a lo hi = some false := by
  unfold impl_between.f
  split
  · rw [decide_eq_false (by omega)]
  · rfl
theorem l1In_in (a lo hi : Int) (h1 : lo ≤ a) (h2 : a ≤ hi) : spec_l1In.f a lo hi = some true := by
  unfold spec_l1In.f; rw [if_pos h1, decide_eq_true h2]
theorem l1In_out (a lo hi : Int) (h : a < lo ∨ hi < a) : spec_l1In.f a lo hi = some false := by
  unfold spec_l1In.f
  split
  · rw [decide_eq_false (by omega)]
  · rfl
theorem inside : ∀ x0 ∈ List.range 4, laws_FnExactFirstAll.f 20000 (((x0 : Nat) : Int) + 2) = some true := by decide +kernel
end FnExactFirstAllAid
open FnExactFirstAllAid
theorem FnExactFirstAll (a0 : Int) (w0 : (Lit.int .i64 a0).wf = true) : ∃ k, laws_FnExactFirstAll.f k a0 = some true := by
  refine ⟨20000, ?_⟩
  by_cases h0 : 2 ≤ a0 ∧ a0 ≤ 5
  · obtain ⟨x0, hx0⟩ : ∃ x : Nat, a0 = x + 2 := ⟨(a0 - 2).toNat, by omega⟩
    subst hx0
    have t := inside x0 (List.mem_range.2 (by omega))
    simpa using t
  · simp [laws_FnExactFirstAll.f, spec_FirstAll.f, impl_FirstAll.f, between_out a0 2 (5) (by omega), l1In_out a0 2 (5) (by omega)]
end Go.Proofs.Ytghogdffocnjnaa.Pure
