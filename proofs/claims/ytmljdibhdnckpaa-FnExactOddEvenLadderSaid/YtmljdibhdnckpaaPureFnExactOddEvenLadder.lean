/- FnExactOddEvenLadder: for all whole numbers of int the law answers true (its pure form: the inside of the range by the kernel's run, the outside by the guards). No condition. -/
import Derived.Test.YtmljdibhdnckpaaQx20
namespace Go.Proofs.Ytmljdibhdnckpaa.Pure
open Go.RowKit Go.Proofs.Ytmljdibhdnckpaa.Q Go.Proofs.YtmljdibhdnckpaaW.PrintWords Go.Proofs.YtmljdibhdnckpaaW.PrintLast
set_option linter.unusedSimpArgs false
set_option linter.unusedVariables false
namespace FnExactOddEvenLadderAid
theorem between_in (a lo hi : Int) (h1 : lo ≤ a) (h2 : a ≤ hi) : impl_between.f a lo hi = some true := by
  unfold impl_between.f; rw [if_pos h1, decide_eq_true h2]
theorem between_out (a lo hi : Int) (h : a < lo ∨ hi < a) : impl_between.f a lo hi = some false := by
  unfold impl_between.f
  split
  · rw [decide_eq_false (by omega)]
  · rfl
theorem l1In_in (a lo hi : Int) (h1 : lo ≤ a) (h2 : a ≤ hi) : spec_l1In.f a lo hi = some true := by
  unfold spec_l1In.f; rw [if_pos h1, decide_eq_true h2]
theorem l1In_out (a lo hi : Int) (h : a < lo ∨ hi < a) : spec_l1In.f a lo hi = some false := by
  unfold spec_l1In.f
  split
  · rw [decide_eq_false (by omega)]
  · rfl
theorem inside : ∀ x0 ∈ List.range 7, ∀ x1 ∈ List.range 11, laws_FnExactOddEvenLadder.f 2000 (((x0 : Nat) : Int) + 2) ((x1 : Nat) : Int) = some true := by decide +kernel
end FnExactOddEvenLadderAid
open FnExactOddEvenLadderAid
theorem FnExactOddEvenLadder (a0 : Int) (a1 : Int) (w0 : (Lit.int .i64 a0).wf = true) (w1 : (Lit.int .i64 a1).wf = true) : ∃ k, laws_FnExactOddEvenLadder.f k a0 a1 = some true := by
  refine ⟨2000, ?_⟩
  by_cases h0 : 2 ≤ a0 ∧ a0 ≤ 8
  · by_cases h1 : 0 ≤ a1 ∧ a1 ≤ 10
    · obtain ⟨x0, hx0⟩ : ∃ x : Nat, a0 = x + 2 := ⟨(a0 - 2).toNat, by omega⟩
      obtain ⟨x1, hx1⟩ : ∃ x : Nat, a1 = x + 0 := ⟨(a1 - 0).toNat, by omega⟩
      subst hx0
      subst hx1
      have t := inside x0 (List.mem_range.2 (by omega)) x1 (List.mem_range.2 (by omega))
      simpa using t
    · have e1 : spec_OddEvenLadder.f 2000 a0 a1 = some (0, [], false) := by simp [spec_OddEvenLadder.f, impl_OddEvenLadder.f, impl_isWires.f, spec_OddEvenLadder.j0, between_in a0 2 (8) h0.1 h0.2, l1In_in a0 2 (8) h0.1 h0.2, between_out a1 0 (10) (by omega), l1In_out a1 0 (10) (by omega)]
      have e2 : impl_OddEvenLadder.f 2000 a0 a1 = some (0, [], false) := by simp [spec_OddEvenLadder.f, impl_OddEvenLadder.f, impl_isWires.f, spec_OddEvenLadder.j0, between_in a0 2 (8) h0.1 h0.2, l1In_in a0 2 (8) h0.1 h0.2, between_out a1 0 (10) (by omega), l1In_out a1 0 (10) (by omega)]
      have e3 : impl_OddEvenLadder.f 1999 a0 a1 = some (0, [], false) := by simp [spec_OddEvenLadder.f, impl_OddEvenLadder.f, impl_isWires.f, spec_OddEvenLadder.j0, between_in a0 2 (8) h0.1 h0.2, l1In_in a0 2 (8) h0.1 h0.2, between_out a1 0 (10) (by omega), l1In_out a1 0 (10) (by omega)]
      simp only [laws_FnExactOddEvenLadder.f, e1, e2, e3, Option.bind_some]
      rfl
  · have e1 : spec_OddEvenLadder.f 2000 a0 a1 = some (0, [], false) := by simp [spec_OddEvenLadder.f, impl_OddEvenLadder.f, impl_isWires.f, spec_OddEvenLadder.j0, between_out a0 2 (8) (by omega), l1In_out a0 2 (8) (by omega)]
    have e2 : impl_OddEvenLadder.f 2000 a0 a1 = some (0, [], false) := by simp [spec_OddEvenLadder.f, impl_OddEvenLadder.f, impl_isWires.f, spec_OddEvenLadder.j0, between_out a0 2 (8) (by omega), l1In_out a0 2 (8) (by omega)]
    have e3 : impl_OddEvenLadder.f 1999 a0 a1 = some (0, [], false) := by simp [spec_OddEvenLadder.f, impl_OddEvenLadder.f, impl_isWires.f, spec_OddEvenLadder.j0, between_out a0 2 (8) (by omega), l1In_out a0 2 (8) (by omega)]
    simp only [laws_FnExactOddEvenLadder.f, e1, e2, e3, Option.bind_some]
    rfl
end Go.Proofs.Ytmljdibhdnckpaa.Pure
