/- PoleResult: the program's function and the reference's answer the same, for structs that fit into memory. -/
import Derived.Test.YtgjamcfnpofbhaaLibResult
import Derived.Test.YtgjamcfnpofbhaaLibIsTurned
import Derived.Test.YtgjamcfnpofbhaaQx9
import Derived.Test.YtgjamcfnpofbhaaQx11
import Derived.Test.YtgjamcfnpofbhaaQx31
namespace Go.Proofs.Ytgjamcfnpofbhaa.L
open Go.RowKit Go.Proofs.Ytgjamcfnpofbhaa.Q Go.Proofs.YtgjamcfnpofbhaaW.PrintWords Go.Proofs.YtgjamcfnpofbhaaW.PrintLast
set_option linter.unusedVariables false
set_option linter.unusedSimpArgs false
theorem implPoleResult (a : Int) (l : List Int) (k : Nat) (hk : 100 ≤ k) : impl_PoleResult.f k a l = some (if isPole a l = true then (if isTur (resE a l) (resW a l) = true then (resE a l, resW a l, true) else ([], [], false)) else ([], [], false)) := by
  unfold impl_PoleResult.f
  rw [isPole_eq, Option.bind_some]
  by_cases h : isPole a l = true
  · obtain ⟨h1, h2, h3, h4⟩ := isPole_wires h
    rw [if_pos h, if_pos h, (result_at a l ⟨h1, h2⟩ h3 h4 k (by omega)).2, Option.bind_some]
    unfold impl_checkedTurned.f
    simp only []
    rw [isTurned (resE a l) (resW a l) (by rw [resW, vals_length]; omega) k (by rw [resW, vals_length]; omega), Option.bind_some]
    cases isTur (resE a l) (resW a l) <;> rfl
  · rw [if_neg h, if_neg h]
theorem core_PoleResult (a : Int) (l : List Int) (w : (Lit.int .i64 a).wf = true) (hb : l.length ≤ 35184372088832) (hw : ∀ x ∈ l, (Lit.int .i64 x).wf = true) :
    ∃ K r s ok, r.length ≤ 17592186044416 ∧ s.length ≤ 17592186044416 ∧ (∀ k, K ≤ k → spec_PoleResult.f k a l = some (r, s, ok)) ∧ (∀ k, K ≤ k → impl_PoleResult.f k a l = some (r, s, ok)) := by
  by_cases h : isPole a l = true
  · obtain ⟨h1, h2, h3, h4⟩ := isPole_wires h
    have hS : ∀ k, l.length + 100 ≤ k → spec_PoleResult.f k a l = (if isTur (resE a l) (resW a l) = true then some (resE a l, resW a l, true) else some ([], [], false)) := by
      intro k hk
      unfold spec_PoleResult.f
      rw [poGood a l hb k (by omega), Option.bind_some, if_pos h, (result_at a l ⟨h1, h2⟩ h3 h4 k (by omega)).1, Option.bind_some]
      unfold spec_poIf.f
      simp only []
      rw [poTurned (resE a l) (resW a l) (by rw [resW, vals_length]; omega) k (by rw [resW, vals_length]; omega), Option.bind_some]
      cases isTur (resE a l) (resW a l) <;> rfl
    by_cases ht : isTur (resE a l) (resW a l) = true
    · refine ⟨l.length + 100, resE a l, resW a l, true, by rw [resE, vals_length]; omega, by rw [resW, vals_length]; omega, fun k hk => ?_, fun k hk => ?_⟩
      · rw [hS k hk, if_pos ht]
      · rw [implPoleResult a l k (by omega), if_pos h, if_pos ht]
    · refine ⟨l.length + 100, [], [], false, by simp, by simp, fun k hk => ?_, fun k hk => ?_⟩
      · rw [hS k hk, if_neg ht]
      · rw [implPoleResult a l k (by omega), if_pos h, if_neg ht]
  · refine ⟨l.length + 100, [], [], false, by simp, by simp, fun k hk => ?_, fun k hk => ?_⟩
    · unfold spec_PoleResult.f
      rw [poGood a l hb k (by omega), Option.bind_some, if_neg h]
    · rw [implPoleResult a l k (by omega), if_neg h]
end Go.Proofs.Ytgjamcfnpofbhaa.L
