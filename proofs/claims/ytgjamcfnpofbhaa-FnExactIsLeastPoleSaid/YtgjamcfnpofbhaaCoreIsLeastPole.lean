/- IsLeastPole: the program's function and the reference's answer the same, for structs that fit into memory. -/
import Derived.Test.YtgjamcfnpofbhaaCorePoleResult
import Derived.Test.YtgjamcfnpofbhaaLibInv
import Derived.Test.YtgjamcfnpofbhaaQx39
namespace Go.Proofs.Ytgjamcfnpofbhaa.L
open Go.RowKit Go.Proofs.Ytgjamcfnpofbhaa.Q Go.Proofs.YtgjamcfnpofbhaaW.PrintWords Go.Proofs.YtgjamcfnpofbhaaW.PrintLast
set_option linter.unusedVariables false
set_option linter.unusedSimpArgs false
theorem core_IsLeastPole (a : Int) (l : List Int) (w : (Lit.int .i64 a).wf = true) (hb : l.length ≤ 35184372088832) (hw : ∀ x ∈ l, (Lit.int .i64 x).wf = true) :
    ∃ K r ok, (∀ k, K ≤ k → spec_IsLeastPole.f k a l = some (r, ok)) ∧ (∀ k, K ≤ k → impl_IsLeastPole.f k a l = some (r, ok)) := by
  by_cases h : isPole a l = true
  · obtain ⟨h1, h2, h3, h4⟩ := isPole_wires h
    by_cases ht : isTur (resE a l) (resW a l) = true
    · refine ⟨l.length + 3100, decide ((l.length : Int) = invV (resE a l) (resW a l)), true, fun k hk => ?_, fun k hk => ?_⟩
      · unfold spec_IsLeastPole.f
        rw [poGood a l hb k (by omega), Option.bind_some, if_pos h, (result_at a l ⟨h1, h2⟩ h3 h4 k (by omega)).1, Option.bind_some]
        simp only []
        rw [poTurned (resE a l) (resW a l) (by rw [resW, vals_length]; omega) k (by rw [resW, vals_length]; omega), Option.bind_some, if_pos ht, poInversions _ _ ht k (by omega), Option.bind_some]
        rfl
      · unfold impl_IsLeastPole.f
        rw [implPoleResult a l k (by omega), if_pos h, if_pos ht, Option.bind_some]
        simp only []
        rw [if_pos trivial, poleInversions _ _ ht, Option.bind_some]
        congr 2
        by_cases e : (l.length : Int) = invV (resE a l) (resW a l)
        · rw [← e]; simp
        · rw [decide_eq_false e]; exact beq_eq_false_iff_ne.2 (fun h => e h.symm)
    · refine ⟨l.length + 3100, false, false, fun k hk => ?_, fun k hk => ?_⟩
      · unfold spec_IsLeastPole.f
        rw [poGood a l hb k (by omega), Option.bind_some, if_pos h, (result_at a l ⟨h1, h2⟩ h3 h4 k (by omega)).1, Option.bind_some]
        simp only []
        rw [poTurned (resE a l) (resW a l) (by rw [resW, vals_length]; omega) k (by rw [resW, vals_length]; omega), Option.bind_some, if_neg ht]
      · unfold impl_IsLeastPole.f
        rw [implPoleResult a l k (by omega), if_pos h, if_neg ht, Option.bind_some]
        rfl
  · refine ⟨l.length + 3100, false, false, fun k hk => ?_, fun k hk => ?_⟩
    · unfold spec_IsLeastPole.f
      rw [poGood a l hb k (by omega), Option.bind_some, if_neg h]
    · unfold impl_IsLeastPole.f
      rw [implPoleResult a l k (by omega), if_neg h, Option.bind_some]
      rfl
end Go.Proofs.Ytgjamcfnpofbhaa.L
