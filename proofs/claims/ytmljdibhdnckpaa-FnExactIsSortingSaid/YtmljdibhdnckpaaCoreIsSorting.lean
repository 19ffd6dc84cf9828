/- IsSorting: the program's function and the reference's answer the same, for ladders that fit into memory. -/
import Derived.Test.YtmljdibhdnckpaaLibSorting
import Derived.Test.YtmljdibhdnckpaaQx26
import Derived.Test.YtmljdibhdnckpaaQx27
namespace Go.Proofs.Ytmljdibhdnckpaa.L
open Go.RowKit Go.Proofs.Ytmljdibhdnckpaa.Q Go.Proofs.YtmljdibhdnckpaaW.PrintWords Go.Proofs.YtmljdibhdnckpaaW.PrintLast
set_option linter.unusedVariables false
set_option linter.unusedSimpArgs false
theorem core_IsSorting (a : Int) (l : List Int) (w : (Lit.int .i64 a).wf = true) (hb : l.length ≤ 35184372088832) (hw : ∀ x ∈ l, (Lit.int .i64 x).wf = true) :
    ∃ K s ok, (∀ k, K ≤ k → spec_IsSorting.f k a l = some (s, ok)) ∧ (∀ k, K ≤ k → impl_IsSorting.f k a l = some (s, ok)) := by
  by_cases h : isLadder a l = true
  · obtain ⟨h1, h2, h3, h4⟩ := isLadder_wires h
    obtain ⟨n, rfl⟩ : ∃ n : Nat, a = n := ⟨a.toNat, by omega⟩
    refine ⟨400, srtB (runV l (down n)), true, fun k hk => ?_, fun k hk => ?_⟩
    · simp [spec_IsSorting.f, laGood n l hb k (by omega), h, soAll n (by omega) l h3 h4 k hk]
    · simp [impl_IsSorting.f, isLadder_eq, h, isSorting n (by omega) l h3 h4 k hk]
  · refine ⟨l.length + 3, false, false, fun k hk => ?_, fun k hk => ?_⟩
    · simp [spec_IsSorting.f, laGood a l hb k (by omega), h]
    · simp [impl_IsSorting.f, isLadder_eq, h]
end Go.Proofs.Ytmljdibhdnckpaa.L
