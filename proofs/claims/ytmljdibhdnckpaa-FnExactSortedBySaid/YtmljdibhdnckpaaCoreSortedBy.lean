/- SortedBy: the program's function and the reference's answer the same, for ladders and values that fit into memory. -/
import Derived.Test.YtmljdibhdnckpaaLibRun
import Derived.Test.YtmljdibhdnckpaaLibAll
import Derived.Test.YtmljdibhdnckpaaQx15
import Derived.Test.YtmljdibhdnckpaaQx22
namespace Go.Proofs.Ytmljdibhdnckpaa.L
open Go.RowKit Go.Proofs.Ytmljdibhdnckpaa.Q Go.Proofs.YtmljdibhdnckpaaW.PrintWords Go.Proofs.YtmljdibhdnckpaaW.PrintLast
set_option linter.unusedVariables false
set_option linter.unusedSimpArgs false
theorem core_SortedBy (a : Int) (l v : List Int) (w : (Lit.int .i64 a).wf = true) (hb : l.length ≤ 35184372088832) (hw : ∀ x ∈ l, (Lit.int .i64 x).wf = true) (hv : v.length ≤ 35184372088832) (hx : ∀ x ∈ v, (Lit.int .i64 x).wf = true) :
    ∃ K m ok, m.length ≤ 35184372088832 ∧ (∀ k, K ≤ k → spec_SortedBy.f k a l v = some (m, ok)) ∧ (∀ k, K ≤ k → impl_SortedBy.f k a l v = some (m, ok)) := by
  by_cases h : isLadder a l = true
  · obtain ⟨h1, h2, h3, h4⟩ := isLadder_wires h
    by_cases hl : (v.length : Int) = a
    · refine ⟨l.length + 3, runV l v, true, by rw [runV_length]; exact hv, fun k hk => ?_, fun k hk => ?_⟩
      · simp [spec_SortedBy.f, spec_soAsked.f, laGood a l hb k (by omega), h, hl, soRun l v (by omega) (by omega) (fun r hr => by have := h4 r hr; omega) k (by omega)]
      · simp [impl_SortedBy.f, isLadder_eq, h, hl, sorted l v (by omega) (by omega) (fun r hr => by have := h4 r hr; omega) k (by omega)]
    · refine ⟨l.length + 3, [], false, by simp, fun k hk => ?_, fun k hk => ?_⟩
      · simp [spec_SortedBy.f, spec_soAsked.f, laGood a l hb k (by omega), h, hl]
      · simp [impl_SortedBy.f, isLadder_eq, h, hl]
  · refine ⟨l.length + 3, [], false, by simp, fun k hk => ?_, fun k hk => ?_⟩
    · simp [spec_SortedBy.f, spec_soAsked.f, laGood a l hb k (by omega), h]
    · simp [impl_SortedBy.f, isLadder_eq, h]
end Go.Proofs.Ytmljdibhdnckpaa.L
