/- ClosePole, OpenPole: the program's functions and the reference's answer the same, for structs whose rungs fit into memory. -/
import Derived.Test.YtddfakhlncihoaaLibAll
import Derived.Test.YtddfakhlncihoaaQx16
import Derived.Test.YtddfakhlncihoaaQx23
import Derived.Test.YtddfakhlncihoaaQx25
import Derived.Test.YtddfakhlncihoaaQx27
namespace Go.Proofs.Ytddfakhlncihoaa.L
open Go.RowKit Go.Proofs.Ytddfakhlncihoaa.Q Go.Proofs.YtddfakhlncihoaaW.PrintWords Go.Proofs.YtddfakhlncihoaaW.PrintLast
set_option linter.unusedVariables false
set_option linter.unusedSimpArgs false
theorem core_ClosePole (a : Int) (l : List Int) (w : (Lit.int .i64 a).wf = true) (hb : l.length ≤ 35184372088832) (hw : ∀ x ∈ l, (Lit.int .i64 x).wf = true) :
    ∃ K b m ok, m.length ≤ 35184372088832 ∧ (∀ k, K ≤ k → spec_ClosePole.f k a l = some (b, m, ok)) ∧ impl_ClosePole.f a l = some (b, m, ok) := by
  by_cases h : isLadder a l = true
  · obtain ⟨h1, h2, h3, h4⟩ := isLadder_wires h
    by_cases h5 : isPole a l = true
    · refine ⟨l.length + 3, a, l, true, hb, fun k hk => ?_, ?_⟩
      · simp [spec_ClosePole.f, spec_l1Own.f, spec_poPole.f, laGood a l hb k (by omega), poGood a l hb k (by omega), h, h5, show l.length < 17592186044416 from by omega]
      · simp [impl_ClosePole.f, slices_Clone_int_int.f, impl_checkedPole.f, isLadder_eq, isPole_eq, h, h5, show l.length < 17592186044416 from by omega]
    · refine ⟨l.length + 3, 0, [], false, by simp, fun k hk => ?_, ?_⟩
      · simp [spec_ClosePole.f, spec_l1Own.f, spec_poPole.f, laGood a l hb k (by omega), poGood a l hb k (by omega), h, h5, show l.length < 17592186044416 from by omega]
      · simp [impl_ClosePole.f, slices_Clone_int_int.f, impl_checkedPole.f, isLadder_eq, isPole_eq, h, h5, show l.length < 17592186044416 from by omega]
  · refine ⟨l.length + 3, 0, [], false, by simp, fun k hk => ?_, ?_⟩
    · simp [spec_ClosePole.f, laGood a l hb k (by omega), h]
    · simp [impl_ClosePole.f, isLadder_eq, h]
end Go.Proofs.Ytddfakhlncihoaa.L
