/- OpenPole: the program's functions and the reference's answer the same, for structs whose rungs fit into memory. -/
import Derived.Test.YtddfakhlncihoaaLibAll
import Derived.Test.YtddfakhlncihoaaQx16
import Derived.Test.YtddfakhlncihoaaQx23
import Derived.Test.YtddfakhlncihoaaQx29
import Derived.Test.YtddfakhlncihoaaQx30
namespace Go.Proofs.Ytddfakhlncihoaa.L
open Go.RowKit Go.Proofs.Ytddfakhlncihoaa.Q Go.Proofs.YtddfakhlncihoaaW.PrintWords Go.Proofs.YtddfakhlncihoaaW.PrintLast
set_option linter.unusedVariables false
set_option linter.unusedSimpArgs false
theorem core_OpenPole (a : Int) (l : List Int) (w : (Lit.int .i64 a).wf = true) (hb : l.length ≤ 35184372088832) (hw : ∀ x ∈ l, (Lit.int .i64 x).wf = true) :
    ∃ K b m ok, m.length ≤ 35184372088832 ∧ (∀ k, K ≤ k → spec_OpenPole.f k a l = some (b, m, ok)) ∧ impl_OpenPole.f a l = some (b, m, ok) := by
  by_cases h : isPole a l = true
  · obtain ⟨h1, h2, h3, h4⟩ := isPole_wires h
    by_cases h5 : isLadder a l = true
    · refine ⟨l.length + 3, a, l, true, hb, fun k hk => ?_, ?_⟩
      · simp [spec_OpenPole.f, spec_l1Own.f, spec_laIf.f, laGood a l hb k (by omega), poGood a l hb k (by omega), h, h5, show l.length < 17592186044416 from by omega]
      · simp [impl_OpenPole.f, slices_Clone_int_int.f, impl_checked.f, isLadder_eq, isPole_eq, h, h5, show l.length < 17592186044416 from by omega]
    · refine ⟨l.length + 3, 0, [], false, by simp, fun k hk => ?_, ?_⟩
      · simp [spec_OpenPole.f, spec_l1Own.f, spec_laIf.f, laGood a l hb k (by omega), poGood a l hb k (by omega), h, h5, show l.length < 17592186044416 from by omega]
      · simp [impl_OpenPole.f, slices_Clone_int_int.f, impl_checked.f, isLadder_eq, isPole_eq, h, h5, show l.length < 17592186044416 from by omega]
  · refine ⟨l.length + 3, 0, [], false, by simp, fun k hk => ?_, ?_⟩
    · simp [spec_OpenPole.f, poGood a l hb k (by omega), h]
    · simp [impl_OpenPole.f, isPole_eq, h]
end Go.Proofs.Ytddfakhlncihoaa.L
