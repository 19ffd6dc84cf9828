/- PoleInversions: the program's function and the reference's answer the same, for structs that fit into memory. -/
import Derived.Test.YtddfakhlncihoaaLibInv
import Derived.Test.YtddfakhlncihoaaQx34
import Derived.Test.YtddfakhlncihoaaQx55
namespace Go.Proofs.Ytddfakhlncihoaa.L
open Go.RowKit Go.Proofs.Ytddfakhlncihoaa.Q Go.Proofs.YtddfakhlncihoaaW.PrintWords Go.Proofs.YtddfakhlncihoaaW.PrintLast
set_option linter.unusedVariables false
theorem core_PoleInversions (p w : List Int) (hb : p.length ≤ 35184372088832) (hp : ∀ x ∈ p, (Lit.int .i64 x).wf = true) (hc : w.length ≤ 35184372088832) (hw : ∀ x ∈ w, (Lit.int .i64 x).wf = true) :
    ∃ K r ok, (∀ k, K ≤ k → spec_PoleInversions.f k p w = some (r, ok)) ∧ (∀ k, K ≤ k → impl_PoleInversions.f k p w = some (r, ok)) := by
  by_cases h : isTur p w = true
  · refine ⟨w.length + 3000, invV p w, true, fun k hk => ?_, fun k hk => ?_⟩
    · simp [spec_PoleInversions.f, poTurned p w hc k (by omega), h, poInversions p w h k (by omega)]
    · simp [impl_PoleInversions.f, isTurned p w hc k (by omega), h, poleInversions p w h]
  · refine ⟨w.length + 25, 0, false, fun k hk => ?_, fun k hk => ?_⟩
    · simp [spec_PoleInversions.f, poTurned p w hc k hk, h]
    · simp [impl_PoleInversions.f, isTurned p w hc k hk, h]
end Go.Proofs.Ytddfakhlncihoaa.L
