/- IsTurned: the program's function and the reference's answer the same, for structs that fit into memory. -/
import Derived.Test.YtddfakhlncihoaaLibIsTurned
import Derived.Test.YtddfakhlncihoaaQx11
import Derived.Test.YtddfakhlncihoaaQx13
namespace Go.Proofs.Ytddfakhlncihoaa.L
open Go.RowKit Go.Proofs.Ytddfakhlncihoaa.Q Go.Proofs.YtddfakhlncihoaaW.PrintWords Go.Proofs.YtddfakhlncihoaaW.PrintLast
set_option linter.unusedVariables false in
theorem core_IsTurned (p w : List Int) (hb : p.length ≤ 35184372088832) (hp : ∀ x ∈ p, (Lit.int .i64 x).wf = true) (hc : w.length ≤ 35184372088832) (hw : ∀ x ∈ w, (Lit.int .i64 x).wf = true) :
    ∃ K r, (∀ k, K ≤ k → spec_IsTurned.f k p w = some r) ∧ (∀ k, K ≤ k → impl_IsTurned.f k p w = some r) := by
  refine ⟨w.length + 25, isTur p w, fun k hk => ?_, fun k hk => ?_⟩
  · unfold spec_IsTurned.f
    rw [poTurned p w hc k hk]
    rfl
  · unfold impl_IsTurned.f
    rw [isTurned p w hc k hk]
    rfl
end Go.Proofs.Ytddfakhlncihoaa.L
