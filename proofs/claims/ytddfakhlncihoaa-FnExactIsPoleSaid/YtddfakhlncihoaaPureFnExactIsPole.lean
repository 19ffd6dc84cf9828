/- FnExactIsPole: for every pole-like struct (its rungs fit into memory) the law's plain form answers true. -/
import Derived.Test.YtddfakhlncihoaaLibPole
import Derived.Test.YtddfakhlncihoaaLibAll
import Derived.Test.YtddfakhlncihoaaQx5
namespace Go.Proofs.Ytddfakhlncihoaa.Pure
open Go.RowKit Go.Proofs.Ytddfakhlncihoaa.Q Go.Proofs.YtddfakhlncihoaaW.PrintWords Go.Proofs.YtddfakhlncihoaaW.PrintLast Go.Proofs.Ytddfakhlncihoaa.L
set_option linter.unusedVariables false
theorem FnExactIsPole (a : Int) (l : List Int) (w : (Lit.int .i64 a).wf = true) (hl : l.length ≤ 9223372036854775807) (hw : ∀ x ∈ l, (Lit.int .i64 x).wf = true) : ∃ k, laws_FnExactIsPole.f k a l = some true := by
  refine ⟨l.length + 1, ?_⟩
  unfold laws_FnExactIsPole.f
  rw [szPole a l hl, Option.bind_some]
  by_cases h : (1048576 : Int) < l.length
  · rw [if_pos h]; rfl
  · have hb : l.length ≤ 35184372088832 := by omega
    rw [if_neg h, if_neg (by omega), toPole a l hb _ (Nat.le_refl _), Option.bind_some]
    unfold spec_IsPole.f impl_IsPole.f
    rw [poGood a l hb _ (Nat.le_refl _)]
    simp [isPole_eq, eqPole a a l l hb _ (Nat.le_refl _)]
end Go.Proofs.Ytddfakhlncihoaa.Pure
