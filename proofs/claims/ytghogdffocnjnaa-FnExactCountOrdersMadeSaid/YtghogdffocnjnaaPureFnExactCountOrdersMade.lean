/- FnExactCountOrdersMade: for all arguments that fit into memory the law's plain form answers true. -/
import Derived.Test.YtghogdffocnjnaaCoreCountOrdersMade
import Derived.Test.YtghogdffocnjnaaLibA
import Derived.Test.YtghogdffocnjnaaQx44
namespace Go.Proofs.Ytghogdffocnjnaa.Pure
open Go.RowKit Go.Proofs.Ytghogdffocnjnaa.Q Go.Proofs.YtghogdffocnjnaaW.PrintWords Go.Proofs.YtghogdffocnjnaaW.PrintLast Go.Proofs.Ytghogdffocnjnaa.L
set_option linter.unusedVariables false
set_option linter.unusedSimpArgs false
set_option maxHeartbeats 1000000 in
theorem FnExactCountOrdersMade (a0 : Int) (a1 : Int) (wa0 : (Lit.int .i64 a0).wf = true) (wa1 : (Lit.int .i64 a1).wf = true) : ∃ k, laws_FnExactCountOrdersMade.f k a0 a1 = some true := by
  obtain ⟨K, r0, r1, hS, hI⟩ := core_CountOrdersMade a0 a1 wa0 wa1
  obtain ⟨n, hn⟩ : ∃ n, n = K + 1 := ⟨_, rfl⟩
  refine ⟨n + 4, ?_⟩
  have hS' : ∀ j, spec_CountOrdersMade.f (n + j) a0 a1 = _ := fun j => hS (n + j) (by omega)
  have hI' : ∀ j, impl_CountOrdersMade.f (n + j) a0 a1 = _ := fun j => hI (n + j) (by omega)
  simp only [laws_FnExactCountOrdersMade.f, hS', hI', Option.bind_some]
  simp
  try omega
end Go.Proofs.Ytghogdffocnjnaa.Pure
