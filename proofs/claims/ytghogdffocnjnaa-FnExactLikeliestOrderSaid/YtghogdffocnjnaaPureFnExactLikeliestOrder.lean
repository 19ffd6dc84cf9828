/- FnExactLikeliestOrder: for all arguments that fit into memory the law's plain form answers true. -/
import Derived.Test.YtghogdffocnjnaaCoreLikeliestOrder
import Derived.Test.YtghogdffocnjnaaLibA
import Derived.Test.YtghogdffocnjnaaQx51
namespace Go.Proofs.Ytghogdffocnjnaa.Pure
open Go.RowKit Go.Proofs.Ytghogdffocnjnaa.Q Go.Proofs.YtghogdffocnjnaaW.PrintWords Go.Proofs.YtghogdffocnjnaaW.PrintLast Go.Proofs.Ytghogdffocnjnaa.L
set_option linter.unusedVariables false
set_option linter.unusedSimpArgs false
set_option maxHeartbeats 1000000 in
theorem FnExactLikeliestOrder (a0 : Int) (a1 : Int) (wa0 : (Lit.int .i64 a0).wf = true) (wa1 : (Lit.int .i64 a1).wf = true) : ∃ k, laws_FnExactLikeliestOrder.f k a0 a1 = some true := by
  obtain ⟨K, r0, r1, hbr0, hS, hI⟩ := core_LikeliestOrder a0 a1 wa0 wa1
  obtain ⟨n, hn⟩ : ∃ n, n = K + r0.length + 1 := ⟨_, rfl⟩
  refine ⟨n + 4, ?_⟩
  have hS' : ∀ j, spec_LikeliestOrder.f (n + j) a0 a1 = _ := fun j => hS (n + j) (by omega)
  have hI' : ∀ j, impl_LikeliestOrder.f (n + j) a0 a1 = _ := fun j => hI (n + j) (by omega)
  have eq1 : ∀ j, laws_eqIntS.f (n + j) r0 r0 = some true := fun j => by rw [eqIntS _ _ (by omega) (n + j) (by omega)]; simp
  have mk1 : ∀ j, laws_markIntS.f (n + j) r0 1 = _ := fun j => markIntS r0 1 (by omega) (by omega) (by omega) (n + j) (by omega)
  have hd1 : ∀ j, laws_heldIntS.f (n + j) (marks r0.length 1) 1 = _ := fun j => heldIntS r0.length 1 (by omega) (by omega) (by omega) (n + j) (by omega)
  simp only [laws_FnExactLikeliestOrder.f, hS', hI', eq1, mk1, hd1, Option.bind_some]
  simp
  try omega
end Go.Proofs.Ytghogdffocnjnaa.Pure
