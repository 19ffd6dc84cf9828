/- FnExactChanceOfOrder: for all arguments that fit into memory the law's plain form answers true. -/
import Derived.Test.YtghogdffocnjnaaCoreChanceOfOrder
import Derived.Test.YtghogdffocnjnaaLibA
import Derived.Test.YtghogdffocnjnaaQx48
namespace Go.Proofs.Ytghogdffocnjnaa.Pure
open Go.RowKit Go.Proofs.Ytghogdffocnjnaa.Q Go.Proofs.YtghogdffocnjnaaW.PrintWords Go.Proofs.YtghogdffocnjnaaW.PrintLast Go.Proofs.Ytghogdffocnjnaa.L
set_option linter.unusedVariables false
set_option linter.unusedSimpArgs false
set_option maxHeartbeats 1000000 in
theorem FnExactChanceOfOrder (a0 : Int) (a1 : Int) (a2 : List Int) (wa0 : (Lit.int .i64 a0).wf = true) (wa1 : (Lit.int .i64 a1).wf = true) (hla2 : a2.length ≤ 9223372036854775807) (hwa2 : ∀ x ∈ a2, (Lit.int .i64 x).wf = true) : ∃ k, laws_FnExactChanceOfOrder.f k a0 a1 a2 = some true := by
  by_cases hz : (1048576 : Int) < (a2.length : Int)
  · refine ⟨0, ?_⟩; unfold laws_FnExactChanceOfOrder.f
    simp [hz]
    try omega
  · have hz' : ¬ ((a2.length : Int) > 1048576) := hz
    have hba2 : a2.length ≤ 35184372088832 := by omega
    obtain ⟨K, r0_0, r0_1, r1, hS, hI⟩ := core_ChanceOfOrder a0 a1 a2 wa0 wa1 hba2 hwa2
    obtain ⟨n, hn⟩ : ∃ n, n = K + a2.length + 1 := ⟨_, rfl⟩
    refine ⟨n + 4, ?_⟩
    have hS' : ∀ j, spec_ChanceOfOrder.f (n + j) a0 a1 a2 = _ := fun j => hS (n + j) (by omega)
    have hI' : ∀ j, impl_ChanceOfOrder.f (n + j) a0 a1 a2 = _ := fun j => hI (n + j) (by omega)
    have to1 : ∀ j, laws_toIntS.f (n + j) a2 = _ := fun j => toIntS a2 hba2 (n + j) (by omega)
    have eq1 : ∀ j, laws_eqIntS.f (n + j) a2 a2 = some true := fun j => by rw [eqIntS _ _ (by omega) (n + j) (by omega)]; simp
    simp only [laws_FnExactChanceOfOrder.f, hz', hS', hI', to1, eq1, Option.bind_some]
    simp [laws_eqRatio.f]
    try omega
end Go.Proofs.Ytghogdffocnjnaa.Pure
