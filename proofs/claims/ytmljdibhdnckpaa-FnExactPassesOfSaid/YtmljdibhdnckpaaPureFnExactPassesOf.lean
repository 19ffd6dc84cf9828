/- FnExactPassesOf: for all arguments that fit into memory the law's plain form answers true. -/
import Derived.Test.YtmljdibhdnckpaaCorePassesOf
import Derived.Test.YtmljdibhdnckpaaLibA
import Derived.Test.YtmljdibhdnckpaaQx14
namespace Go.Proofs.Ytmljdibhdnckpaa.Pure
open Go.RowKit Go.Proofs.Ytmljdibhdnckpaa.Q Go.Proofs.YtmljdibhdnckpaaW.PrintWords Go.Proofs.YtmljdibhdnckpaaW.PrintLast Go.Proofs.Ytmljdibhdnckpaa.L
set_option linter.unusedVariables false
set_option linter.unusedSimpArgs false
set_option maxHeartbeats 1000000 in
theorem FnExactPassesOf (a0 : List Int) (hla0 : a0.length ≤ 9223372036854775807) (hwa0 : ∀ x ∈ a0, (Lit.int .i64 x).wf = true) : ∃ k, laws_FnExactPassesOf.f k a0 = some true := by
  by_cases hz : (1048576 : Int) < (a0.length : Int)
  · refine ⟨0, ?_⟩; unfold laws_FnExactPassesOf.f
    simp [hz]
    try omega
  · have hz' : ¬ ((a0.length : Int) > 1048576) := hz
    have hba0 : a0.length ≤ 35184372088832 := by omega
    obtain ⟨K, r0, r1, hS, hI⟩ := core_PassesOf a0 hba0 hwa0
    obtain ⟨n, hn⟩ : ∃ n, n = K + a0.length + 1 := ⟨_, rfl⟩
    refine ⟨n + 4, ?_⟩
    have hS' : ∀ j, spec_PassesOf.f (n + j) a0 = _ := fun j => hS (n + j) (by omega)
    have hI' : ∀ j, impl_PassesOf.f (n + j) a0 = _ := fun j => hI (n + j) (by omega)
    have to1 : ∀ j, laws_toIntS.f (n + j) a0 = _ := fun j => toIntS a0 hba0 (n + j) (by omega)
    have eq1 : ∀ j, laws_eqIntS.f (n + j) a0 a0 = some true := fun j => by rw [eqIntS _ _ (by omega) (n + j) (by omega)]; simp
    simp only [laws_FnExactPassesOf.f, laws_FnExactPassesOf.j0, hz', hS', hI', to1, eq1, Option.bind_some]
    simp
    try omega
end Go.Proofs.Ytmljdibhdnckpaa.Pure
