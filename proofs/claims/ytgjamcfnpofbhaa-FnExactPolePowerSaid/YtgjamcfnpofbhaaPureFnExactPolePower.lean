/- FnExactPolePower: for all arguments that fit into memory the law's plain form answers true. -/
import Derived.Test.YtgjamcfnpofbhaaCorePolePower
import Derived.Test.YtgjamcfnpofbhaaLibTurned
import Derived.Test.YtgjamcfnpofbhaaLibA
import Derived.Test.YtgjamcfnpofbhaaQx47
namespace Go.Proofs.Ytgjamcfnpofbhaa.Pure
open Go.RowKit Go.Proofs.Ytgjamcfnpofbhaa.Q Go.Proofs.YtgjamcfnpofbhaaW.PrintWords Go.Proofs.YtgjamcfnpofbhaaW.PrintLast Go.Proofs.Ytgjamcfnpofbhaa.L
set_option linter.unusedVariables false
set_option linter.unusedSimpArgs false
set_option maxHeartbeats 1000000 in
theorem FnExactPolePower (a0_0 : List Int) (a0_1 : List Int) (hla0_0 : a0_0.length ≤ 9223372036854775807) (hwa0_0 : ∀ x ∈ a0_0, (Lit.int .i64 x).wf = true) (hla0_1 : a0_1.length ≤ 9223372036854775807) (hwa0_1 : ∀ x ∈ a0_1, (Lit.int .i64 x).wf = true) : ∃ k, laws_FnExactPolePower.f k a0_0 a0_1 = some true := by
  have hsz := szTurned a0_0 a0_1 hla0_0 hla0_1
  by_cases hs : (1048576 : Int) < (a0_0.length : Int) + (a0_1.length : Int)
  · rw [if_pos hs] at hsz
    refine ⟨0, ?_⟩; unfold laws_FnExactPolePower.f
    simp [hsz]
  · rw [if_neg hs] at hsz
    have hneg : ¬ ((1048576 : Int) - ((a0_0.length : Int) + (a0_1.length : Int)) < 0) := by omega
    have hba0_0 : a0_0.length ≤ 35184372088832 := by omega
    have hba0_1 : a0_1.length ≤ 35184372088832 := by omega
    obtain ⟨K, r0, r1, hS, hI⟩ := core_PolePower a0_0 a0_1 hba0_0 hwa0_0 hba0_1 hwa0_1
    obtain ⟨n, hn⟩ : ∃ n, n = K + a0_0.length + a0_1.length + 1 := ⟨_, rfl⟩
    refine ⟨n + 4, ?_⟩
    have hS' : ∀ j, spec_PolePower.f (n + j) a0_0 a0_1 = _ := fun j => hS (n + j) (by omega)
    have hI' : ∀ j, impl_PolePower.f (n + j) a0_0 a0_1 = _ := fun j => hI (n + j) (by omega)
    have to1 : ∀ j, laws_toTurned.f (n + j) a0_0 a0_1 = _ := fun j => toTurned a0_0 a0_1 hba0_0 hba0_1 (n + j) (by omega)
    have eq1 : ∀ j, laws_eqTurned.f (n + j) a0_0 a0_1 a0_0 a0_1 = some true := fun j => by rw [eqTurned_self a0_0 a0_1 (by omega) (by omega) (n + j) (by omega)]
    simp only [laws_FnExactPolePower.f, laws_FnExactPolePower.j0, hsz, hneg, hS', hI', to1, eq1, Option.bind_some]
    simp
    try omega
end Go.Proofs.Ytgjamcfnpofbhaa.Pure
