/- FnExactPoleText: for all arguments that fit into memory the law's plain form answers true. -/
import Derived.Test.YtgjamcfnpofbhaaDoorCorePoleText
import Derived.Test.YtgjamcfnpofbhaaDoorLibPole
import Derived.Test.YtgjamcfnpofbhaaDoorLibA
import Derived.Test.YtgjamcfnpofbhaaDoorQx13
namespace Go.Proofs.YtgjamcfnpofbhaaDoor.Pure
open Go.RowKit Go.Proofs.YtgjamcfnpofbhaaDoor.Q Go.Proofs.YtgjamcfnpofbhaaDoorW.PrintWords Go.Proofs.YtgjamcfnpofbhaaDoorW.PrintLast Go.Proofs.YtgjamcfnpofbhaaDoor.L
set_option linter.unusedVariables false
set_option linter.unusedSimpArgs false
set_option maxHeartbeats 1000000 in
theorem FnExactPoleText (a0_0 : Int) (a0_1 : List Int) (wa0_0 : (Lit.int .i64 a0_0).wf = true) (hla0_1 : a0_1.length ≤ 9223372036854775807) (hwa0_1 : ∀ x ∈ a0_1, (Lit.int .i64 x).wf = true) : ∃ k, laws_FnExactPoleText.f k a0_0 a0_1 = some true := by
  have hsz := szPole a0_0 a0_1 hla0_1
  by_cases hs : (1048576 : Int) < (a0_1.length : Int)
  · rw [if_pos hs] at hsz
    refine ⟨0, ?_⟩; unfold laws_FnExactPoleText.f
    simp [hsz]
  · rw [if_neg hs] at hsz
    have hneg : ¬ ((1048576 : Int) - (a0_1.length : Int) < 0) := by omega
    have hba0_1 : a0_1.length ≤ 35184372088832 := by omega
    obtain ⟨K, r0, r1, hS, hI⟩ := core_PoleText a0_0 a0_1 wa0_0 hba0_1 hwa0_1
    obtain ⟨n, hn⟩ : ∃ n, n = K + a0_1.length + 1 := ⟨_, rfl⟩
    refine ⟨n + 4, ?_⟩
    have hS' : ∀ j, spec_PoleText.f (n + j) a0_0 a0_1 = _ := fun j => hS (n + j) (by omega)
    have hI' : ∀ j, impl_PoleText.f (n + j) a0_0 a0_1 = _ := fun j => hI (n + j) (by omega)
    have to1 : ∀ j, laws_toPole.f (n + j) a0_0 a0_1 = _ := fun j => toPole a0_0 a0_1 hba0_1 (n + j) (by omega)
    have eq1 : ∀ j, laws_eqPole.f (n + j) a0_0 a0_1 a0_0 a0_1 = some true := fun j => by rw [eqPole_self a0_0 a0_1 (by omega) (n + j) (by omega)]
    simp only [laws_FnExactPoleText.f, laws_FnExactPoleText.j0, hsz, if_neg hneg, hS', hI', to1, eq1, Option.bind_some]
    simp
    try omega
end Go.Proofs.YtgjamcfnpofbhaaDoor.Pure
