/- FnExactThenTurned: for all arguments that fit into memory the law's plain form answers true. -/
import Derived.Test.YtgjamcfnpofbhaaCoreThenTurned
import Derived.Test.YtgjamcfnpofbhaaLibTurned
import Derived.Test.YtgjamcfnpofbhaaLibA
import Derived.Test.YtgjamcfnpofbhaaQx44
namespace Go.Proofs.Ytgjamcfnpofbhaa.Pure
open Go.RowKit Go.Proofs.Ytgjamcfnpofbhaa.Q Go.Proofs.YtgjamcfnpofbhaaW.PrintWords Go.Proofs.YtgjamcfnpofbhaaW.PrintLast Go.Proofs.Ytgjamcfnpofbhaa.L
set_option linter.unusedVariables false
set_option linter.unusedSimpArgs false
set_option maxHeartbeats 1000000 in
theorem FnExactThenTurned (a0_0 : List Int) (a0_1 : List Int) (a1_0 : List Int) (a1_1 : List Int) (hla0_0 : a0_0.length ≤ 9223372036854775807) (hwa0_0 : ∀ x ∈ a0_0, (Lit.int .i64 x).wf = true) (hla0_1 : a0_1.length ≤ 9223372036854775807) (hwa0_1 : ∀ x ∈ a0_1, (Lit.int .i64 x).wf = true) (hla1_0 : a1_0.length ≤ 9223372036854775807) (hwa1_0 : ∀ x ∈ a1_0, (Lit.int .i64 x).wf = true) (hla1_1 : a1_1.length ≤ 9223372036854775807) (hwa1_1 : ∀ x ∈ a1_1, (Lit.int .i64 x).wf = true) : ∃ k, laws_FnExactThenTurned.f k a0_0 a0_1 a1_0 a1_1 = some true := by
  by_cases h1 : (1048576 : Int) < (a0_0.length : Int) + (a0_1.length : Int)
  · refine ⟨0, ?_⟩; unfold laws_FnExactThenTurned.f
    rw [szTurned a0_0 a0_1 hla0_0 hla0_1, if_pos h1, Option.bind_some, if_pos (by omega)]
  by_cases hs : (1048576 : Int) < (a0_0.length : Int) + (a0_1.length : Int) + (a1_0.length : Int) + (a1_1.length : Int)
  · refine ⟨0, ?_⟩; unfold laws_FnExactThenTurned.f
    rw [szTurned a0_0 a0_1 hla0_0 hla0_1, if_neg h1, Option.bind_some, if_neg (by omega), szTurned_at a1_0 a1_1 _ (by omega) (by omega) hla1_0 hla1_1, if_pos (by omega), Option.bind_some, if_pos (by omega)]
  · have hba0_0 : a0_0.length ≤ 35184372088832 := by omega
    have hba0_1 : a0_1.length ≤ 35184372088832 := by omega
    have hba1_0 : a1_0.length ≤ 35184372088832 := by omega
    have hba1_1 : a1_1.length ≤ 35184372088832 := by omega
    obtain ⟨K, r0_0, r0_1, r1, hbr0_0, hbr0_1, hS, hI⟩ := core_ThenTurned a0_0 a0_1 a1_0 a1_1 hba0_0 hwa0_0 hba0_1 hwa0_1 hba1_0 hwa1_0 hba1_1 hwa1_1
    obtain ⟨n, hn⟩ : ∃ n, n = K + a0_0.length + a0_1.length + a1_0.length + a1_1.length + r0_0.length + r0_1.length + 1 := ⟨_, rfl⟩
    refine ⟨n + 4, ?_⟩
    have z1 : laws_szTurned.f a0_0 a0_1 1048576 = some (1048576 - ((a0_0.length : Int) + (a0_1.length : Int))) := by rw [szTurned a0_0 a0_1 hla0_0 hla0_1, if_neg h1]
    have z2 : laws_szTurned.f a1_0 a1_1 (1048576 - ((a0_0.length : Int) + (a0_1.length : Int))) = some (1048576 - ((a0_0.length : Int) + (a0_1.length : Int)) - ((a1_0.length : Int) + (a1_1.length : Int))) := by rw [szTurned_at a1_0 a1_1 _ (by omega) (by omega) hla1_0 hla1_1, if_neg (by omega)]
    have n1 : ¬ (1048576 - ((a0_0.length : Int) + (a0_1.length : Int)) < 0) := by omega
    have n2 : ¬ (1048576 - ((a0_0.length : Int) + (a0_1.length : Int)) - ((a1_0.length : Int) + (a1_1.length : Int)) < 0) := by omega
    have hS' : ∀ j, spec_ThenTurned.f (n + j) a0_0 a0_1 a1_0 a1_1 = _ := fun j => hS (n + j) (by omega)
    have hI' : ∀ j, impl_ThenTurned.f (n + j) a0_0 a0_1 a1_0 a1_1 = _ := fun j => hI (n + j) (by omega)
    have to1 : ∀ j, laws_toTurned.f (n + j) a0_0 a0_1 = _ := fun j => toTurned a0_0 a0_1 hba0_0 hba0_1 (n + j) (by omega)
    have eq1 : ∀ j, laws_eqTurned.f (n + j) a0_0 a0_1 a0_0 a0_1 = some true := fun j => by rw [eqTurned_self a0_0 a0_1 (by omega) (by omega) (n + j) (by omega)]
    have to2 : ∀ j, laws_toTurned.f (n + j) a1_0 a1_1 = _ := fun j => toTurned a1_0 a1_1 hba1_0 hba1_1 (n + j) (by omega)
    have eq2 : ∀ j, laws_eqTurned.f (n + j) a1_0 a1_1 a1_0 a1_1 = some true := fun j => by rw [eqTurned_self a1_0 a1_1 (by omega) (by omega) (n + j) (by omega)]
    have eq3 : ∀ j, laws_eqTurned.f (n + j) r0_0 r0_1 r0_0 r0_1 = some true := fun j => by rw [eqTurned_self r0_0 r0_1 (by omega) (by omega) (n + j) (by omega)]
    have mk1 : ∀ j, laws_markTurned.f (n + j) a0_0 a0_1 1 = _ := fun j => markTurned a0_0 a0_1 1 (by omega) (by omega) (by omega) (by omega) (n + j) (by omega)
    have mk2 : ∀ j, laws_markTurned.f (n + j) a1_0 a1_1 (1 + (a0_0.length : Int) + (a0_1.length : Int)) = _ := fun j => markTurned a1_0 a1_1 (1 + (a0_0.length : Int) + (a0_1.length : Int)) (by omega) (by omega) (by omega) (by omega) (n + j) (by omega)
    have mk3 : ∀ j, laws_markTurned.f (n + j) r0_0 r0_1 1 = _ := fun j => markTurned r0_0 r0_1 1 (by omega) (by omega) (by omega) (by omega) (n + j) (by omega)
    have hd3 : ∀ j, laws_heldTurned.f (n + j) (marks r0_0.length 1) (marks r0_1.length (1 + (r0_0.length : Int))) 1 = _ := fun j => heldTurned r0_0.length r0_1.length 1 (by omega) (by omega) (by omega) (by omega) (n + j) (by omega)
    simp only [laws_FnExactThenTurned.f, laws_FnExactThenTurned.j0, z1, z2, if_neg n1, if_neg n2, hS', hI', to1, eq1, to2, eq2, eq3, mk1, mk2, mk3, hd3, Option.bind_some]
    simp
    try omega
end Go.Proofs.Ytgjamcfnpofbhaa.Pure
