/- FnExactBelowPole: for all arguments that fit into memory the law's plain form answers true. -/
import Derived.Test.YtgjamcfnpofbhaaCoreBelowPole
import Derived.Test.YtgjamcfnpofbhaaLibPole
import Derived.Test.YtgjamcfnpofbhaaLibA
import Derived.Test.YtgjamcfnpofbhaaQx43
namespace Go.Proofs.Ytgjamcfnpofbhaa.Pure
open Go.RowKit Go.Proofs.Ytgjamcfnpofbhaa.Q Go.Proofs.YtgjamcfnpofbhaaW.PrintWords Go.Proofs.YtgjamcfnpofbhaaW.PrintLast Go.Proofs.Ytgjamcfnpofbhaa.L
set_option linter.unusedVariables false
set_option linter.unusedSimpArgs false
theorem szPole_at (a : Int) (l : List Int) (x : Int) (h0 : 0 ≤ x) (h1 : x ≤ 1048576) (hl : l.length ≤ 9223372036854775807) : laws_szPole.f a l x = some (if x < (l.length : Int) then (-1 : Int) else x - (l.length : Int)) := by
  unfold laws_szPole.f
  rw [szIntS l x (by omega) (by omega) hl, Option.bind_some]
  by_cases h : x < l.length
  · rw [if_pos h]; rfl
  · rw [if_neg h, if_neg (by omega)]
set_option maxHeartbeats 1000000 in
theorem FnExactBelowPole (a0_0 : Int) (a0_1 : List Int) (a1_0 : Int) (a1_1 : List Int) (wa0_0 : (Lit.int .i64 a0_0).wf = true) (hla0_1 : a0_1.length ≤ 9223372036854775807) (hwa0_1 : ∀ x ∈ a0_1, (Lit.int .i64 x).wf = true) (wa1_0 : (Lit.int .i64 a1_0).wf = true) (hla1_1 : a1_1.length ≤ 9223372036854775807) (hwa1_1 : ∀ x ∈ a1_1, (Lit.int .i64 x).wf = true) : ∃ k, laws_FnExactBelowPole.f k a0_0 a0_1 a1_0 a1_1 = some true := by
  by_cases h1 : (1048576 : Int) < (a0_1.length : Int)
  · refine ⟨0, ?_⟩; unfold laws_FnExactBelowPole.f
    rw [szPole a0_0 a0_1 hla0_1, if_pos h1, Option.bind_some, if_pos (by omega)]
  by_cases hs : (1048576 : Int) < (a0_1.length : Int) + (a1_1.length : Int)
  · refine ⟨0, ?_⟩; unfold laws_FnExactBelowPole.f
    rw [szPole a0_0 a0_1 hla0_1, if_neg h1, Option.bind_some, if_neg (by omega), szPole_at a1_0 a1_1 _ (by omega) (by omega) hla1_1, if_pos (by omega), Option.bind_some, if_pos (by omega)]
  · have hba0_1 : a0_1.length ≤ 35184372088832 := by omega
    have hba1_1 : a1_1.length ≤ 35184372088832 := by omega
    obtain ⟨K, r0_0, r0_1, r1, hbr0_1, hS, hI⟩ := core_BelowPole a0_0 a0_1 a1_0 a1_1 wa0_0 hba0_1 hwa0_1 wa1_0 hba1_1 hwa1_1
    obtain ⟨n, hn⟩ : ∃ n, n = K + a0_1.length + a1_1.length + r0_1.length + 1 := ⟨_, rfl⟩
    refine ⟨n + 4, ?_⟩
    have z1 : laws_szPole.f a0_0 a0_1 1048576 = some (1048576 - (a0_1.length : Int)) := by rw [szPole a0_0 a0_1 hla0_1, if_neg h1]
    have z2 : laws_szPole.f a1_0 a1_1 (1048576 - (a0_1.length : Int)) = some (1048576 - (a0_1.length : Int) - (a1_1.length : Int)) := by rw [szPole_at a1_0 a1_1 _ (by omega) (by omega) hla1_1, if_neg (by omega)]
    have n1 : ¬ (1048576 - (a0_1.length : Int) < 0) := by omega
    have n2 : ¬ (1048576 - (a0_1.length : Int) - (a1_1.length : Int) < 0) := by omega
    have hS' : ∀ j, spec_BelowPole.f (n + j) a0_0 a0_1 a1_0 a1_1 = _ := fun j => hS (n + j) (by omega)
    have hI' : ∀ j, impl_BelowPole.f (n + j) a0_0 a0_1 a1_0 a1_1 = _ := fun j => hI (n + j) (by omega)
    have to1 : ∀ j, laws_toPole.f (n + j) a0_0 a0_1 = _ := fun j => toPole a0_0 a0_1 hba0_1 (n + j) (by omega)
    have eq1 : ∀ j, laws_eqPole.f (n + j) a0_0 a0_1 a0_0 a0_1 = some true := fun j => by rw [eqPole_self a0_0 a0_1 (by omega) (n + j) (by omega)]
    have to2 : ∀ j, laws_toPole.f (n + j) a1_0 a1_1 = _ := fun j => toPole a1_0 a1_1 hba1_1 (n + j) (by omega)
    have eq2 : ∀ j, laws_eqPole.f (n + j) a1_0 a1_1 a1_0 a1_1 = some true := fun j => by rw [eqPole_self a1_0 a1_1 (by omega) (n + j) (by omega)]
    have eq3 : ∀ j, laws_eqPole.f (n + j) r0_0 r0_1 r0_0 r0_1 = some true := fun j => by rw [eqPole_self r0_0 r0_1 (by omega) (n + j) (by omega)]
    have mk1 : ∀ j, laws_markPole.f (n + j) a0_0 a0_1 1 = _ := fun j => markPole a0_0 a0_1 1 (by omega) (by omega) (by omega) (n + j) (by omega)
    have mk2 : ∀ j, laws_markPole.f (n + j) a1_0 a1_1 (1 + (a0_1.length : Int)) = _ := fun j => markPole a1_0 a1_1 (1 + (a0_1.length : Int)) (by omega) (by omega) (by omega) (n + j) (by omega)
    have mk3 : ∀ j, laws_markPole.f (n + j) r0_0 r0_1 1 = _ := fun j => markPole r0_0 r0_1 1 (by omega) (by omega) (by omega) (n + j) (by omega)
    have hd3 : ∀ j, laws_heldPole.f (n + j) r0_0 (marks r0_1.length 1) 1 = _ := fun j => heldPole r0_0 r0_1.length 1 (by omega) (by omega) (by omega) (n + j) (by omega)
    simp only [laws_FnExactBelowPole.f, z1, z2, if_neg n1, if_neg n2, hS', hI', to1, eq1, to2, eq2, eq3, mk1, mk2, mk3, hd3, Option.bind_some]
    simp
    try omega
end Go.Proofs.Ytgjamcfnpofbhaa.Pure
