/- FnExactWorstOrder: for all arguments that fit into memory the law's plain form answers true. -/
import Derived.Test.YtmljdibhdnckpaaCoreWorstOrder
import Derived.Test.YtmljdibhdnckpaaLibLadder
import Derived.Test.YtmljdibhdnckpaaLibA
import Derived.Test.YtmljdibhdnckpaaQx65
namespace Go.Proofs.Ytmljdibhdnckpaa.Pure
open Go.RowKit Go.Proofs.Ytmljdibhdnckpaa.Q Go.Proofs.YtmljdibhdnckpaaW.PrintWords Go.Proofs.YtmljdibhdnckpaaW.PrintLast Go.Proofs.Ytmljdibhdnckpaa.L
set_option linter.unusedVariables false
set_option linter.unusedSimpArgs false
set_option maxHeartbeats 1000000 in
theorem FnExactWorstOrder (a0_0 : Int) (a0_1 : List Int) (wa0_0 : (Lit.int .i64 a0_0).wf = true) (hla0_1 : a0_1.length ≤ 9223372036854775807) (hwa0_1 : ∀ x ∈ a0_1, (Lit.int .i64 x).wf = true) : ∃ k, laws_FnExactWorstOrder.f k a0_0 a0_1 = some true := by
  have hsz := szLadder a0_0 a0_1 hla0_1
  by_cases hs : (1048576 : Int) < (a0_1.length : Int)
  · rw [if_pos hs] at hsz
    refine ⟨0, ?_⟩; unfold laws_FnExactWorstOrder.f
    simp [hsz]
  · rw [if_neg hs] at hsz
    have hneg : ¬ ((1048576 : Int) - ((a0_1.length : Int)) < 0) := by omega
    have hba0_1 : a0_1.length ≤ 35184372088832 := by omega
    obtain ⟨K, r0, r1, r2, hbr0, hS, hI⟩ := core_WorstOrder a0_0 a0_1 wa0_0 hba0_1 hwa0_1
    obtain ⟨n, hn⟩ : ∃ n, n = K + a0_1.length + r0.length + 1 := ⟨_, rfl⟩
    refine ⟨n + 4, ?_⟩
    have hS' : ∀ j, spec_WorstOrder.f (n + j) a0_0 a0_1 = _ := fun j => hS (n + j) (by omega)
    have hI' : ∀ j, impl_WorstOrder.f (n + j) a0_0 a0_1 = _ := fun j => hI (n + j) (by omega)
    have to1 : ∀ j, laws_toLadder.f (n + j) a0_0 a0_1 = _ := fun j => toLadder a0_0 a0_1 hba0_1 (n + j) (by omega)
    have eq1 : ∀ j, laws_eqLadder.f (n + j) a0_0 a0_1 a0_0 a0_1 = some true := fun j => by rw [eqLadder_self a0_0 a0_1 (by omega) (n + j) (by omega)]
    have eq2 : ∀ j, laws_eqIntS.f (n + j) r0 r0 = some true := fun j => by rw [eqIntS _ _ (by omega) (n + j) (by omega)]; simp
    have mk1 : ∀ j, laws_markLadder.f (n + j) a0_0 a0_1 1 = _ := fun j => markLadder a0_0 a0_1 1 (by omega) (by omega) (by omega) (n + j) (by omega)
    have mk2 : ∀ j, laws_markIntS.f (n + j) r0 1 = _ := fun j => markIntS r0 1 (by omega) (by omega) (by omega) (n + j) (by omega)
    have hd2 : ∀ j, laws_heldIntS.f (n + j) (marks r0.length 1) 1 = _ := fun j => heldIntS r0.length 1 (by omega) (by omega) (by omega) (n + j) (by omega)
    simp only [laws_FnExactWorstOrder.f, laws_FnExactWorstOrder.j0, laws_FnExactWorstOrder.j1, laws_FnExactWorstOrder.j2, hsz, hneg, hS', hI', to1, eq1, eq2, mk1, mk2, hd2, Option.bind_some]
    simp
    try omega
end Go.Proofs.Ytmljdibhdnckpaa.Pure
