/- IdleRungs: the program's function and the reference's answer the same, for ladders that fit into memory. -/
import Derived.Test.YtmljdibhdnckpaaCoreIdle
import Derived.Test.YtmljdibhdnckpaaQx30
import Derived.Test.YtmljdibhdnckpaaQx51
namespace Go.Proofs.Ytmljdibhdnckpaa.L
open Go.RowKit Go.Proofs.Ytmljdibhdnckpaa.Q Go.Proofs.YtmljdibhdnckpaaW.PrintWords Go.Proofs.YtmljdibhdnckpaaW.PrintLast
set_option linter.unusedVariables false
set_option linter.unusedSimpArgs false
theorem rdOf_not (b : List Bool) (i : Nat) (h : i < b.length) : rdOf false (b.map (!·)) (i : Int) = !rdOf false b (i : Int) := by
  unfold rdOf
  rw [Int.toNat_natCast, List.getD_eq_getElem?_getD, List.getD_eq_getElem?_getD, List.getElem?_map, List.getElem?_eq_getElem h]
  rfl
theorem idleRungs_l0 (b : List Bool) (hb : b.length ≤ 60) (d : Nat) : ∀ (i : Nat) (o : List Int), i + d = b.length → o.length ≤ i → ∃ r : List Int, r.length ≤ 60 ∧ (∀ k, d < k → spec_IdleRungs.l0 k o (b.map (!·)) (b.length : Int) (i : Int) = some (r, true)) ∧ (∀ k, d < k → impl_IdleRungs.l0 k o b (b.length : Int) (i : Int) = some (r, true)) := by
  induction d with
  | zero =>
    intro i o hi ho
    refine ⟨o, by omega, fun k hk => ?_, fun k hk => ?_⟩
    · obtain ⟨k, rfl⟩ : ∃ m, k = m + 1 := ⟨k - 1, by omega⟩
      rw [spec_IdleRungs.l0, if_neg (by omega)]
    · obtain ⟨k, rfl⟩ : ∃ m, k = m + 1 := ⟨k - 1, by omega⟩
      rw [impl_IdleRungs.l0, if_neg (by omega)]
  | succ d ih =>
    intro i o hi ho
    cases hq : rdOf false b (i : Int) with
    | true =>
      obtain ⟨r, hr, hS, hI⟩ := ih (i + 1) o (by omega) (by omega)
      refine ⟨r, hr, fun k hk => ?_, fun k hk => ?_⟩
      · obtain ⟨k, rfl⟩ : ∃ m, k = m + 1 := ⟨k - 1, by omega⟩
        rw [spec_IdleRungs.l0, if_pos (by omega), if_pos (by omega), if_pos (by rw [List.length_map]; omega), rdOf_not b i (by omega), hq, if_neg (by decide), wrap_id (n := (i : Int) + 1) (by omega) (by omega)]
        exact_mod_cast hS k (by omega)
      · obtain ⟨k, rfl⟩ : ∃ m, k = m + 1 := ⟨k - 1, by omega⟩
        rw [impl_IdleRungs.l0, if_pos (by omega), if_pos (by omega), if_pos (by omega), hq, if_pos rfl, wrap_id (n := (i : Int) + 1) (by omega) (by omega)]
        exact_mod_cast hI k (by omega)
    | false =>
      obtain ⟨r, hr, hS, hI⟩ := ih (i + 1) (o ++ [(i : Int)]) (by omega) (by simp; omega)
      refine ⟨r, hr, fun k hk => ?_, fun k hk => ?_⟩
      · obtain ⟨k, rfl⟩ : ∃ m, k = m + 1 := ⟨k - 1, by omega⟩
        rw [spec_IdleRungs.l0, if_pos (by omega), if_pos (by omega), if_pos (by rw [List.length_map]; omega), rdOf_not b i (by omega), hq, if_pos (by decide), if_pos (by omega), wrap_id (n := (i : Int) + 1) (by omega) (by omega)]
        exact_mod_cast hS k (by omega)
      · obtain ⟨k, rfl⟩ : ∃ m, k = m + 1 := ⟨k - 1, by omega⟩
        rw [impl_IdleRungs.l0, if_pos (by omega), if_pos (by omega), if_pos (by omega), hq, if_neg (by decide), if_pos (by omega), wrap_id (n := (i : Int) + 1) (by omega) (by omega)]
        exact_mod_cast hI k (by omega)
theorem core_IdleRungs (a : Int) (l : List Int) (w : (Lit.int .i64 a).wf = true) (hb : l.length ≤ 35184372088832) (hw : ∀ x ∈ l, (Lit.int .i64 x).wf = true) :
    ∃ K m ok, m.length ≤ 35184372088832 ∧ (∀ k, K ≤ k → spec_IdleRungs.f k a l = some (m, ok)) ∧ (∀ k, K ≤ k → impl_IdleRungs.f k a l = some (m, ok)) := by
  by_cases h : isLadder a l = true
  · obtain ⟨h1, h2, h3, h4⟩ := isLadder_wires h
    obtain ⟨n, rfl⟩ : ∃ n : Nat, a = n := ⟨a.toNat, by omega⟩
    obtain ⟨b, hbl, hS, hI⟩ := idle_busy n (by omega) l h3 h4
    obtain ⟨r, hr, hS2, hI2⟩ := idleRungs_l0 b (by omega) b.length 0 [] (by omega) (by simp)
    refine ⟨40000, r, true, by omega, fun k hk => ?_, fun k hk => ?_⟩
    · unfold spec_IdleRungs.f
      rw [laGood n l hb k (by omega), Option.bind_some, h, if_pos rfl, hS k (by omega), Option.bind_some, List.length_map]
      exact hS2 k (by omega)
    · unfold impl_IdleRungs.f
      rw [isLadder_eq, Option.bind_some, h, if_pos rfl, hI k (by omega), Option.bind_some]
      exact hI2 k (by omega)
  · refine ⟨l.length + 3, [], false, by simp, fun k hk => ?_, fun k hk => ?_⟩
    · simp [spec_IdleRungs.f, laGood a l hb k (by omega), h]
    · simp [impl_IdleRungs.f, isLadder_eq, h]
end Go.Proofs.Ytmljdibhdnckpaa.L
