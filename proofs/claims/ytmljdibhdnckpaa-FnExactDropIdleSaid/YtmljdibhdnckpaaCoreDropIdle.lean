/- DropIdle: the program's function and the reference's answer the same, for ladders that fit into memory. -/
import Derived.Test.YtmljdibhdnckpaaCoreIdleRungs
import Derived.Test.YtmljdibhdnckpaaQx35
import Derived.Test.YtmljdibhdnckpaaQx53
namespace Go.Proofs.Ytmljdibhdnckpaa.L
open Go.RowKit Go.Proofs.Ytmljdibhdnckpaa.Q Go.Proofs.YtmljdibhdnckpaaW.PrintWords Go.Proofs.YtmljdibhdnckpaaW.PrintLast
set_option linter.unusedVariables false
set_option linter.unusedSimpArgs false
theorem dropIdle_l0 (b : List Bool) (l : List Int) (n : Int) (hb : b.length ≤ 60) (hbl : b.length = l.length) (d : Nat) : ∀ (i : Nat) (o : List Int), i + d = b.length → o.length ≤ i → ∃ r : List Int, r.length ≤ 60 ∧ (∀ k, d < k → spec_DropIdle.l0 k (b.map (!·)) (b.length : Int) (i : Int) n l n o = some (n, r, true)) ∧ (∀ k, d < k → impl_DropIdle.l0 k b (b.length : Int) (i : Int) n l n o = some (n, r, true)) := by
  induction d with
  | zero =>
    intro i o hi ho
    refine ⟨o, by omega, fun k hk => ?_, fun k hk => ?_⟩
    · obtain ⟨k, rfl⟩ : ∃ m, k = m + 1 := ⟨k - 1, by omega⟩
      rw [spec_DropIdle.l0, if_neg (by omega)]
    · obtain ⟨k, rfl⟩ : ∃ m, k = m + 1 := ⟨k - 1, by omega⟩
      rw [impl_DropIdle.l0, if_neg (by omega)]
  | succ d ih =>
    intro i o hi ho
    cases hq : rdOf false b (i : Int) with
    | false =>
      obtain ⟨r, hr, hS, hI⟩ := ih (i + 1) o (by omega) (by omega)
      refine ⟨r, hr, fun k hk => ?_, fun k hk => ?_⟩
      · obtain ⟨k, rfl⟩ : ∃ m, k = m + 1 := ⟨k - 1, by omega⟩
        rw [spec_DropIdle.l0, if_pos (by omega), if_pos (by omega), if_pos (by rw [List.length_map]; omega), rdOf_not b i (by omega), hq, if_pos (by decide), wrap_id (n := (i : Int) + 1) (by omega) (by omega)]
        exact_mod_cast hS k (by omega)
      · obtain ⟨k, rfl⟩ : ∃ m, k = m + 1 := ⟨k - 1, by omega⟩
        rw [impl_DropIdle.l0, if_pos (by omega), if_pos (by omega), if_pos (by omega), hq, if_neg (by decide), wrap_id (n := (i : Int) + 1) (by omega) (by omega)]
        exact_mod_cast hI k (by omega)
    | true =>
      obtain ⟨r, hr, hS, hI⟩ := ih (i + 1) (o ++ [rd l (i : Int)]) (by omega) (by simp; omega)
      refine ⟨r, hr, fun k hk => ?_, fun k hk => ?_⟩
      · obtain ⟨k, rfl⟩ : ∃ m, k = m + 1 := ⟨k - 1, by omega⟩
        rw [spec_DropIdle.l0, if_pos (by omega), if_pos (by omega), if_pos (by rw [List.length_map]; omega), rdOf_not b i (by omega), hq, if_neg (by decide), if_pos (by omega), if_pos (by omega), wrap_id (n := (i : Int) + 1) (by omega) (by omega)]
        exact_mod_cast hS k (by omega)
      · obtain ⟨k, rfl⟩ : ∃ m, k = m + 1 := ⟨k - 1, by omega⟩
        rw [impl_DropIdle.l0, if_pos (by omega), if_pos (by omega), if_pos (by omega), hq, if_pos rfl, if_pos (by omega), if_pos (by omega), wrap_id (n := (i : Int) + 1) (by omega) (by omega)]
        exact_mod_cast hI k (by omega)
theorem core_DropIdle (a : Int) (l : List Int) (w : (Lit.int .i64 a).wf = true) (hb : l.length ≤ 35184372088832) (hw : ∀ x ∈ l, (Lit.int .i64 x).wf = true) :
    ∃ K c m ok, m.length ≤ 35184372088832 ∧ (∀ k, K ≤ k → spec_DropIdle.f k a l = some (c, m, ok)) ∧ (∀ k, K ≤ k → impl_DropIdle.f k a l = some (c, m, ok)) := by
  by_cases h : isLadder a l = true
  · obtain ⟨h1, h2, h3, h4⟩ := isLadder_wires h
    obtain ⟨n, rfl⟩ : ∃ n : Nat, a = n := ⟨a.toNat, by omega⟩
    obtain ⟨b, hbl, hS, hI⟩ := idle_busy n (by omega) l h3 h4
    obtain ⟨r, hr, hS2, hI2⟩ := dropIdle_l0 b l (n : Int) (by omega) hbl b.length 0 [] (by omega) (by simp)
    refine ⟨40000, n, r, true, by omega, fun k hk => ?_, fun k hk => ?_⟩
    · unfold spec_DropIdle.f
      rw [laGood n l hb k (by omega), Option.bind_some, h, if_pos rfl, hS k (by omega), Option.bind_some, List.length_map]
      exact hS2 k (by omega)
    · unfold impl_DropIdle.f
      rw [isLadder_eq, Option.bind_some, h, if_pos rfl, hI k (by omega), Option.bind_some]
      exact hI2 k (by omega)
  · refine ⟨l.length + 3, 0, [], false, by simp, fun k hk => ?_, fun k hk => ?_⟩
    · simp [spec_DropIdle.f, laGood a l hb k (by omega), h]
    · simp [impl_DropIdle.f, isLadder_eq, h]
end Go.Proofs.Ytmljdibhdnckpaa.L
