/- LeastBeginning: the program's function and the reference's answer the same, for ladders that fit into memory. -/
import Derived.Test.YtmljdibhdnckpaaLibSorting
import Derived.Test.YtmljdibhdnckpaaQx31
import Derived.Test.YtmljdibhdnckpaaQx32
namespace Go.Proofs.Ytmljdibhdnckpaa.L
open Go.RowKit Go.Proofs.Ytmljdibhdnckpaa.Q Go.Proofs.YtmljdibhdnckpaaW.PrintWords Go.Proofs.YtmljdibhdnckpaaW.PrintLast
set_option linter.unusedVariables false
set_option linter.unusedSimpArgs false
theorem leastBeginning_l0 (n : Nat) (hn : n ≤ 8) (l : List Int) (h3 : l.length ≤ 60) (h4 : ∀ r ∈ l, 0 ≤ r ∧ r ≤ (n : Int) - 2) (d : Nat) : ∀ i : Nat, i + d = l.length + 1 → ∃ r : Int × Bool, (∀ k, d + 401 ≤ k → spec_LeastBeginning.l0 k (i : Int) (n : Int) l = some r) ∧ (∀ k, d + 401 ≤ k → impl_LeastBeginning.l0 k ((l.length : Int) + 1) (i : Int) (n : Int) l = some r) := by
  induction d with
  | zero =>
    intro i hi
    refine ⟨(0, false), fun k hk => ?_, fun k hk => ?_⟩
    · obtain ⟨k, rfl⟩ : ∃ m, k = m + 1 := ⟨k - 1, by omega⟩
      simp only [spec_LeastBeginning.l0]
      rw [if_neg (by omega)]
    · obtain ⟨k, rfl⟩ : ∃ m, k = m + 1 := ⟨k - 1, by omega⟩
      simp only [impl_LeastBeginning.l0]
      rw [if_neg (by omega)]
  | succ d ih =>
    intro i hi
    obtain ⟨r, hS, hI⟩ := ih (i + 1) (by omega)
    have ht : (l.take i).length ≤ 60 := by rw [List.length_take]; omega
    have ht2 : ∀ r ∈ l.take i, 0 ≤ r ∧ r ≤ (n : Int) - 2 := fun r hr => h4 r (List.mem_of_mem_take hr)
    refine ⟨if srtB (runV (l.take i) (down n)) = true then ((i : Int), true) else r, fun k hk => ?_, fun k hk => ?_⟩
    · obtain ⟨k, rfl⟩ : ∃ m, k = m + 1 := ⟨k - 1, by omega⟩
      simp only [spec_LeastBeginning.l0]
      rw [if_pos (by omega), if_pos (by omega), Int.toNat_natCast, soAll n hn (l.take i) ht ht2 k (by omega), Option.bind_some, wrap_id (by omega) (by omega)]
      split
      · rfl
      · exact_mod_cast hS k (by omega)
    · obtain ⟨k, rfl⟩ : ∃ m, k = m + 1 := ⟨k - 1, by omega⟩
      simp only [impl_LeastBeginning.l0]
      rw [if_pos (by omega), if_pos (by omega), if_pos (by omega), Int.toNat_natCast, isSorting n hn (l.take i) ht ht2 k (by omega), Option.bind_some, wrap_id (by omega) (by omega)]
      split
      · rfl
      · exact_mod_cast hI k (by omega)
theorem core_LeastBeginning (a : Int) (l : List Int) (w : (Lit.int .i64 a).wf = true) (hb : l.length ≤ 35184372088832) (hw : ∀ x ∈ l, (Lit.int .i64 x).wf = true) :
    ∃ K s ok, (∀ k, K ≤ k → spec_LeastBeginning.f k a l = some (s, ok)) ∧ (∀ k, K ≤ k → impl_LeastBeginning.f k a l = some (s, ok)) := by
  by_cases h : isLadder a l = true
  · obtain ⟨h1, h2, h3, h4⟩ := isLadder_wires h
    obtain ⟨n, rfl⟩ : ∃ n : Nat, a = n := ⟨a.toNat, by omega⟩
    obtain ⟨⟨s, ok⟩, hS, hI⟩ := leastBeginning_l0 n (by omega) l h3 h4 (l.length + 1) 0 (by omega)
    refine ⟨l.length + 500, s, ok, fun k hk => ?_, fun k hk => ?_⟩
    · have := hS k (by omega)
      simpa [spec_LeastBeginning.f, laGood n l hb k (by omega), h] using this
    · have := hI k (by omega)
      simpa [impl_LeastBeginning.f, isLadder_eq, h, wrap_id (n := (l.length : Int) + 1) (by omega) (by omega)] using this
  · refine ⟨l.length + 3, 0, false, fun k hk => ?_, fun k hk => ?_⟩
    · simp [spec_LeastBeginning.f, laGood a l hb k (by omega), h]
    · simp [impl_LeastBeginning.f, isLadder_eq, h]
end Go.Proofs.Ytmljdibhdnckpaa.L
