/- CountBitsSorted: the program's function and the reference's answer the same, for ladders that fit into memory. -/
import Derived.Test.YtmljdibhdnckpaaLibSorting
import Derived.Test.YtmljdibhdnckpaaQx25
import Derived.Test.YtmljdibhdnckpaaQx45
namespace Go.Proofs.Ytmljdibhdnckpaa.L
open Go.RowKit Go.Proofs.Ytmljdibhdnckpaa.Q Go.Proofs.YtmljdibhdnckpaaW.PrintWords Go.Proofs.YtmljdibhdnckpaaW.PrintLast
set_option linter.unusedVariables false
set_option linter.unusedSimpArgs false
theorem countBits_l0 (n : Nat) (hn : n ≤ 8) (l : List Int) (h3 : l.length ≤ 60) (h4 : ∀ r ∈ l, 0 ≤ r ∧ r ≤ (n : Int) - 2) (d : Nat) : ∀ (x : Nat) (m : Int), x + d = 2 ^ n → ∃ r : Int, (∀ k, d + 90 ≤ k → spec_CountBitsSorted.l0 k m (x : Int) (n : Int) l = some (r, true)) ∧ (∀ k, 90 ≤ k → bitsFold (impl_CountBitsSorted.step k l) n d x m = some r) := by
  have hp := pow_le n hn
  have hsh := shl_fin n (List.mem_range.2 (by omega))
  induction d with
  | zero =>
    intro x m hx
    refine ⟨m, fun k hk => ?_, fun k hk => rfl⟩
    obtain ⟨k, rfl⟩ : ∃ m, k = m + 1 := ⟨k - 1, by omega⟩
    simp only [spec_CountBitsSorted.l0]
    rw [if_pos (by omega), hsh, if_neg (by omega)]
  | succ d ih =>
    intro x m hx
    obtain ⟨r, hS, hI⟩ := ih (x + 1) (if srtB (runV l (bitsL n x)) = true then wrap64 (m + 1) else m) (by omega)
    have hr : ∀ r ∈ l, 0 ≤ r ∧ r ≤ ((bitsL n x).length : Int) - 2 := by rw [bitsL_length]; exact h4
    refine ⟨r, fun k hk => ?_, fun k hk => ?_⟩
    · obtain ⟨k, rfl⟩ : ∃ m, k = m + 1 := ⟨k - 1, by omega⟩
      simp only [spec_CountBitsSorted.l0]
      rw [if_pos (by omega), hsh, if_pos (by omega), soBits n x hn (by omega) k (by omega), Option.bind_some, soSorted l (bitsL n x) (by omega) (by rw [bitsL_length]; omega) hr k (by rw [bitsL_length]; omega), Option.bind_some, wrap_id (n := (x : Int) + 1) (by omega) (by omega)]
      have := hS k (by omega)
      split <;> simp_all
    · have e : impl_CountBitsSorted.step k l m (bitsV n x) = some (if srtB (runV l (bitsL n x)) = true then wrap64 (m + 1) else m) := by
        unfold impl_CountBitsSorted.step
        rw [show bitsV n x = bitsL n x from rfl, sorted l (bitsL n x) (by omega) (by rw [bitsL_length]; omega) hr k (by omega), Option.bind_some, isSorted _ (by rw [runV_length, bitsL_length]; omega) k (by rw [runV_length, bitsL_length]; omega), Option.bind_some]
      rw [bitsFold, e, Option.bind_some]
      exact hI k hk
theorem core_CountBitsSorted (a : Int) (l : List Int) (w : (Lit.int .i64 a).wf = true) (hb : l.length ≤ 35184372088832) (hw : ∀ x ∈ l, (Lit.int .i64 x).wf = true) :
    ∃ K s ok, (∀ k, K ≤ k → spec_CountBitsSorted.f k a l = some (s, ok)) ∧ (∀ k, K ≤ k → impl_CountBitsSorted.f k a l = some (s, ok)) := by
  by_cases h : isLadder a l = true
  · obtain ⟨h1, h2, h3, h4⟩ := isLadder_wires h
    obtain ⟨n, rfl⟩ : ∃ n : Nat, a = n := ⟨a.toNat, by omega⟩
    have hp := pow_le n (by omega)
    obtain ⟨r, hS, hI⟩ := countBits_l0 n (by omega) l h3 h4 (2 ^ n) 0 0 (by omega)
    refine ⟨500, r, true, fun k hk => ?_, fun k hk => ?_⟩
    · have := hS k (by omega)
      simpa [spec_CountBitsSorted.f, laGood n l hb k (by omega), h] using this
    · have := hI k (by omega)
      simp [impl_CountBitsSorted.f, isLadder_eq, h, this]
  · refine ⟨l.length + 3, 0, false, fun k hk => ?_, fun k hk => ?_⟩
    · simp [spec_CountBitsSorted.f, laGood a l hb k (by omega), h]
    · simp [impl_CountBitsSorted.f, isLadder_eq, h]
end Go.Proofs.Ytmljdibhdnckpaa.L
