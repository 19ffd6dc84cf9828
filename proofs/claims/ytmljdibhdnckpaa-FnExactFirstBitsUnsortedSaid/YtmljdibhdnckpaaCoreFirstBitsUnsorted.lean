/- FirstBitsUnsorted: the program's function and the reference's answer the same, for ladders that fit into memory. -/
import Derived.Test.YtmljdibhdnckpaaLibSorting
import Derived.Test.YtmljdibhdnckpaaQx34
import Derived.Test.YtmljdibhdnckpaaQx48
namespace Go.Proofs.Ytmljdibhdnckpaa.L
open Go.RowKit Go.Proofs.Ytmljdibhdnckpaa.Q Go.Proofs.YtmljdibhdnckpaaW.PrintWords Go.Proofs.YtmljdibhdnckpaaW.PrintLast
set_option linter.unusedVariables false
set_option linter.unusedSimpArgs false
theorem firstBits_keep (k : Nat) (l o : List Int) (ho : o ≠ []) (n : Nat) (hn : 0 < n) : ∀ d x, bitsFold (impl_FirstBitsUnsorted.step k l) n d x o = some o
  | 0, _ => rfl
  | d + 1, x => by
    have hx : bitsV n x ≠ [] := fun h => by have := bitsV_length n x; rw [h] at this; simp at this; omega
    rw [bitsFold, show impl_FirstBitsUnsorted.step k l o (bitsV n x) = some o from by unfold impl_FirstBitsUnsorted.step; rw [if_neg hx, if_neg ho], Option.bind_some]
    exact firstBits_keep k l o ho n hn d (x + 1)
theorem firstBits_l0 (n : Nat) (hn : n ≤ 8) (hn0 : 0 < n) (l : List Int) (h3 : l.length ≤ 60) (h4 : ∀ r ∈ l, 0 ≤ r ∧ r ≤ (n : Int) - 2) (d : Nat) : ∀ x : Nat, x + d = 2 ^ n → ∃ r : List Int, r.length ≤ 8 ∧ (∀ k, d + 90 ≤ k → spec_FirstBitsUnsorted.l0 k (x : Int) (n : Int) l = some (r, !r.isEmpty)) ∧ (∀ k, 90 ≤ k → bitsFold (impl_FirstBitsUnsorted.step k l) n d x [] = some r) := by
  have hp := pow_le n hn
  have hsh := shl_fin n (List.mem_range.2 (by omega))
  induction d with
  | zero =>
    intro x hx
    refine ⟨[], by simp, fun k hk => ?_, fun k hk => rfl⟩
    obtain ⟨k, rfl⟩ : ∃ m, k = m + 1 := ⟨k - 1, by omega⟩
    simp only [spec_FirstBitsUnsorted.l0]
    rw [if_pos (by omega), hsh, if_neg (by omega)]
    rfl
  | succ d ih =>
    intro x hx
    have hr : ∀ r ∈ l, 0 ≤ r ∧ r ≤ ((bitsL n x).length : Int) - 2 := by rw [bitsL_length]; exact h4
    have hne : bitsL n x ≠ [] := fun h => by have := bitsL_length n x; rw [h] at this; simp at this; omega
    have eS : ∀ k, d + 90 ≤ k → spec_FirstBitsUnsorted.l0 (k + 1) (x : Int) (n : Int) l = if srtB (runV l (bitsL n x)) = true then spec_FirstBitsUnsorted.l0 k ((x : Int) + 1) (n : Int) l else some (bitsL n x, true) := by
      intro k hk
      simp only [spec_FirstBitsUnsorted.l0]
      rw [if_pos (by omega), hsh, if_pos (by omega), soBits n x hn (by omega) k (by omega), Option.bind_some, soSorted l (bitsL n x) (by omega) (by rw [bitsL_length]; omega) hr k (by rw [bitsL_length]; omega), Option.bind_some, wrap_id (n := (x : Int) + 1) (by omega) (by omega)]
    have eI : ∀ k, 90 ≤ k → impl_FirstBitsUnsorted.step k l [] (bitsV n x) = some (if srtB (runV l (bitsL n x)) = true then [] else bitsL n x) := by
      intro k hk
      unfold impl_FirstBitsUnsorted.step
      rw [show bitsV n x = bitsL n x from rfl, if_neg hne, if_pos rfl, sorted l (bitsL n x) (by omega) (by rw [bitsL_length]; omega) hr k (by omega), Option.bind_some, isSorted _ (by rw [runV_length, bitsL_length]; omega) k (by rw [runV_length, bitsL_length]; omega), Option.bind_some]
    cases hq : srtB (runV l (bitsL n x)) with
    | true =>
      obtain ⟨r, hl, hS, hI⟩ := ih (x + 1) (by omega)
      refine ⟨r, hl, fun k hk => ?_, fun k hk => ?_⟩
      · obtain ⟨k, rfl⟩ : ∃ m, k = m + 1 := ⟨k - 1, by omega⟩
        rw [eS k (by omega), hq, if_pos rfl]
        exact_mod_cast hS k (by omega)
      · rw [bitsFold, eI k hk, Option.bind_some, hq, if_pos rfl]
        exact hI k hk
    | false =>
      refine ⟨bitsL n x, by rw [bitsL_length]; exact hn, fun k hk => ?_, fun k hk => ?_⟩
      · obtain ⟨k, rfl⟩ : ∃ m, k = m + 1 := ⟨k - 1, by omega⟩
        rw [eS k (by omega), hq, if_neg (by decide)]
        congr 2
        cases hb : bitsL n x with
        | nil => exact absurd hb hne
        | cons a b => rfl
      · rw [bitsFold, eI k hk, Option.bind_some, hq, if_neg (by decide)]
        exact firstBits_keep k l _ hne n hn0 d (x + 1)
theorem core_FirstBitsUnsorted (a : Int) (l : List Int) (w : (Lit.int .i64 a).wf = true) (hb : l.length ≤ 35184372088832) (hw : ∀ x ∈ l, (Lit.int .i64 x).wf = true) :
    ∃ K m ok, m.length ≤ 35184372088832 ∧ (∀ k, K ≤ k → spec_FirstBitsUnsorted.f k a l = some (m, ok)) ∧ (∀ k, K ≤ k → impl_FirstBitsUnsorted.f k a l = some (m, ok)) := by
  by_cases h : isLadder a l = true
  · obtain ⟨h1, h2, h3, h4⟩ := isLadder_wires h
    obtain ⟨n, rfl⟩ : ∃ n : Nat, a = n := ⟨a.toNat, by omega⟩
    have hp := pow_le n (by omega)
    obtain ⟨r, hl, hS, hI⟩ := firstBits_l0 n (by omega) (by omega) l h3 h4 (2 ^ n) 0 (by omega)
    refine ⟨500, r, !r.isEmpty, by omega, fun k hk => ?_, fun k hk => ?_⟩
    · have := hS k (by omega)
      simpa [spec_FirstBitsUnsorted.f, laGood n l hb k (by omega), h] using this
    · have := hI k (by omega)
      simp [impl_FirstBitsUnsorted.f, isLadder_eq, h, this]
  · refine ⟨l.length + 3, [], false, by simp, fun k hk => ?_, fun k hk => ?_⟩
    · simp [spec_FirstBitsUnsorted.f, laGood a l hb k (by omega), h]
    · simp [impl_FirstBitsUnsorted.f, isLadder_eq, h]
end Go.Proofs.Ytmljdibhdnckpaa.L
