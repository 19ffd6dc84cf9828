/- Sorted lists, noughts and ones, and 'is sorting', as the program and the reference tell them; for ladders of at most eight wires and sixty rungs, and lists that fit into memory. -/
import Derived.Test.YtmljdibhdnckpaaLibSort
import Derived.Test.YtmljdibhdnckpaaLibRev
import Derived.Test.YtmljdibhdnckpaaLibAll
import Derived.Test.YtmljdibhdnckpaaQx1
import Derived.Test.YtmljdibhdnckpaaQx12
import Derived.Test.YtmljdibhdnckpaaQx15
import Derived.Test.YtmljdibhdnckpaaQx26
namespace Go.Proofs.Ytmljdibhdnckpaa.L
open Go.RowKit Go.Proofs.Ytmljdibhdnckpaa.Q Go.Proofs.YtmljdibhdnckpaaW.PrintWords Go.Proofs.YtmljdibhdnckpaaW.PrintLast
set_option linter.unusedVariables false
set_option linter.unusedSimpArgs false
theorem lift_k {α : Type} {f : Nat → Option α} (h : ∀ k, LeO (f k) (f (k + 1))) {K : Nat} {r : α} (hk : f K = some r) : ∀ k, K ≤ k → f k = some r := by
  intro k hle
  induction hle with
  | refl => exact hk
  | step _ ih => exact h _ _ ih
theorem less_eq (a b : Int) : cmp_Less_int.f a b = some (decide (a < b)) := by
  simp [cmp_Less_int.f, cmp_isNaN_int.f]
theorem isSorted_l0 (v : List Int) (hb : v.length ≤ 35184372088832) : ∀ (i k : Nat), i < v.length → i < k → slices_IsSorted_int_int.l0 k v (i : Int) = some (decide (∀ j, j < i → v.getD j 0 ≤ v.getD (j + 1) 0))
  | 0, k, hi, hk => by
    obtain ⟨k, rfl⟩ : ∃ m, k = m + 1 := ⟨k - 1, by omega⟩
    simp only [slices_IsSorted_int_int.l0]
    rw [if_neg (by omega), decide_eq_true (by intro j hj; omega)]
  | i + 1, k, hi, hk => by
    obtain ⟨k, rfl⟩ : ∃ m, k = m + 1 := ⟨k - 1, by omega⟩
    have ih := isSorted_l0 v hb i k (by omega) (by omega)
    simp only [slices_IsSorted_int_int.l0]
    have e : (((i + 1 : Nat) : Int)) - 1 = (i : Int) := by omega
    rw [e, wrap_id (n := (i : Int)) (by omega) (by omega), if_pos (by omega), if_pos (by omega), if_pos (by omega), if_pos (by omega), if_pos (by omega), less_eq, Option.bind_some]
    have e1 : rd v (((i + 1 : Nat)) : Int) = v.getD (i + 1) 0 := rfl
    have e2 : rd v (i : Int) = v.getD i 0 := rfl
    rw [e1, e2]
    by_cases h : v.getD (i + 1) 0 < v.getD i 0
    · rw [decide_eq_true h, if_pos rfl, decide_eq_false]
      intro h2
      have := h2 i (by omega)
      omega
    · rw [decide_eq_false h, if_neg (by decide), ih]
      congr 1
      apply decide_eq_decide.2
      constructor
      · intro h2 j hj
        by_cases hji : j = i
        · subst hji; omega
        · exact h2 j (by omega)
      · intro h2 j hj
        exact h2 j (by omega)
theorem isSorted (v : List Int) (hb : v.length ≤ 35184372088832) (k : Nat) (hk : v.length + 1 ≤ k) : slices_IsSorted_int_int.f k v = some (srtB v) := by
  unfold slices_IsSorted_int_int.f
  rw [wrap_id (by omega) (by omega)]
  by_cases h0 : v.length = 0
  · obtain rfl := List.eq_nil_of_length_eq_zero h0
    obtain ⟨k, rfl⟩ : ∃ m, k = m + 1 := ⟨k - 1, by omega⟩
    simp [slices_IsSorted_int_int.l0, srtB]
  · rw [show (v.length : Int) - 1 = ((v.length - 1 : Nat) : Int) from by omega, isSorted_l0 v hb _ k (by omega) (by omega)]
    congr 1
    rw [Bool.eq_iff_iff, decide_eq_true_eq, srtB_iff]
    exact ⟨fun h i hi => h i (by omega), fun h i hi => h i (by omega)⟩
theorem soSorted_l0 (v : List Int) (hb : v.length ≤ 35184372088832) (d : Nat) : ∀ (i k : Nat), i + d = v.length → 1 ≤ i → d < k → (∀ j, j + 1 < i → v.getD j 0 ≤ v.getD (j + 1) 0) → spec_soSorted.l0 k v (i : Int) = some (srtB v) := by
  induction d with
  | zero =>
    intro i k hi h1 hk hs
    obtain ⟨k, rfl⟩ : ∃ m, k = m + 1 := ⟨k - 1, by omega⟩
    simp only [spec_soSorted.l0]
    rw [if_neg (by omega), (srtB_iff v).2 (fun j hj => hs j (by omega))]
  | succ d ih =>
    intro i k hi h1 hk hs
    obtain ⟨k, rfl⟩ : ∃ m, k = m + 1 := ⟨k - 1, by omega⟩
    simp only [spec_soSorted.l0]
    rw [if_pos (by omega), wrap_id (n := (i : Int) - 1) (by omega) (by omega), if_pos (by omega), if_pos (by omega), if_pos (by omega), show (i : Int) - 1 = ((i - 1 : Nat) : Int) from by omega]
    have e1 : rd v (((i - 1 : Nat)) : Int) = v.getD (i - 1) 0 := rfl
    have e2 : rd v (i : Int) = v.getD i 0 := rfl
    rw [e1, e2]
    by_cases h : v.getD (i - 1) 0 > v.getD i 0
    · rw [if_pos h]
      congr 1
      cases hv : srtB v with
      | false => rfl
      | true =>
        have := (srtB_iff v).1 hv (i - 1) (by omega)
        rw [show i - 1 + 1 = i from by omega] at this
        omega
    · rw [if_neg h, wrap_id (by omega) (by omega)]
      have := ih (i + 1) k (by omega) (by omega) (by omega) (fun j hj => by
        by_cases hji : j + 1 = i
        · rw [show j = i - 1 from by omega, show i - 1 + 1 = i from by omega]
          omega
        · exact hs j (by omega))
      exact_mod_cast this
theorem soSorted (rs v : List Int) (hb : rs.length ≤ 8796093022208) (hv : v.length ≤ 35184372088832 / 4) (hr : ∀ r ∈ rs, 0 ≤ r ∧ r ≤ (v.length : Int) - 2) (k : Nat) (hk : rs.length + v.length + 2 ≤ k) : spec_soSorted.f k rs v = some (srtB (runV rs v)) := by
  unfold spec_soSorted.f
  rw [soRun rs v hb hv hr k (by omega), Option.bind_some]
  have hl := runV_length rs v
  by_cases h0 : v.length = 0
  · obtain ⟨k, rfl⟩ : ∃ m, k = m + 1 := ⟨k - 1, by omega⟩
    have h1 : runV rs v = [] := List.eq_nil_of_length_eq_zero (by omega)
    simp [h1, spec_soSorted.l0, srtB]
  · exact_mod_cast soSorted_l0 (runV rs v) (by omega) (v.length - 1) 1 k (by omega) (by omega) (by omega) (fun j hj => by omega)
/-- The noughts and ones of a number, the greatest place first. -/
def bitsL (n x : Nat) : List Int := (List.range n).map fun i => ((x / 2 ^ (n - 1 - i) % 2 : Nat) : Int)
theorem bitsL_length (n x : Nat) : (bitsL n x).length = n := by simp [bitsL]
theorem soBits_fin : ∀ n ∈ List.range 9, ∀ x ∈ List.range (2 ^ n), spec_soBits.f 12 (n : Int) (x : Int) = some (bitsL n x) := by decide +kernel
theorem soBits (n x : Nat) (hn : n ≤ 8) (hx : x < 2 ^ n) (k : Nat) (hk : 12 ≤ k) : spec_soBits.f k (n : Int) (x : Int) = some (bitsL n x) :=
  lift_k (f := fun k => spec_soBits.f k (n : Int) (x : Int)) (fun k => spec_soBits.mono _ _ k) (soBits_fin n (List.mem_range.2 (by omega)) x (List.mem_range.2 hx)) k hk
theorem shl_fin : ∀ n ∈ List.range 9, shl .i64 1 (n : Int) = ((2 ^ n : Nat) : Int) := by decide +kernel
theorem ones_fin : ∀ n ∈ List.range 9, ∀ a ∈ List.range (n + 1), oneso a n = bitsL n (2 ^ n - 2 ^ (n - a)) := by decide +kernel
theorem pow_le (n : Nat) (hn : n ≤ 8) : 2 ^ n ≤ 256 := Nat.pow_le_pow_right (n := 2) (by omega) hn
theorem soAll_l0 (n : Nat) (hn : n ≤ 8) (rs : List Int) (hb : rs.length ≤ 60) (hr : ∀ r ∈ rs, 0 ≤ r ∧ r ≤ (n : Int) - 2) (d : Nat) : ∀ (x k : Nat), x + d = 2 ^ n → d + 80 ≤ k → (∀ y, y < x → srtB (runV rs (bitsL n y)) = true) → spec_soAll.l0 k (n : Int) rs (x : Int) = some (srtB (runV rs (down n))) := by
  have hp := pow_le n hn
  have hsh := shl_fin n (List.mem_range.2 (by omega))
  induction d with
  | zero =>
    intro x k hx hk hs
    obtain ⟨k, rfl⟩ : ∃ m, k = m + 1 := ⟨k - 1, by omega⟩
    simp only [spec_soAll.l0]
    rw [if_pos (by omega), hsh, if_neg (by omega)]
    congr 1
    symm
    refine all_down n rs hr (fun a ha => ?_)
    rw [ones_fin n (List.mem_range.2 (by omega)) a (List.mem_range.2 (by omega))]
    have : 0 < 2 ^ (n - a) := Nat.pow_pos (by omega)
    have h2 : 0 < 2 ^ n := Nat.pow_pos (by omega)
    exact hs _ (by omega)
  | succ d ih =>
    intro x k hx hk hs
    obtain ⟨k, rfl⟩ : ∃ m, k = m + 1 := ⟨k - 1, by omega⟩
    simp only [spec_soAll.l0]
    rw [if_pos (by omega), hsh, if_pos (by omega), soBits n x hn (by omega) k (by omega), Option.bind_some, soSorted rs (bitsL n x) (by omega) (by rw [bitsL_length]; omega) (by rw [bitsL_length]; exact hr) k (by rw [bitsL_length]; omega), Option.bind_some]
    cases hq : srtB (runV rs (bitsL n x)) with
    | true =>
      rw [if_pos rfl, wrap_id (by omega) (by omega)]
      have := ih (x + 1) k (by omega) (by omega) (fun y hy => by
        by_cases hyx : y = x
        · rw [hyx, hq]
        · exact hs y (by omega))
      exact_mod_cast this
    | false =>
      rw [if_neg (by decide)]
      congr 1
      cases hd : srtB (runV rs (down n)) with
      | false => rfl
      | true => rw [← hq, down_all n rs hr hd _ (bitsL_length n x)]
theorem soAll (n : Nat) (hn : n ≤ 8) (rs : List Int) (hb : rs.length ≤ 60) (hr : ∀ r ∈ rs, 0 ≤ r ∧ r ≤ (n : Int) - 2) (k : Nat) (hk : 400 ≤ k) : spec_soAll.f k (n : Int) rs = some (srtB (runV rs (down n))) := by
  have hp := pow_le n hn
  unfold spec_soAll.f
  exact_mod_cast soAll_l0 n hn rs hb hr (2 ^ n) 0 k (by omega) (by omega) (fun y hy => by omega)
/-- 0, 1, .. -/
def idL (n : Nat) : List Int := (List.range n).map fun (i : Nat) => (i : Int)
theorem idL_length (n : Nat) : (idL n).length = n := by simp [idL]
theorem identity_fin : ∀ n ∈ List.range 9, impl_identity.f 12 (n : Int) = some (idL n) := by decide +kernel
theorem rev_fin : ∀ n ∈ List.range 9, (idL n).reverse = down n := by decide +kernel
theorem isSorting (n : Nat) (hn : n ≤ 8) (rs : List Int) (hb : rs.length ≤ 60) (hr : ∀ r ∈ rs, 0 ≤ r ∧ r ≤ (n : Int) - 2) (k : Nat) (hk : 400 ≤ k) : impl_isSorting.f k (n : Int) rs = some (srtB (runV rs (down n))) := by
  have e1 : impl_identity.f k (n : Int) = some (idL n) := lift_k (f := fun k => impl_identity.f k (n : Int)) (fun k => impl_identity.mono _ k) (identity_fin n (List.mem_range.2 (by omega))) k (by omega)
  unfold impl_isSorting.f
  rw [e1, Option.bind_some, reverseI _ (by rw [idL_length]; omega) k (by rw [idL_length]; omega), Option.bind_some, rev_fin n (List.mem_range.2 (by omega)), sorted rs (down n) (by omega) (by rw [down_length]; omega) (by rw [down_length]; exact hr) k (by omega), Option.bind_some, isSorted _ (by rw [runV_length, down_length]; omega) k (by rw [runV_length, down_length]; omega), Option.bind_some]
end Go.Proofs.Ytmljdibhdnckpaa.L
