/- Places of turned orders, as the program and the reference tell them; for turned orders and numbers up to a million. -/
import Derived.Test.YtgjamcfnpofbhaaLibIsTurned
import Derived.Test.YtgjamcfnpofbhaaQx22
import Derived.Test.YtgjamcfnpofbhaaQx24
namespace Go.Proofs.Ytgjamcfnpofbhaa.L
open Go.RowKit Go.Proofs.Ytgjamcfnpofbhaa.Q Go.Proofs.YtgjamcfnpofbhaaW.PrintWords Go.Proofs.YtgjamcfnpofbhaaW.PrintLast
set_option linter.unusedVariables false
set_option linter.unusedSimpArgs false
theorem place_same (p w : List Int) (i : Int) : impl_Turned_place.f p w i = spec_poPlace.f p w i := rfl
/-- The place of i. -/
def placeV (p w : List Int) (i : Int) : Int := rd p (i % (p.length : Int)) + (p.length : Int) * rd w (i % (p.length : Int)) + i - i % (p.length : Int)
theorem tmod_pos (i n : Int) (hn : 3 ≤ n ∧ n ≤ 8) : Int.tmod (Int.tmod i n + n) n = i % n := by
  by_cases h : 0 ≤ i
  · rw [Int.tmod_eq_emod_of_nonneg h, Int.tmod_eq_emod_of_nonneg (by have := Int.emod_nonneg i (show n ≠ 0 by omega); omega), Int.add_emod_right, Int.emod_emod_of_dvd _ (Int.dvd_refl n)]
  · obtain ⟨m, rfl⟩ : ∃ m, i = -m := ⟨-i, by omega⟩
    rw [Int.neg_tmod, Int.tmod_eq_emod_of_nonneg (show 0 ≤ m by omega)]
    have h1 := Int.emod_lt_of_pos m (show 0 < n by omega)
    rw [Int.tmod_eq_emod_of_nonneg (by omega)]
    have hc : n = 3 ∨ n = 4 ∨ n = 5 ∨ n = 6 ∨ n = 7 ∨ n = 8 := by omega
    rcases hc with rfl | rfl | rfl | rfl | rfl | rfl <;> omega
theorem tmod_small (i n : Int) (hn : 3 ≤ n ∧ n ≤ 8) : -n < Int.tmod i n ∧ Int.tmod i n < n := by
  by_cases h : 0 ≤ i
  · rw [Int.tmod_eq_emod_of_nonneg h]
    have h1 := Int.emod_lt_of_pos i (show 0 < n by omega)
    have h2 := Int.emod_nonneg i (show n ≠ 0 by omega)
    omega
  · obtain ⟨m, rfl⟩ : ∃ m, i = -m := ⟨-i, by omega⟩
    rw [Int.neg_tmod, Int.tmod_eq_emod_of_nonneg (show 0 ≤ m by omega)]
    have h1 := Int.emod_lt_of_pos m (show 0 < n by omega)
    have h2 := Int.emod_nonneg m (show n ≠ 0 by omega)
    omega
theorem rd_mem (l : List Int) (i : Int) (h0 : 0 ≤ i) (h : i < (l.length : Int)) : rd l i ∈ l := by
  obtain ⟨j, rfl⟩ : ∃ j : Nat, i = j := ⟨i.toNat, by omega⟩
  rw [rd_nat l j (by omega)]
  exact List.getElem_mem _
theorem place_at (p w : List Int) (h : isTur p w = true) (i : Int) (hi : -1000000 ≤ i ∧ i ≤ 1000000) : spec_poPlace.f p w i = some (placeV p w i) ∧ i - 21 * (p.length : Int) < placeV p w i ∧ placeV p w i < i + 21 * (p.length : Int) := by
  obtain ⟨f1, f2, f3, f4, f5, f6, f7⟩ := isTur_facts h
  have hn : 3 ≤ (p.length : Int) ∧ (p.length : Int) ≤ 8 := by omega
  have e1 := tmod_pos i (p.length : Int) hn
  have e2 := tmod_small i (p.length : Int) hn
  have k0 := Int.emod_nonneg i (show (p.length : Int) ≠ 0 by omega)
  have k1 := Int.emod_lt_of_pos i (show 0 < (p.length : Int) by omega)
  have m1 := f5 _ (rd_mem p (i % (p.length : Int)) k0 k1)
  have m2 := f6 _ (rd_mem w (i % (p.length : Int)) k0 (by omega))
  have m3 : -160 ≤ (p.length : Int) * rd w (i % (p.length : Int)) ∧ (p.length : Int) * rd w (i % (p.length : Int)) ≤ 160 ∧ -20 * (p.length : Int) ≤ (p.length : Int) * rd w (i % (p.length : Int)) ∧ (p.length : Int) * rd w (i % (p.length : Int)) ≤ 20 * (p.length : Int) := by
    generalize rd w (i % (p.length : Int)) = x at m2
    have hc : (p.length : Int) = 3 ∨ (p.length : Int) = 4 ∨ (p.length : Int) = 5 ∨ (p.length : Int) = 6 ∨ (p.length : Int) = 7 ∨ (p.length : Int) = 8 := by omega
    rcases hc with hc | hc | hc | hc | hc | hc <;> rw [hc] <;> omega
  refine ⟨?_, ?_, ?_⟩
  · unfold spec_poPlace.f
    rw [wrap_id (n := Int.tmod i (p.length : Int) + (p.length : Int)) (by omega) (by omega), e1, if_neg (by omega), if_pos k0, if_pos k1, if_pos (by omega),
      wrap_id (n := (p.length : Int) * rd w (i % (p.length : Int))) (by omega) (by omega), wrap_id (n := rd p (i % (p.length : Int)) + (p.length : Int) * rd w (i % (p.length : Int))) (by omega) (by omega),
      wrap_id (n := rd p (i % (p.length : Int)) + (p.length : Int) * rd w (i % (p.length : Int)) + i) (by omega) (by omega), wrap_id (by omega) (by omega)]
    rfl
  · unfold placeV; omega
  · unfold placeV; omega
end Go.Proofs.Ytgjamcfnpofbhaa.L
