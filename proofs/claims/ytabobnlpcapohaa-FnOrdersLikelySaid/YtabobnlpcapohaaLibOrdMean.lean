/- MeanInversions: both answer the same, and between no inversion and one a rung. -/
import Derived.Test.YtabobnlpcapohaaLibPa
import Derived.Test.YtabobnlpcapohaaQm2
import Derived.Test.YtabobnlpcapohaaQm5
import Derived.Test.YtabobnlpcapohaaQm9
namespace Go.Proofs.Ytabobnlpcapohaa.L
open Go.RowKit Go.Proofs.Ytabobnlpcapohaa.Q Go.Proofs.YtabobnlpcapohaaW.PrintWords Go.Proofs.YtabobnlpcapohaaW.PrintLast
set_option linter.unusedSimpArgs false
set_option linter.unusedVariables false
def meanOk (n k : Int) (O : List (List Int)) (T : List Int) : Bool :=
  match spec_MeanInversions.l0 30000 n k O 0 T (T.length : Int) 0, impl_MeanInversions.f 30000 n k with
  | some (a, b, c), some (a', b', c') => decide (a = a' ∧ b = b' ∧ c = true ∧ c' = true ∧ 0 ≤ a ∧ a ≤ wrap64 (k * b))
  | _, _ => false
theorem mean_get {n k : Int} {O : List (List Int)} {T : List Int} (h : meanOk n k O T = true) : ∃ a b, 0 ≤ a ∧ a ≤ wrap64 (k * b) ∧ spec_MeanInversions.l0 30000 n k O 0 T (T.length : Int) 0 = some (a, b, true) ∧ impl_MeanInversions.f 30000 n k = some (a, b, true) := by
  unfold meanOk at h
  split at h
  · rename_i a b c a' b' c' e1 e2
    obtain ⟨rfl, rfl, rfl, rfl, h1, h2⟩ := of_decide_eq_true h
    exact ⟨a, b, h1, h2, e1, e2⟩
  · exact absurd h (by simp)
theorem mi2 : ∀ x ∈ List.range 21, meanOk 2 ((x : Nat) : Int) ordL2 (tab2 x) = true := by decide +kernel
theorem mi3 : ∀ x ∈ List.range 21, meanOk 3 ((x : Nat) : Int) ordL3 (tab3 x) = true := by decide +kernel
theorem mi4 : ∀ x ∈ List.range 21, meanOk 4 ((x : Nat) : Int) ordL4 (tab4 x) = true := by decide +kernel
set_option maxHeartbeats 4000000 in
theorem mi5_0 : ∀ x ∈ List.range 6, meanOk 5 (((x : Nat) : Int) + 0) ordL5 (tab5 (x + 0)) = true := by decide +kernel
set_option maxHeartbeats 4000000 in
theorem mi5_6 : ∀ x ∈ List.range 3, meanOk 5 (((x : Nat) : Int) + 6) ordL5 (tab5 (x + 6)) = true := by decide +kernel
set_option maxHeartbeats 4000000 in
theorem mi5_9 : ∀ x ∈ List.range 1, meanOk 5 (((x : Nat) : Int) + 9) ordL5 (tab5 (x + 9)) = true := by decide +kernel
set_option maxHeartbeats 4000000 in
theorem mi5_10 : ∀ x ∈ List.range 1, meanOk 5 (((x : Nat) : Int) + 10) ordL5 (tab5 (x + 10)) = true := by decide +kernel
set_option maxHeartbeats 4000000 in
theorem mi5_11 : ∀ x ∈ List.range 1, meanOk 5 (((x : Nat) : Int) + 11) ordL5 (tab5 (x + 11)) = true := by decide +kernel
set_option maxHeartbeats 4000000 in
theorem mi5_12 : ∀ x ∈ List.range 1, meanOk 5 (((x : Nat) : Int) + 12) ordL5 (tab5 (x + 12)) = true := by decide +kernel
set_option maxHeartbeats 4000000 in
theorem mi5_13 : ∀ x ∈ List.range 1, meanOk 5 (((x : Nat) : Int) + 13) ordL5 (tab5 (x + 13)) = true := by decide +kernel
set_option maxHeartbeats 4000000 in
theorem mi5_14 : ∀ x ∈ List.range 1, meanOk 5 (((x : Nat) : Int) + 14) ordL5 (tab5 (x + 14)) = true := by decide +kernel
set_option maxHeartbeats 4000000 in
theorem mi5_15 : ∀ x ∈ List.range 1, meanOk 5 (((x : Nat) : Int) + 15) ordL5 (tab5 (x + 15)) = true := by decide +kernel
set_option maxHeartbeats 4000000 in
theorem mi5_16 : ∀ x ∈ List.range 1, meanOk 5 (((x : Nat) : Int) + 16) ordL5 (tab5 (x + 16)) = true := by decide +kernel
set_option maxHeartbeats 4000000 in
theorem mi5_17 : ∀ x ∈ List.range 1, meanOk 5 (((x : Nat) : Int) + 17) ordL5 (tab5 (x + 17)) = true := by decide +kernel
set_option maxHeartbeats 4000000 in
theorem mi5_18 : ∀ x ∈ List.range 1, meanOk 5 (((x : Nat) : Int) + 18) ordL5 (tab5 (x + 18)) = true := by decide +kernel
set_option maxHeartbeats 4000000 in
theorem mi5_19 : ∀ x ∈ List.range 1, meanOk 5 (((x : Nat) : Int) + 19) ordL5 (tab5 (x + 19)) = true := by decide +kernel
set_option maxHeartbeats 4000000 in
theorem mi5_20 : ∀ x ∈ List.range 1, meanOk 5 (((x : Nat) : Int) + 20) ordL5 (tab5 (x + 20)) = true := by decide +kernel
theorem mi5 (k : Nat) (hk : k < 21) : meanOk 5 (k : Int) ordL5 (tab5 k) = true := by
  by_cases c0 : k < 6
  · have h := mi5_0 (k - 0) (List.mem_range.2 (by omega))
    rw [show ((k - 0 : Nat) : Int) + 0 = (k : Int) by omega, show k - 0 + 0 = k by omega] at h
    exact h
  by_cases c1 : k < 9
  · have h := mi5_6 (k - 6) (List.mem_range.2 (by omega))
    rw [show ((k - 6 : Nat) : Int) + 6 = (k : Int) by omega, show k - 6 + 6 = k by omega] at h
    exact h
  by_cases c2 : k < 10
  · have h := mi5_9 (k - 9) (List.mem_range.2 (by omega))
    rw [show ((k - 9 : Nat) : Int) + 9 = (k : Int) by omega, show k - 9 + 9 = k by omega] at h
    exact h
  by_cases c3 : k < 11
  · have h := mi5_10 (k - 10) (List.mem_range.2 (by omega))
    rw [show ((k - 10 : Nat) : Int) + 10 = (k : Int) by omega, show k - 10 + 10 = k by omega] at h
    exact h
  by_cases c4 : k < 12
  · have h := mi5_11 (k - 11) (List.mem_range.2 (by omega))
    rw [show ((k - 11 : Nat) : Int) + 11 = (k : Int) by omega, show k - 11 + 11 = k by omega] at h
    exact h
  by_cases c5 : k < 13
  · have h := mi5_12 (k - 12) (List.mem_range.2 (by omega))
    rw [show ((k - 12 : Nat) : Int) + 12 = (k : Int) by omega, show k - 12 + 12 = k by omega] at h
    exact h
  by_cases c6 : k < 14
  · have h := mi5_13 (k - 13) (List.mem_range.2 (by omega))
    rw [show ((k - 13 : Nat) : Int) + 13 = (k : Int) by omega, show k - 13 + 13 = k by omega] at h
    exact h
  by_cases c7 : k < 15
  · have h := mi5_14 (k - 14) (List.mem_range.2 (by omega))
    rw [show ((k - 14 : Nat) : Int) + 14 = (k : Int) by omega, show k - 14 + 14 = k by omega] at h
    exact h
  by_cases c8 : k < 16
  · have h := mi5_15 (k - 15) (List.mem_range.2 (by omega))
    rw [show ((k - 15 : Nat) : Int) + 15 = (k : Int) by omega, show k - 15 + 15 = k by omega] at h
    exact h
  by_cases c9 : k < 17
  · have h := mi5_16 (k - 16) (List.mem_range.2 (by omega))
    rw [show ((k - 16 : Nat) : Int) + 16 = (k : Int) by omega, show k - 16 + 16 = k by omega] at h
    exact h
  by_cases c10 : k < 18
  · have h := mi5_17 (k - 17) (List.mem_range.2 (by omega))
    rw [show ((k - 17 : Nat) : Int) + 17 = (k : Int) by omega, show k - 17 + 17 = k by omega] at h
    exact h
  by_cases c11 : k < 19
  · have h := mi5_18 (k - 18) (List.mem_range.2 (by omega))
    rw [show ((k - 18 : Nat) : Int) + 18 = (k : Int) by omega, show k - 18 + 18 = k by omega] at h
    exact h
  by_cases c12 : k < 20
  · have h := mi5_19 (k - 19) (List.mem_range.2 (by omega))
    rw [show ((k - 19 : Nat) : Int) + 19 = (k : Int) by omega, show k - 19 + 19 = k by omega] at h
    exact h
  · have h := mi5_20 (k - 20) (List.mem_range.2 (by omega))
    rw [show ((k - 20 : Nat) : Int) + 20 = (k : Int) by omega, show k - 20 + 20 = k by omega] at h
    exact h
theorem miTold : ∀ n ∈ List.range 6, 2 ≤ n → ∀ K ∈ List.range 21, impl_isTold.f ((n : Nat) : Int) ((K : Nat) : Int) = some true := by decide +kernel
theorem miB_in (a lo hi : Int) (h1 : lo ≤ a) (h2 : a ≤ hi) : impl_between.f a lo hi = some true := by
  unfold impl_between.f; rw [if_pos h1, decide_eq_true h2]
theorem miB_out (a lo hi : Int) (h : a < lo ∨ hi < a) : impl_between.f a lo hi = some false := by
  unfold impl_between.f
  split
  · rw [decide_eq_false (by omega)]
  · rfl
theorem mi_ji (a b : Int) (k : Nat) : impl_MeanInversions.j0 (k + 1) a b true = some (0, 0, false) := by
  simp only [impl_MeanInversions.j0, if_true]
theorem mean_at (a0 a1 : Int) (b : Bool) (hb : impl_isTold.f a0 a1 = some b) :
    ∃ M x y, (∀ k, M ≤ k → spec_MeanInversions.f k a0 a1 = some (x, y, b)) ∧ (∀ k, M ≤ k → impl_MeanInversions.f k a0 a1 = some (x, y, b)) ∧ (b = true → 0 ≤ x ∧ x ≤ wrap64 (a1 * y)) := by
  cases b with
  | false =>
    refine ⟨1, 0, 0, fun k hk => ?_, fun k hk => ?_, fun h => absurd h (by simp)⟩
    · obtain ⟨k, rfl⟩ : ∃ m, k = m + 1 := ⟨k - 1, by omega⟩
      unfold spec_MeanInversions.f
      rw [told_same, hb]
      first | rfl | (simp; done)
    · obtain ⟨k, rfl⟩ : ∃ m, k = m + 1 := ⟨k - 1, by omega⟩
      have hn : ¬ (2 ≤ a0 ∧ a0 ≤ 5 ∧ 0 ≤ a1 ∧ a1 ≤ 20) := by
        rintro ⟨c1, c2, c3, c4⟩
        obtain ⟨n, rfl⟩ : ∃ n : Nat, a0 = n := ⟨a0.toNat, by omega⟩
        obtain ⟨K, rfl⟩ : ∃ n : Nat, a1 = n := ⟨a1.toNat, by omega⟩
        have := miTold n (List.mem_range.2 (by omega)) (by omega) K (List.mem_range.2 (by omega))
        rw [this] at hb
        exact absurd hb (by simp)
      by_cases h0 : 2 ≤ a0 ∧ a0 ≤ 6
      · by_cases h1 : 0 ≤ a1 ∧ a1 ≤ 20
        · have e2 : impl_isFall.f a0 a1 = some true := by simp [impl_isFall.f, miB_in a0 2 6 h0.1 h0.2, miB_in a1 0 20 h1.1 h1.2]
          simp [impl_MeanInversions.f, e2, show (5 : Int) < a0 by omega, mi_ji]
        · simp [impl_MeanInversions.f, impl_isFall.f, miB_in a0 2 6 h0.1 h0.2, miB_out a1 0 20 (by omega), mi_ji]
      · simp [impl_MeanInversions.f, impl_isFall.f, miB_out a0 2 6 (by omega), mi_ji]
  | true =>
    obtain ⟨c1, c2, c3, c4⟩ := told_true hb
    obtain ⟨n, rfl⟩ : ∃ n : Nat, a0 = n := ⟨a0.toNat, by omega⟩
    obtain ⟨K, rfl⟩ : ∃ n : Nat, a1 = n := ⟨a1.toNat, by omega⟩
    have main : ∀ (O : List (List Int)) (T : List Int), spec_alOrders.f 30000 (n : Int) = some O → spec_chOrders.f 30000 (n : Int) (K : Int) = some T → meanOk (n : Int) (K : Int) O T = true → ∃ M x y, (∀ k, M ≤ k → spec_MeanInversions.f k (n : Int) (K : Int) = some (x, y, true)) ∧ (∀ k, M ≤ k → impl_MeanInversions.f k (n : Int) (K : Int) = some (x, y, true)) ∧ (true = true → 0 ≤ x ∧ x ≤ wrap64 ((K : Int) * y)) := by
      intro O T hO hT h
      obtain ⟨x, y, h1, h2, e1, e2⟩ := mean_get h
      have e : spec_MeanInversions.f 30000 (n : Int) (K : Int) = some (x, y, true) := by
        unfold spec_MeanInversions.f
        rw [told_same, hb, Option.bind_some, if_pos rfl, hO, Option.bind_some, hT, Option.bind_some]
        exact e1
      exact ⟨30000, x, y, fun k hk => at_rounds (fun k => spec_MeanInversions.mono _ _ k) hk e, fun k hk => at_rounds (fun k => impl_MeanInversions.mono _ _ k) hk e2, fun _ => ⟨h1, h2⟩⟩
    rcases (by omega : n = 2 ∨ n = 3 ∨ n = 4 ∨ n = 5) with rfl | rfl | rfl | rfl
    · obtain ⟨h1, h2⟩ := ch2 K (by omega) 30000 (by omega)
      exact main _ _ h1 h2 (mi2 K (List.mem_range.2 (by omega)))
    · obtain ⟨h1, h2⟩ := ch3 K (by omega) 30000 (by omega)
      exact main _ _ h1 h2 (mi3 K (List.mem_range.2 (by omega)))
    · obtain ⟨h1, h2⟩ := ch4 K (by omega) 30000 (by omega)
      exact main _ _ h1 h2 (mi4 K (List.mem_range.2 (by omega)))
    · obtain ⟨h1, h2⟩ := ch5 K (by omega) 30000 (by omega)
      exact main _ _ h1 h2 (mi5 K (by omega))
end Go.Proofs.Ytabobnlpcapohaa.L
