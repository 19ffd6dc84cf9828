/- FnExactMeanInversions: for all whole numbers of int the law answers true (its pure form: the inside of the range by the kernel's run, the outside by the guards). No condition. -/
import Derived.Test.YtghogdffocnjnaaLibChTab
import Derived.Test.YtghogdffocnjnaaQx40
namespace Go.Proofs.Ytghogdffocnjnaa.Pure
open Go.RowKit Go.Proofs.Ytghogdffocnjnaa.Q Go.Proofs.YtghogdffocnjnaaW.PrintWords Go.Proofs.YtghogdffocnjnaaW.PrintLast Go.Proofs.Ytghogdffocnjnaa.L
set_option linter.unusedSimpArgs false
set_option linter.unusedVariables false
namespace FnExactMeanInversionsAid
theorem between_in (a lo hi : Int) (h1 : lo ≤ a) (h2 : a ≤ hi) : impl_between.f a lo hi = some true := by
  unfold impl_between.f; rw [if_pos h1, decide_eq_true h2]
theorem between_out (a lo hi : Int) (h : a < lo ∨ hi < a) : impl_between.f a lo hi = some false := by
  unfold impl_between.f
  split
  · rw [decide_eq_false (by omega)]
  · rfl
theorem l1In_in (a lo hi : Int) (h1 : lo ≤ a) (h2 : a ≤ hi) : spec_l1In.f a lo hi = some true := by
  unfold spec_l1In.f; rw [if_pos h1, decide_eq_true h2]
theorem l1In_out (a lo hi : Int) (h : a < lo ∨ hi < a) : spec_l1In.f a lo hi = some false := by
  unfold spec_l1In.f
  split
  · rw [decide_eq_false (by omega)]
  · rfl
theorem step (n k : Int) (K : Nat) (O : List (List Int)) (T : List Int) (hG : spec_chResults.f n k = some true) (hO : spec_alOrders.f K n = some O) (hT : spec_chOrders.f K n k = some T)
    (h : ((spec_MeanInversions.l0 K n k O 0 T (T.length : Int) 0).bind fun bt525 => ((impl_MeanInversions.f K n k).bind fun bt529 => ((laws_eqRatio.f bt529.1 bt529.2.1 bt525.1 bt525.2.1).bind fun t533 => (if t533 = true then (if (bt529.2.2 != bt525.2.2) = true then (none) else (some true)) else (none))))) = some true) : laws_FnExactMeanInversions.f K n k = some true := by
  have e : spec_MeanInversions.f K n k = spec_MeanInversions.l0 K n k O 0 T (T.length : Int) 0 := by
    unfold spec_MeanInversions.f
    rw [hG, Option.bind_some, if_pos rfl, hO, Option.bind_some, hT, Option.bind_some]
  unfold laws_FnExactMeanInversions.f
  rw [e]
  exact h
def chk (n k : Int) (O : List (List Int)) (T : List Int) : Bool := decide (((spec_MeanInversions.l0 30000 n k O 0 T (T.length : Int) 0).bind fun bt525 => ((impl_MeanInversions.f 30000 n k).bind fun bt529 => ((laws_eqRatio.f bt529.1 bt529.2.1 bt525.1 bt525.2.1).bind fun t533 => (if t533 = true then (if (bt529.2.2 != bt525.2.2) = true then (none) else (some true)) else (none))))) = some true)
theorem in2_0 : ∀ x ∈ List.range 21, chk 2 (((x : Nat) : Int) + 0) ordL2 (tab2 (x + 0)) = true := by decide +kernel
theorem in2 (k : Nat) (hk : k < 21) (hG : spec_chResults.f 2 (k : Int) = some true) : laws_FnExactMeanInversions.f 30000 2 (k : Int) = some true := by
  obtain ⟨h1, h2⟩ := ch2 k (by omega) 30000 (by omega)
  refine step _ _ _ _ _ hG h1 h2 ?_
  have h := in2_0 k (List.mem_range.2 hk)
  simp only [chk, Int.add_zero, Nat.add_zero, decide_eq_true_eq] at h
  exact h
theorem in3_0 : ∀ x ∈ List.range 21, chk 3 (((x : Nat) : Int) + 0) ordL3 (tab3 (x + 0)) = true := by decide +kernel
theorem in3 (k : Nat) (hk : k < 21) (hG : spec_chResults.f 3 (k : Int) = some true) : laws_FnExactMeanInversions.f 30000 3 (k : Int) = some true := by
  obtain ⟨h1, h2⟩ := ch3 k (by omega) 30000 (by omega)
  refine step _ _ _ _ _ hG h1 h2 ?_
  have h := in3_0 k (List.mem_range.2 hk)
  simp only [chk, Int.add_zero, Nat.add_zero, decide_eq_true_eq] at h
  exact h
theorem in4_0 : ∀ x ∈ List.range 21, chk 4 (((x : Nat) : Int) + 0) ordL4 (tab4 (x + 0)) = true := by decide +kernel
theorem in4 (k : Nat) (hk : k < 21) (hG : spec_chResults.f 4 (k : Int) = some true) : laws_FnExactMeanInversions.f 30000 4 (k : Int) = some true := by
  obtain ⟨h1, h2⟩ := ch4 k (by omega) 30000 (by omega)
  refine step _ _ _ _ _ hG h1 h2 ?_
  have h := in4_0 k (List.mem_range.2 hk)
  simp only [chk, Int.add_zero, Nat.add_zero, decide_eq_true_eq] at h
  exact h
set_option maxHeartbeats 4000000 in
theorem in5_0 : ∀ x ∈ List.range 6, chk 5 (((x : Nat) : Int) + 0) ordL5 (tab5 (x + 0)) = true := by decide +kernel
set_option maxHeartbeats 4000000 in
theorem in5_6 : ∀ x ∈ List.range 3, chk 5 (((x : Nat) : Int) + 6) ordL5 (tab5 (x + 6)) = true := by decide +kernel
set_option maxHeartbeats 4000000 in
theorem in5_9 : ∀ x ∈ List.range 1, chk 5 (((x : Nat) : Int) + 9) ordL5 (tab5 (x + 9)) = true := by decide +kernel
set_option maxHeartbeats 4000000 in
theorem in5_10 : ∀ x ∈ List.range 1, chk 5 (((x : Nat) : Int) + 10) ordL5 (tab5 (x + 10)) = true := by decide +kernel
set_option maxHeartbeats 4000000 in
theorem in5_11 : ∀ x ∈ List.range 1, chk 5 (((x : Nat) : Int) + 11) ordL5 (tab5 (x + 11)) = true := by decide +kernel
set_option maxHeartbeats 4000000 in
theorem in5_12 : ∀ x ∈ List.range 1, chk 5 (((x : Nat) : Int) + 12) ordL5 (tab5 (x + 12)) = true := by decide +kernel
set_option maxHeartbeats 4000000 in
theorem in5_13 : ∀ x ∈ List.range 1, chk 5 (((x : Nat) : Int) + 13) ordL5 (tab5 (x + 13)) = true := by decide +kernel
set_option maxHeartbeats 4000000 in
theorem in5_14 : ∀ x ∈ List.range 1, chk 5 (((x : Nat) : Int) + 14) ordL5 (tab5 (x + 14)) = true := by decide +kernel
set_option maxHeartbeats 4000000 in
theorem in5_15 : ∀ x ∈ List.range 1, chk 5 (((x : Nat) : Int) + 15) ordL5 (tab5 (x + 15)) = true := by decide +kernel
set_option maxHeartbeats 4000000 in
theorem in5_16 : ∀ x ∈ List.range 1, chk 5 (((x : Nat) : Int) + 16) ordL5 (tab5 (x + 16)) = true := by decide +kernel
set_option maxHeartbeats 4000000 in
theorem in5_17 : ∀ x ∈ List.range 1, chk 5 (((x : Nat) : Int) + 17) ordL5 (tab5 (x + 17)) = true := by decide +kernel
set_option maxHeartbeats 4000000 in
theorem in5_18 : ∀ x ∈ List.range 1, chk 5 (((x : Nat) : Int) + 18) ordL5 (tab5 (x + 18)) = true := by decide +kernel
set_option maxHeartbeats 4000000 in
theorem in5_19 : ∀ x ∈ List.range 1, chk 5 (((x : Nat) : Int) + 19) ordL5 (tab5 (x + 19)) = true := by decide +kernel
set_option maxHeartbeats 4000000 in
theorem in5_20 : ∀ x ∈ List.range 1, chk 5 (((x : Nat) : Int) + 20) ordL5 (tab5 (x + 20)) = true := by decide +kernel
theorem in5 (k : Nat) (hk : k < 21) (hG : spec_chResults.f 5 (k : Int) = some true) : laws_FnExactMeanInversions.f 30000 5 (k : Int) = some true := by
  obtain ⟨h1, h2⟩ := ch5 k (by omega) 30000 (by omega)
  refine step _ _ _ _ _ hG h1 h2 ?_
  by_cases c0 : k < 6
  · have h := in5_0 (k - 0) (List.mem_range.2 (by omega))
    rw [show ((k - 0 : Nat) : Int) + 0 = (k : Int) by omega, show k - 0 + 0 = k by omega] at h
    exact of_decide_eq_true h
  by_cases c1 : k < 9
  · have h := in5_6 (k - 6) (List.mem_range.2 (by omega))
    rw [show ((k - 6 : Nat) : Int) + 6 = (k : Int) by omega, show k - 6 + 6 = k by omega] at h
    exact of_decide_eq_true h
  by_cases c2 : k < 10
  · have h := in5_9 (k - 9) (List.mem_range.2 (by omega))
    rw [show ((k - 9 : Nat) : Int) + 9 = (k : Int) by omega, show k - 9 + 9 = k by omega] at h
    exact of_decide_eq_true h
  by_cases c3 : k < 11
  · have h := in5_10 (k - 10) (List.mem_range.2 (by omega))
    rw [show ((k - 10 : Nat) : Int) + 10 = (k : Int) by omega, show k - 10 + 10 = k by omega] at h
    exact of_decide_eq_true h
  by_cases c4 : k < 12
  · have h := in5_11 (k - 11) (List.mem_range.2 (by omega))
    rw [show ((k - 11 : Nat) : Int) + 11 = (k : Int) by omega, show k - 11 + 11 = k by omega] at h
    exact of_decide_eq_true h
  by_cases c5 : k < 13
  · have h := in5_12 (k - 12) (List.mem_range.2 (by omega))
    rw [show ((k - 12 : Nat) : Int) + 12 = (k : Int) by omega, show k - 12 + 12 = k by omega] at h
    exact of_decide_eq_true h
  by_cases c6 : k < 14
  · have h := in5_13 (k - 13) (List.mem_range.2 (by omega))
    rw [show ((k - 13 : Nat) : Int) + 13 = (k : Int) by omega, show k - 13 + 13 = k by omega] at h
    exact of_decide_eq_true h
  by_cases c7 : k < 15
  · have h := in5_14 (k - 14) (List.mem_range.2 (by omega))
    rw [show ((k - 14 : Nat) : Int) + 14 = (k : Int) by omega, show k - 14 + 14 = k by omega] at h
    exact of_decide_eq_true h
  by_cases c8 : k < 16
  · have h := in5_15 (k - 15) (List.mem_range.2 (by omega))
    rw [show ((k - 15 : Nat) : Int) + 15 = (k : Int) by omega, show k - 15 + 15 = k by omega] at h
    exact of_decide_eq_true h
  by_cases c9 : k < 17
  · have h := in5_16 (k - 16) (List.mem_range.2 (by omega))
    rw [show ((k - 16 : Nat) : Int) + 16 = (k : Int) by omega, show k - 16 + 16 = k by omega] at h
    exact of_decide_eq_true h
  by_cases c10 : k < 18
  · have h := in5_17 (k - 17) (List.mem_range.2 (by omega))
    rw [show ((k - 17 : Nat) : Int) + 17 = (k : Int) by omega, show k - 17 + 17 = k by omega] at h
    exact of_decide_eq_true h
  by_cases c11 : k < 19
  · have h := in5_18 (k - 18) (List.mem_range.2 (by omega))
    rw [show ((k - 18 : Nat) : Int) + 18 = (k : Int) by omega, show k - 18 + 18 = k by omega] at h
    exact of_decide_eq_true h
  by_cases c12 : k < 20
  · have h := in5_19 (k - 19) (List.mem_range.2 (by omega))
    rw [show ((k - 19 : Nat) : Int) + 19 = (k : Int) by omega, show k - 19 + 19 = k by omega] at h
    exact of_decide_eq_true h
  · have h := in5_20 (k - 20) (List.mem_range.2 (by omega))
    rw [show ((k - 20 : Nat) : Int) + 20 = (k : Int) by omega, show k - 20 + 20 = k by omega] at h
    exact of_decide_eq_true h
theorem js (a b : Int) (k : Nat) (h : spec_chResults.f a b = some false) : spec_MeanInversions.f (k + 1) a b = some (0, 0, false) := by
  simp [spec_MeanInversions.f, h]
theorem ji (a b : Int) (k : Nat) : impl_MeanInversions.j0 (k + 1) a b true = some (0, 0, false) := by
  simp only [impl_MeanInversions.j0, if_true]
theorem out (a0 a1 : Int) (k : Nat) (h1 : spec_MeanInversions.f (k + 1) a0 a1 = some (0, 0, false)) (h2 : impl_MeanInversions.f (k + 1) a0 a1 = some (0, 0, false)) : laws_FnExactMeanInversions.f (k + 1) a0 a1 = some true := by
  unfold laws_FnExactMeanInversions.f
  rw [h1, h2]
  rfl
end FnExactMeanInversionsAid
open FnExactMeanInversionsAid
theorem FnExactMeanInversions (a0 : Int) (a1 : Int) (w0 : (Lit.int .i64 a0).wf = true) (w1 : (Lit.int .i64 a1).wf = true) : ∃ k, laws_FnExactMeanInversions.f k a0 a1 = some true := by
  by_cases h0 : 2 ≤ a0 ∧ a0 ≤ 6
  · by_cases h1 : 0 ≤ a1 ∧ a1 ≤ 20
    · have e1 : spec_chGood.f a0 a1 = some true := by simp [spec_chGood.f, l1In_in a0 2 6 h0.1 h0.2, l1In_in a1 0 20 h1.1 h1.2]
      have e2 : impl_isFall.f a0 a1 = some true := by simp [impl_isFall.f, between_in a0 2 6 h0.1 h0.2, between_in a1 0 20 h1.1 h1.2]
      by_cases h2 : a0 ≤ 5
      · have hG : spec_chResults.f a0 a1 = some true := by simp [spec_chResults.f, e1, h2]
        obtain ⟨x1, hx1⟩ : ∃ x : Nat, a1 = x := ⟨a1.toNat, by omega⟩
        subst hx1
        clear e1 e2 w0 w1
        refine ⟨30000, ?_⟩
        rcases (by omega : a0 = 2 ∨ a0 = 3 ∨ a0 = 4 ∨ a0 = 5) with e | e | e | e
        · subst e; exact in2 x1 (by omega) hG
        · subst e; exact in3 x1 (by omega) hG
        · subst e; exact in4 x1 (by omega) hG
        · subst e; exact in5 x1 (by omega) hG
      · refine ⟨1, out a0 a1 0 (js a0 a1 0 ?_) ?_⟩
        · simp [spec_chResults.f, e1, h2]
        · simp [impl_MeanInversions.f, e2, show (5 : Int) < a0 by omega, ji]
    · refine ⟨1, out a0 a1 0 (js a0 a1 0 ?_) ?_⟩
      · simp [spec_chResults.f, spec_chGood.f, l1In_in a0 2 6 h0.1 h0.2, l1In_out a1 0 20 (by omega)]
      · simp [impl_MeanInversions.f, impl_isFall.f, between_in a0 2 6 h0.1 h0.2, between_out a1 0 20 (by omega), ji]
  · refine ⟨1, out a0 a1 0 (js a0 a1 0 ?_) ?_⟩
    · simp [spec_chResults.f, spec_chGood.f, l1In_out a0 2 6 (by omega)]
    · simp [impl_MeanInversions.f, impl_isFall.f, between_out a0 2 6 (by omega), ji]
end Go.Proofs.Ytghogdffocnjnaa.Pure
