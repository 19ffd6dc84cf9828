/- The reference's counts of ladders by results, told by tables: each round is checked once by the kernel's run. No condition. -/
import Derived.Test.YtabobnlpcapohaaQm8
import Derived.Test.YtabobnlpcapohaaQm9
import Derived.Test.YtabobnlpcapohaaQm1
import Derived.Test.YtabobnlpcapohaaQm0
import Derived.Test.YtabobnlpcapohaaQm2
import Derived.Test.YtabobnlpcapohaaQm6
import Derived.Test.YtabobnlpcapohaaQm5
import Derived.Test.YtabobnlpcapohaaQm3
import Derived.Test.YtabobnlpcapohaaQm4
namespace Go.Proofs.Ytabobnlpcapohaa.L
open Go.RowKit Go.Proofs.Ytabobnlpcapohaa.Q Go.Proofs.YtabobnlpcapohaaW.PrintWords Go.Proofs.YtabobnlpcapohaaW.PrintLast
set_option linter.unusedVariables false
set_option linter.unusedSimpArgs false
theorem chW {n : Int} (h1 : -1000000 ≤ n) (h2 : n ≤ 1000000) : wrap64 n = n := by unfold wrap64; omega
theorem chL0_more (x0 x1 : Int) (x5 : List (List Int)) (x6 : List Int) (j : Nat) : ∀ d, LeO (spec_chOrders.l0 j x0 x1 x5 x6) (spec_chOrders.l0 (j + d) x0 x1 x5 x6)
  | 0 => LeO.refl _
  | d + 1 => fun r h => (spec_chOrders.mono_l (j + d)).1 _ _ _ _ r (chL0_more x0 x1 x5 x6 j d r h)
theorem ch_sim : ∀ k, (∀ (x0 : Int) (x5 : List (List Int)) (x7 x25 : List Int) (x26 x27 : Int) (z : List Int) (m : Int) (j : Nat), 1 ≤ m → m ≤ 1000 → spec_chOrders.l1 k x0 1 x5 x7 x25 x26 x27 = some z → LeO (spec_chOrders.l0 j x0 (m - 1) x5 z) (spec_chOrders.l1 (k + j) x0 m x5 x7 x25 x26 x27)) ∧
    (∀ (x0 : Int) (x5 : List (List Int)) (x7 : List Int) (x8 x9 x10 : Int) (x25 : List Int) (x26 x27 : Int) (z : List Int) (m : Int) (j : Nat), 1 ≤ m → m ≤ 1000 → spec_chOrders.l2 k x0 1 x5 x7 x8 x9 x10 x25 x26 x27 = some z → LeO (spec_chOrders.l0 j x0 (m - 1) x5 z) (spec_chOrders.l2 (k + j) x0 m x5 x7 x8 x9 x10 x25 x26 x27))
  | 0 => ⟨fun _ _ _ _ _ _ _ _ _ _ _ h => by simp [spec_chOrders.l1] at h, fun _ _ _ _ _ _ _ _ _ _ _ _ _ _ h => by simp [spec_chOrders.l2] at h⟩
  | k + 1 => by
    obtain ⟨ih1, ih2⟩ := ch_sim k
    refine ⟨?_, ?_⟩
    · intro x0 x5 x7 x25 x26 x27 z m j h1 h2 H
      rw [show k + 1 + j = (k + j) + 1 by omega]
      simp only [spec_chOrders.l1] at H ⊢
      by_cases a : x27 < x26
      · rw [if_pos a] at H ⊢
        by_cases b : 0 ≤ x27
        · rw [if_pos b] at H ⊢
          by_cases c : x27 < (x25.length : Int)
          · rw [if_pos c] at H ⊢
            by_cases d : rd x25 x27 = 0
            · rw [if_pos d] at H ⊢
              exact ih1 _ _ _ _ _ _ _ _ _ h1 h2 H
            · rw [if_neg d] at H ⊢
              exact ih2 _ _ _ _ _ _ _ _ _ _ _ _ h1 h2 H
          · rw [if_neg c] at H; cases H
        · rw [if_neg b] at H; cases H
      · rw [if_neg a] at H ⊢
        rw [chW (n := m - 1) (by omega) (by omega)]
        rw [chW (n := 1 - 1) (by omega) (by omega)] at H
        cases k with
        | zero => simp [spec_chOrders.l0] at H
        | succ k =>
          simp only [spec_chOrders.l0] at H
          rw [if_neg (by omega)] at H
          obtain rfl := Option.some.inj H
          rw [Nat.add_comm]
          exact chL0_more _ _ _ _ _ _
    · intro x0 x5 x7 x8 x9 x10 x25 x26 x27 z m j h1 h2 H
      rw [show k + 1 + j = (k + j) + 1 by omega]
      simp only [spec_chOrders.l2] at H ⊢
      by_cases a : x10 < wrap64 (x0 - 1)
      · rw [if_pos a] at H ⊢
        by_cases b : 0 ≤ x8
        · rw [if_pos b] at H ⊢
          by_cases c : x8 < (x5.length : Int)
          · rw [if_pos c] at H ⊢
            obtain ⟨t, e1, H⟩ := Option.bind_eq_some_iff.mp H
            obtain ⟨u, e2, H⟩ := Option.bind_eq_some_iff.mp H
            have e3 : ∀ d, spec_alRank.f (k + d) t = some u := fun d => by
              induction d with
              | zero => exact e2
              | succ d ih => exact spec_alRank.mono _ _ _ ih
            rw [e1, Option.bind_some, e3 j, Option.bind_some]
            by_cases d : 0 ≤ u
            · rw [if_pos d] at H ⊢
              by_cases e : u < (x7.length : Int)
              · rw [if_pos e] at H ⊢
                exact ih2 _ _ _ _ _ _ _ _ _ _ _ _ h1 h2 H
              · rw [if_neg e] at H; cases H
            · rw [if_neg d] at H; cases H
          · rw [if_neg c] at H; cases H
        · rw [if_neg b] at H; cases H
      · rw [if_neg a] at H ⊢
        exact ih1 _ _ _ _ _ _ _ _ _ h1 h2 H
theorem ch_round (x0 : Int) (x5 : List (List Int)) (x6 z : List Int) (F : Nat) (m : Int) (j : Nat) (h1 : 1 ≤ m) (h2 : m ≤ 1000) (H : spec_chOrders.l0 F x0 1 x5 x6 = some z) : LeO (spec_chOrders.l0 j x0 (m - 1) x5 z) (spec_chOrders.l0 (F + j) x0 m x5 x6) := by
  cases F with
  | zero => simp [spec_chOrders.l0] at H
  | succ F =>
    rw [show F + 1 + j = (F + j) + 1 by omega]
    simp only [spec_chOrders.l0] at H ⊢
    rw [if_pos (by omega)] at H ⊢
    by_cases a : 0 ≤ (x5.length : Int)
    · rw [if_pos a] at H ⊢
      by_cases b : ((x5.length : Int) : Int).toNat ≤ 35184372088832
      · rw [if_pos b] at H ⊢
        exact (ch_sim F).1 _ _ _ _ _ _ _ _ _ h1 h2 H
      · rw [if_neg b] at H; cases H
    · rw [if_neg a] at H; cases H
theorem ch_rounds (x0 : Int) (x5 : List (List Int)) (T : Nat → List Int) (F : Nat) (hs : ∀ i, i < 20 → spec_chOrders.l0 F x0 1 x5 (T i) = some (T (i + 1))) : ∀ d i : Nat, i + d ≤ 20 → spec_chOrders.l0 (d * F + 1) x0 (d : Int) x5 (T i) = some (T (i + d))
  | 0, i, _ => by
    simp only [Nat.zero_mul, spec_chOrders.l0]
    rw [if_neg (by omega)]
    rfl
  | d + 1, i, h => by
    have e := ch_round x0 x5 (T i) (T (i + 1)) F ((d : Int) + 1) (d * F + 1) (by omega) (by omega) (hs i (by omega)) (T (i + 1 + d))
    rw [show (d : Int) + 1 - 1 = d by omega] at e
    have e2 := e (ch_rounds x0 x5 T F hs d (i + 1) (by omega))
    rw [show (d + 1) * F + 1 = F + (d * F + 1) by rw [Nat.succ_mul]; omega, show i + (d + 1) = i + 1 + d by omega]
    exact_mod_cast e2
theorem ch_at (x0 : Int) (x5 : List (List Int)) (T : Nat → List Int) (F A : Nat) (hA : spec_alOrders.f A x0 = some x5) (h1 : 0 < x5.length) (h2 : x5.length ≤ 1000) (hT : (List.replicate x5.length 0).set 0 1 = T 0) (hs : ∀ i, i < 20 → spec_chOrders.l0 F x0 1 x5 (T i) = some (T (i + 1))) (k : Nat) (hk : k ≤ 20) (K : Nat) (hK : A + 20 * F + 1 ≤ K) :
    spec_alOrders.f K x0 = some x5 ∧ spec_chOrders.f K x0 (k : Int) = some (T k) := by
  have e1 : spec_alOrders.f K x0 = some x5 := by
    obtain ⟨d, rfl⟩ : ∃ d, K = A + d := ⟨K - A, by omega⟩
    clear hK
    induction d with
    | zero => exact hA
    | succ d ih => exact spec_alOrders.mono _ _ _ ih
  refine ⟨e1, ?_⟩
  unfold spec_chOrders.f
  rw [e1, Option.bind_some, if_pos (by omega), if_pos (by omega), Option.bind_some, if_pos (by simp; omega)]
  have e2 := ch_rounds x0 x5 T F hs k 0 (by omega)
  have hm : k * F ≤ 20 * F := Nat.mul_le_mul_right _ hk
  obtain ⟨d, rfl⟩ : ∃ d, K = (k * F + 1) + d := ⟨K - (k * F + 1), by omega⟩
  have e3 := chL0_more x0 (k : Int) x5 (T 0) (k * F + 1) d _ e2
  rw [Nat.zero_add] at e3
  rw [show ((x5.length : Int)).toNat = x5.length by omega, show ((0 : Int)).toNat = 0 from rfl, hT]
  exact e3
def ordL2 : List (List Int) := [[0, 1], [1, 0]]
def tab2_0 : List Int := [1, 0]
def tab2_1 : List Int := [0, 1]
def tab2_2 : List Int := [1, 0]
def tab2_3 : List Int := [0, 1]
def tab2_4 : List Int := [1, 0]
def tab2_5 : List Int := [0, 1]
def tab2_6 : List Int := [1, 0]
def tab2_7 : List Int := [0, 1]
def tab2_8 : List Int := [1, 0]
def tab2_9 : List Int := [0, 1]
def tab2_10 : List Int := [1, 0]
def tab2_11 : List Int := [0, 1]
def tab2_12 : List Int := [1, 0]
def tab2_13 : List Int := [0, 1]
def tab2_14 : List Int := [1, 0]
def tab2_15 : List Int := [0, 1]
def tab2_16 : List Int := [1, 0]
def tab2_17 : List Int := [0, 1]
def tab2_18 : List Int := [1, 0]
def tab2_19 : List Int := [0, 1]
def tab2_20 : List Int := [1, 0]
def tab2 : Nat → List Int
  | 0 => tab2_0
  | 1 => tab2_1
  | 2 => tab2_2
  | 3 => tab2_3
  | 4 => tab2_4
  | 5 => tab2_5
  | 6 => tab2_6
  | 7 => tab2_7
  | 8 => tab2_8
  | 9 => tab2_9
  | 10 => tab2_10
  | 11 => tab2_11
  | 12 => tab2_12
  | 13 => tab2_13
  | 14 => tab2_14
  | 15 => tab2_15
  | 16 => tab2_16
  | 17 => tab2_17
  | 18 => tab2_18
  | 19 => tab2_19
  | 20 => tab2_20
  | _ => []
theorem ordL2_at : spec_alOrders.f 4000 2 = some ordL2 := by decide +kernel
theorem tab2_step0 : spec_chOrders.l0 100 2 1 ordL2 tab2_0 = some tab2_1 := by decide +kernel
theorem tab2_step1 : spec_chOrders.l0 100 2 1 ordL2 tab2_1 = some tab2_2 := by decide +kernel
theorem tab2_step2 : spec_chOrders.l0 100 2 1 ordL2 tab2_2 = some tab2_3 := by decide +kernel
theorem tab2_step3 : spec_chOrders.l0 100 2 1 ordL2 tab2_3 = some tab2_4 := by decide +kernel
theorem tab2_step4 : spec_chOrders.l0 100 2 1 ordL2 tab2_4 = some tab2_5 := by decide +kernel
theorem tab2_step5 : spec_chOrders.l0 100 2 1 ordL2 tab2_5 = some tab2_6 := by decide +kernel
theorem tab2_step6 : spec_chOrders.l0 100 2 1 ordL2 tab2_6 = some tab2_7 := by decide +kernel
theorem tab2_step7 : spec_chOrders.l0 100 2 1 ordL2 tab2_7 = some tab2_8 := by decide +kernel
theorem tab2_step8 : spec_chOrders.l0 100 2 1 ordL2 tab2_8 = some tab2_9 := by decide +kernel
theorem tab2_step9 : spec_chOrders.l0 100 2 1 ordL2 tab2_9 = some tab2_10 := by decide +kernel
theorem tab2_step10 : spec_chOrders.l0 100 2 1 ordL2 tab2_10 = some tab2_11 := by decide +kernel
theorem tab2_step11 : spec_chOrders.l0 100 2 1 ordL2 tab2_11 = some tab2_12 := by decide +kernel
theorem tab2_step12 : spec_chOrders.l0 100 2 1 ordL2 tab2_12 = some tab2_13 := by decide +kernel
theorem tab2_step13 : spec_chOrders.l0 100 2 1 ordL2 tab2_13 = some tab2_14 := by decide +kernel
theorem tab2_step14 : spec_chOrders.l0 100 2 1 ordL2 tab2_14 = some tab2_15 := by decide +kernel
theorem tab2_step15 : spec_chOrders.l0 100 2 1 ordL2 tab2_15 = some tab2_16 := by decide +kernel
theorem tab2_step16 : spec_chOrders.l0 100 2 1 ordL2 tab2_16 = some tab2_17 := by decide +kernel
theorem tab2_step17 : spec_chOrders.l0 100 2 1 ordL2 tab2_17 = some tab2_18 := by decide +kernel
theorem tab2_step18 : spec_chOrders.l0 100 2 1 ordL2 tab2_18 = some tab2_19 := by decide +kernel
theorem tab2_step19 : spec_chOrders.l0 100 2 1 ordL2 tab2_19 = some tab2_20 := by decide +kernel
theorem tab2_step : ∀ i, i < 20 → spec_chOrders.l0 100 2 1 ordL2 (tab2 i) = some (tab2 (i + 1))
  | 0, _ => tab2_step0
  | 1, _ => tab2_step1
  | 2, _ => tab2_step2
  | 3, _ => tab2_step3
  | 4, _ => tab2_step4
  | 5, _ => tab2_step5
  | 6, _ => tab2_step6
  | 7, _ => tab2_step7
  | 8, _ => tab2_step8
  | 9, _ => tab2_step9
  | 10, _ => tab2_step10
  | 11, _ => tab2_step11
  | 12, _ => tab2_step12
  | 13, _ => tab2_step13
  | 14, _ => tab2_step14
  | 15, _ => tab2_step15
  | 16, _ => tab2_step16
  | 17, _ => tab2_step17
  | 18, _ => tab2_step18
  | 19, _ => tab2_step19
  | i + 20, h => absurd h (by omega)
theorem ch2 (k : Nat) (hk : k ≤ 20) (K : Nat) (hK : 25000 ≤ K) : spec_alOrders.f K 2 = some ordL2 ∧ spec_chOrders.f K 2 (k : Int) = some (tab2 k) :=
  ch_at 2 ordL2 tab2 100 4000 ordL2_at (by decide) (by decide) (by decide) tab2_step k hk K (by omega)
def ordL3 : List (List Int) := [[0, 1, 2], [0, 2, 1], [1, 0, 2], [1, 2, 0], [2, 0, 1], [2, 1, 0]]
def tab3_0 : List Int := [1, 0, 0, 0, 0, 0]
def tab3_1 : List Int := [0, 1, 1, 0, 0, 0]
def tab3_2 : List Int := [2, 0, 0, 1, 1, 0]
def tab3_3 : List Int := [0, 3, 3, 0, 0, 2]
def tab3_4 : List Int := [6, 0, 0, 5, 5, 0]
def tab3_5 : List Int := [0, 11, 11, 0, 0, 10]
def tab3_6 : List Int := [22, 0, 0, 21, 21, 0]
def tab3_7 : List Int := [0, 43, 43, 0, 0, 42]
def tab3_8 : List Int := [86, 0, 0, 85, 85, 0]
def tab3_9 : List Int := [0, 171, 171, 0, 0, 170]
def tab3_10 : List Int := [342, 0, 0, 341, 341, 0]
def tab3_11 : List Int := [0, 683, 683, 0, 0, 682]
def tab3_12 : List Int := [1366, 0, 0, 1365, 1365, 0]
def tab3_13 : List Int := [0, 2731, 2731, 0, 0, 2730]
def tab3_14 : List Int := [5462, 0, 0, 5461, 5461, 0]
def tab3_15 : List Int := [0, 10923, 10923, 0, 0, 10922]
def tab3_16 : List Int := [21846, 0, 0, 21845, 21845, 0]
def tab3_17 : List Int := [0, 43691, 43691, 0, 0, 43690]
def tab3_18 : List Int := [87382, 0, 0, 87381, 87381, 0]
def tab3_19 : List Int := [0, 174763, 174763, 0, 0, 174762]
def tab3_20 : List Int := [349526, 0, 0, 349525, 349525, 0]
def tab3 : Nat → List Int
  | 0 => tab3_0
  | 1 => tab3_1
  | 2 => tab3_2
  | 3 => tab3_3
  | 4 => tab3_4
  | 5 => tab3_5
  | 6 => tab3_6
  | 7 => tab3_7
  | 8 => tab3_8
  | 9 => tab3_9
  | 10 => tab3_10
  | 11 => tab3_11
  | 12 => tab3_12
  | 13 => tab3_13
  | 14 => tab3_14
  | 15 => tab3_15
  | 16 => tab3_16
  | 17 => tab3_17
  | 18 => tab3_18
  | 19 => tab3_19
  | 20 => tab3_20
  | _ => []
theorem ordL3_at : spec_alOrders.f 4000 3 = some ordL3 := by decide +kernel
theorem tab3_step0 : spec_chOrders.l0 100 3 1 ordL3 tab3_0 = some tab3_1 := by decide +kernel
theorem tab3_step1 : spec_chOrders.l0 100 3 1 ordL3 tab3_1 = some tab3_2 := by decide +kernel
theorem tab3_step2 : spec_chOrders.l0 100 3 1 ordL3 tab3_2 = some tab3_3 := by decide +kernel
theorem tab3_step3 : spec_chOrders.l0 100 3 1 ordL3 tab3_3 = some tab3_4 := by decide +kernel
theorem tab3_step4 : spec_chOrders.l0 100 3 1 ordL3 tab3_4 = some tab3_5 := by decide +kernel
theorem tab3_step5 : spec_chOrders.l0 100 3 1 ordL3 tab3_5 = some tab3_6 := by decide +kernel
theorem tab3_step6 : spec_chOrders.l0 100 3 1 ordL3 tab3_6 = some tab3_7 := by decide +kernel
theorem tab3_step7 : spec_chOrders.l0 100 3 1 ordL3 tab3_7 = some tab3_8 := by decide +kernel
theorem tab3_step8 : spec_chOrders.l0 100 3 1 ordL3 tab3_8 = some tab3_9 := by decide +kernel
theorem tab3_step9 : spec_chOrders.l0 100 3 1 ordL3 tab3_9 = some tab3_10 := by decide +kernel
theorem tab3_step10 : spec_chOrders.l0 100 3 1 ordL3 tab3_10 = some tab3_11 := by decide +kernel
theorem tab3_step11 : spec_chOrders.l0 100 3 1 ordL3 tab3_11 = some tab3_12 := by decide +kernel
theorem tab3_step12 : spec_chOrders.l0 100 3 1 ordL3 tab3_12 = some tab3_13 := by decide +kernel
theorem tab3_step13 : spec_chOrders.l0 100 3 1 ordL3 tab3_13 = some tab3_14 := by decide +kernel
theorem tab3_step14 : spec_chOrders.l0 100 3 1 ordL3 tab3_14 = some tab3_15 := by decide +kernel
theorem tab3_step15 : spec_chOrders.l0 100 3 1 ordL3 tab3_15 = some tab3_16 := by decide +kernel
theorem tab3_step16 : spec_chOrders.l0 100 3 1 ordL3 tab3_16 = some tab3_17 := by decide +kernel
theorem tab3_step17 : spec_chOrders.l0 100 3 1 ordL3 tab3_17 = some tab3_18 := by decide +kernel
theorem tab3_step18 : spec_chOrders.l0 100 3 1 ordL3 tab3_18 = some tab3_19 := by decide +kernel
theorem tab3_step19 : spec_chOrders.l0 100 3 1 ordL3 tab3_19 = some tab3_20 := by decide +kernel
theorem tab3_step : ∀ i, i < 20 → spec_chOrders.l0 100 3 1 ordL3 (tab3 i) = some (tab3 (i + 1))
  | 0, _ => tab3_step0
  | 1, _ => tab3_step1
  | 2, _ => tab3_step2
  | 3, _ => tab3_step3
  | 4, _ => tab3_step4
  | 5, _ => tab3_step5
  | 6, _ => tab3_step6
  | 7, _ => tab3_step7
  | 8, _ => tab3_step8
  | 9, _ => tab3_step9
  | 10, _ => tab3_step10
  | 11, _ => tab3_step11
  | 12, _ => tab3_step12
  | 13, _ => tab3_step13
  | 14, _ => tab3_step14
  | 15, _ => tab3_step15
  | 16, _ => tab3_step16
  | 17, _ => tab3_step17
  | 18, _ => tab3_step18
  | 19, _ => tab3_step19
  | i + 20, h => absurd h (by omega)
theorem ch3 (k : Nat) (hk : k ≤ 20) (K : Nat) (hK : 25000 ≤ K) : spec_alOrders.f K 3 = some ordL3 ∧ spec_chOrders.f K 3 (k : Int) = some (tab3 k) :=
  ch_at 3 ordL3 tab3 100 4000 ordL3_at (by decide) (by decide) (by decide) tab3_step k hk K (by omega)
def ordL4 : List (List Int) := [[0, 1, 2, 3], [0, 1, 3, 2], [0, 2, 1, 3], [0, 2, 3, 1], [0, 3, 1, 2], [0, 3, 2, 1], [1, 0, 2, 3], [1, 0, 3, 2], [1, 2, 0, 3], [1, 2, 3, 0], [1, 3, 0, 2], [1, 3, 2, 0], [2, 0, 1, 3], [2, 0, 3, 1], [2, 1, 0, 3], [2, 1, 3, 0], [2, 3, 0, 1], [2, 3, 1, 0], [3, 0, 1, 2], [3, 0, 2, 1], [3, 1, 0, 2], [3, 1, 2, 0], [3, 2, 0, 1], [3, 2, 1, 0]]
def tab4_0 : List Int := [1, 0, 0, 0, 0, 0, 0, 0, 0, 0, 0, 0, 0, 0, 0, 0, 0, 0, 0, 0, 0, 0, 0, 0]
def tab4_1 : List Int := [0, 1, 1, 0, 0, 0, 1, 0, 0, 0, 0, 0, 0, 0, 0, 0, 0, 0, 0, 0, 0, 0, 0, 0]
def tab4_2 : List Int := [3, 0, 0, 1, 1, 0, 0, 2, 1, 0, 0, 0, 1, 0, 0, 0, 0, 0, 0, 0, 0, 0, 0, 0]
def tab4_3 : List Int := [0, 6, 5, 0, 0, 2, 6, 0, 0, 1, 2, 0, 0, 2, 2, 0, 0, 0, 1, 0, 0, 0, 0, 0]
def tab4_4 : List Int := [17, 0, 0, 9, 9, 0, 0, 14, 9, 0, 0, 3, 9, 0, 0, 3, 2, 0, 0, 3, 3, 0, 0, 0]
def tab4_5 : List Int := [0, 40, 35, 0, 0, 21, 40, 0, 0, 15, 20, 0, 0, 20, 21, 0, 0, 5, 15, 0, 0, 6, 5, 0]
def tab4_6 : List Int := [115, 0, 0, 76, 76, 0, 0, 100, 76, 0, 0, 41, 76, 0, 0, 41, 30, 0, 0, 41, 41, 0, 0, 16]
def tab4_7 : List Int := [0, 291, 267, 0, 0, 193, 291, 0, 0, 158, 182, 0, 0, 182, 193, 0, 0, 87, 158, 0, 0, 98, 87, 0]
def tab4_8 : List Int := [849, 0, 0, 642, 642, 0, 0, 764, 642, 0, 0, 438, 642, 0, 0, 438, 356, 0, 0, 438, 438, 0, 0, 272]
def tab4_9 : List Int := [0, 2255, 2133, 0, 0, 1722, 2255, 0, 0, 1518, 1640, 0, 0, 1640, 1722, 0, 0, 1066, 1518, 0, 0, 1148, 1066, 0]
def tab4_10 : List Int := [6643, 0, 0, 5495, 5495, 0, 0, 6150, 5495, 0, 0, 4306, 5495, 0, 0, 4306, 3772, 0, 0, 4306, 4306, 0, 0, 3280]
def tab4_11 : List Int := [0, 18288, 17633, 0, 0, 15296, 18288, 0, 0, 14107, 14762, 0, 0, 14762, 15296, 0, 0, 11358, 14107, 0, 0, 11892, 11358, 0]
def tab4_12 : List Int := [54209, 0, 0, 47691, 47691, 0, 0, 51338, 47691, 0, 0, 40761, 47691, 0, 0, 40761, 37478, 0, 0, 40761, 40761, 0, 0, 34608]
def tab4_13 : List Int := [0, 153238, 149591, 0, 0, 136143, 153238, 0, 0, 129213, 132860, 0, 0, 132860, 136143, 0, 0, 112847, 129213, 0, 0, 116130, 112847, 0]
def tab4_14 : List Int := [456067, 0, 0, 418594, 418594, 0, 0, 439336, 418594, 0, 0, 378203, 418594, 0, 0, 378203, 358554, 0, 0, 378203, 378203, 0, 0, 341824]
def tab4_15 : List Int := [0, 1313997, 1293255, 0, 0, 1215391, 1313997, 0, 0, 1175000, 1195742, 0, 0, 1195742, 1215391, 0, 0, 1078581, 1175000, 0, 0, 1098230, 1078581, 0]
def tab4_16 : List Int := [3921249, 0, 0, 3704388, 3704388, 0, 0, 3823736, 3704388, 0, 0, 3468972, 3704388, 0, 0, 3468972, 3352904, 0, 0, 3468972, 3468972, 0, 0, 3255392]
def tab4_17 : List Int := [0, 11449373, 11330025, 0, 0, 10877748, 11449373, 0, 0, 10642332, 10761680, 0, 0, 10761680, 10877748, 0, 0, 10077268, 10642332, 0, 0, 10193336, 10077268, 0]
def tab4_18 : List Int := [34228771, 0, 0, 32969453, 32969453, 0, 0, 33660426, 32969453, 0, 0, 31597348, 32969453, 0, 0, 31597348, 30916216, 0, 0, 31597348, 31597348, 0, 0, 30347872]
def tab4_19 : List Int := [0, 100858650, 100167677, 0, 0, 97536254, 100858650, 0, 0, 96164149, 96855122, 0, 0, 96855122, 97536254, 0, 0, 92861436, 96164149, 0, 0, 93542568, 92861436, 0]
def tab4_20 : List Int := [301884977, 0, 0, 294559053, 294559053, 0, 0, 298572422, 294559053, 0, 0, 286561839, 294559053, 0, 0, 286561839, 282577994, 0, 0, 286561839, 286561839, 0, 0, 279265440]
def tab4 : Nat → List Int
  | 0 => tab4_0
  | 1 => tab4_1
  | 2 => tab4_2
  | 3 => tab4_3
  | 4 => tab4_4
  | 5 => tab4_5
  | 6 => tab4_6
  | 7 => tab4_7
  | 8 => tab4_8
  | 9 => tab4_9
  | 10 => tab4_10
  | 11 => tab4_11
  | 12 => tab4_12
  | 13 => tab4_13
  | 14 => tab4_14
  | 15 => tab4_15
  | 16 => tab4_16
  | 17 => tab4_17
  | 18 => tab4_18
  | 19 => tab4_19
  | 20 => tab4_20
  | _ => []
theorem ordL4_at : spec_alOrders.f 4000 4 = some ordL4 := by decide +kernel
theorem tab4_step0 : spec_chOrders.l0 300 4 1 ordL4 tab4_0 = some tab4_1 := by decide +kernel
theorem tab4_step1 : spec_chOrders.l0 300 4 1 ordL4 tab4_1 = some tab4_2 := by decide +kernel
theorem tab4_step2 : spec_chOrders.l0 300 4 1 ordL4 tab4_2 = some tab4_3 := by decide +kernel
theorem tab4_step3 : spec_chOrders.l0 300 4 1 ordL4 tab4_3 = some tab4_4 := by decide +kernel
theorem tab4_step4 : spec_chOrders.l0 300 4 1 ordL4 tab4_4 = some tab4_5 := by decide +kernel
theorem tab4_step5 : spec_chOrders.l0 300 4 1 ordL4 tab4_5 = some tab4_6 := by decide +kernel
theorem tab4_step6 : spec_chOrders.l0 300 4 1 ordL4 tab4_6 = some tab4_7 := by decide +kernel
theorem tab4_step7 : spec_chOrders.l0 300 4 1 ordL4 tab4_7 = some tab4_8 := by decide +kernel
theorem tab4_step8 : spec_chOrders.l0 300 4 1 ordL4 tab4_8 = some tab4_9 := by decide +kernel
theorem tab4_step9 : spec_chOrders.l0 300 4 1 ordL4 tab4_9 = some tab4_10 := by decide +kernel
theorem tab4_step10 : spec_chOrders.l0 300 4 1 ordL4 tab4_10 = some tab4_11 := by decide +kernel
theorem tab4_step11 : spec_chOrders.l0 300 4 1 ordL4 tab4_11 = some tab4_12 := by decide +kernel
theorem tab4_step12 : spec_chOrders.l0 300 4 1 ordL4 tab4_12 = some tab4_13 := by decide +kernel
theorem tab4_step13 : spec_chOrders.l0 300 4 1 ordL4 tab4_13 = some tab4_14 := by decide +kernel
theorem tab4_step14 : spec_chOrders.l0 300 4 1 ordL4 tab4_14 = some tab4_15 := by decide +kernel
theorem tab4_step15 : spec_chOrders.l0 300 4 1 ordL4 tab4_15 = some tab4_16 := by decide +kernel
theorem tab4_step16 : spec_chOrders.l0 300 4 1 ordL4 tab4_16 = some tab4_17 := by decide +kernel
theorem tab4_step17 : spec_chOrders.l0 300 4 1 ordL4 tab4_17 = some tab4_18 := by decide +kernel
theorem tab4_step18 : spec_chOrders.l0 300 4 1 ordL4 tab4_18 = some tab4_19 := by decide +kernel
theorem tab4_step19 : spec_chOrders.l0 300 4 1 ordL4 tab4_19 = some tab4_20 := by decide +kernel
theorem tab4_step : ∀ i, i < 20 → spec_chOrders.l0 300 4 1 ordL4 (tab4 i) = some (tab4 (i + 1))
  | 0, _ => tab4_step0
  | 1, _ => tab4_step1
  | 2, _ => tab4_step2
  | 3, _ => tab4_step3
  | 4, _ => tab4_step4
  | 5, _ => tab4_step5
  | 6, _ => tab4_step6
  | 7, _ => tab4_step7
  | 8, _ => tab4_step8
  | 9, _ => tab4_step9
  | 10, _ => tab4_step10
  | 11, _ => tab4_step11
  | 12, _ => tab4_step12
  | 13, _ => tab4_step13
  | 14, _ => tab4_step14
  | 15, _ => tab4_step15
  | 16, _ => tab4_step16
  | 17, _ => tab4_step17
  | 18, _ => tab4_step18
  | 19, _ => tab4_step19
  | i + 20, h => absurd h (by omega)
theorem ch4 (k : Nat) (hk : k ≤ 20) (K : Nat) (hK : 25000 ≤ K) : spec_alOrders.f K 4 = some ordL4 ∧ spec_chOrders.f K 4 (k : Int) = some (tab4 k) :=
  ch_at 4 ordL4 tab4 300 4000 ordL4_at (by decide) (by decide) (by decide) tab4_step k hk K (by omega)
def ordL5 : List (List Int) := [[0, 1, 2, 3, 4], [0, 1, 2, 4, 3], [0, 1, 3, 2, 4], [0, 1, 3, 4, 2], [0, 1, 4, 2, 3], [0, 1, 4, 3, 2], [0, 2, 1, 3, 4], [0, 2, 1, 4, 3], [0, 2, 3, 1, 4], [0, 2, 3, 4, 1], [0, 2, 4, 1, 3], [0, 2, 4, 3, 1], [0, 3, 1, 2, 4], [0, 3, 1, 4, 2], [0, 3, 2, 1, 4], [0, 3, 2, 4, 1], [0, 3, 4, 1, 2], [0, 3, 4, 2, 1], [0, 4, 1, 2, 3], [0, 4, 1, 3, 2], [0, 4, 2, 1, 3], [0, 4, 2, 3, 1], [0, 4, 3, 1, 2], [0, 4, 3, 2, 1], [1, 0, 2, 3, 4], [1, 0, 2, 4, 3], [1, 0, 3, 2, 4], [1, 0, 3, 4, 2], [1, 0, 4, 2, 3], [1, 0, 4, 3, 2], [1, 2, 0, 3, 4], [1, 2, 0, 4, 3], [1, 2, 3, 0, 4], [1, 2, 3, 4, 0], [1, 2, 4, 0, 3], [1, 2, 4, 3, 0], [1, 3, 0, 2, 4], [1, 3, 0, 4, 2], [1, 3, 2, 0, 4], [1, 3, 2, 4, 0], [1, 3, 4, 0, 2], [1, 3, 4, 2, 0], [1, 4, 0, 2, 3], [1, 4, 0, 3, 2], [1, 4, 2, 0, 3], [1, 4, 2, 3, 0], [1, 4, 3, 0, 2], [1, 4, 3, 2, 0], [2, 0, 1, 3, 4], [2, 0, 1, 4, 3], [2, 0, 3, 1, 4], [2, 0, 3, 4, 1], [2, 0, 4, 1, 3], [2, 0, 4, 3, 1], [2, 1, 0, 3, 4], [2, 1, 0, 4, 3], [2, 1, 3, 0, 4], [2, 1, 3, 4, 0], [2, 1, 4, 0, 3], [2, 1, 4, 3, 0], [2, 3, 0, 1, 4], [2, 3, 0, 4, 1], [2, 3, 1, 0, 4], [2, 3, 1, 4, 0], [2, 3, 4, 0, 1], [2, 3, 4, 1, 0], [2, 4, 0, 1, 3], [2, 4, 0, 3, 1], [2, 4, 1, 0, 3], [2, 4, 1, 3, 0], [2, 4, 3, 0, 1], [2, 4, 3, 1, 0], [3, 0, 1, 2, 4], [3, 0, 1, 4, 2], [3, 0, 2, 1, 4], [3, 0, 2, 4, 1], [3, 0, 4, 1, 2], [3, 0, 4, 2, 1], [3, 1, 0, 2, 4], [3, 1, 0, 4, 2], [3, 1, 2, 0, 4], [3, 1, 2, 4, 0], [3, 1, 4, 0, 2], [3, 1, 4, 2, 0], [3, 2, 0, 1, 4], [3, 2, 0, 4, 1], [3, 2, 1, 0, 4], [3, 2, 1, 4, 0], [3, 2, 4, 0, 1], [3, 2, 4, 1, 0], [3, 4, 0, 1, 2], [3, 4, 0, 2, 1], [3, 4, 1, 0, 2], [3, 4, 1, 2, 0], [3, 4, 2, 0, 1], [3, 4, 2, 1, 0], [4, 0, 1, 2, 3], [4, 0, 1, 3, 2], [4, 0, 2, 1, 3], [4, 0, 2, 3, 1], [4, 0, 3, 1, 2], [4, 0, 3, 2, 1], [4, 1, 0, 2, 3], [4, 1, 0, 3, 2], [4, 1, 2, 0, 3], [4, 1, 2, 3, 0], [4, 1, 3, 0, 2], [4, 1, 3, 2, 0], [4, 2, 0, 1, 3], [4, 2, 0, 3, 1], [4, 2, 1, 0, 3], [4, 2, 1, 3, 0], [4, 2, 3, 0, 1], [4, 2, 3, 1, 0], [4, 3, 0, 1, 2], [4, 3, 0, 2, 1], [4, 3, 1, 0, 2], [4, 3, 1, 2, 0], [4, 3, 2, 0, 1], [4, 3, 2, 1, 0]]
def tab5_0 : List Int := [1, 0, 0, 0, 0, 0, 0, 0, 0, 0, 0, 0, 0, 0, 0, 0, 0, 0, 0, 0, 0, 0, 0, 0, 0, 0, 0, 0, 0, 0, 0, 0, 0, 0, 0, 0, 0, 0, 0, 0, 0, 0, 0, 0, 0, 0, 0, 0, 0, 0, 0, 0, 0, 0, 0, 0, 0, 0, 0, 0, 0, 0, 0, 0, 0, 0, 0, 0, 0, 0, 0, 0, 0, 0, 0, 0, 0, 0, 0, 0, 0, 0, 0, 0, 0, 0, 0, 0, 0, 0, 0, 0, 0, 0, 0, 0, 0, 0, 0, 0, 0, 0, 0, 0, 0, 0, 0, 0, 0, 0, 0, 0, 0, 0, 0, 0, 0, 0, 0, 0]
def tab5_1 : List Int := [0, 1, 1, 0, 0, 0, 1, 0, 0, 0, 0, 0, 0, 0, 0, 0, 0, 0, 0, 0, 0, 0, 0, 0, 1, 0, 0, 0, 0, 0, 0, 0, 0, 0, 0, 0, 0, 0, 0, 0, 0, 0, 0, 0, 0, 0, 0, 0, 0, 0, 0, 0, 0, 0, 0, 0, 0, 0, 0, 0, 0, 0, 0, 0, 0, 0, 0, 0, 0, 0, 0, 0, 0, 0, 0, 0, 0, 0, 0, 0, 0, 0, 0, 0, 0, 0, 0, 0, 0, 0, 0, 0, 0, 0, 0, 0, 0, 0, 0, 0, 0, 0, 0, 0, 0, 0, 0, 0, 0, 0, 0, 0, 0, 0, 0, 0, 0, 0, 0, 0]
def tab5_2 : List Int := [4, 0, 0, 1, 1, 0, 0, 2, 1, 0, 0, 0, 1, 0, 0, 0, 0, 0, 0, 0, 0, 0, 0, 0, 0, 2, 2, 0, 0, 0, 1, 0, 0, 0, 0, 0, 0, 0, 0, 0, 0, 0, 0, 0, 0, 0, 0, 0, 1, 0, 0, 0, 0, 0, 0, 0, 0, 0, 0, 0, 0, 0, 0, 0, 0, 0, 0, 0, 0, 0, 0, 0, 0, 0, 0, 0, 0, 0, 0, 0, 0, 0, 0, 0, 0, 0, 0, 0, 0, 0, 0, 0, 0, 0, 0, 0, 0, 0, 0, 0, 0, 0, 0, 0, 0, 0, 0, 0, 0, 0, 0, 0, 0, 0, 0, 0, 0, 0, 0, 0]
def tab5_3 : List Int := [0, 9, 8, 0, 0, 2, 8, 0, 0, 1, 2, 0, 0, 2, 2, 0, 0, 0, 1, 0, 0, 0, 0, 0, 9, 0, 0, 3, 3, 0, 0, 3, 1, 0, 0, 0, 2, 0, 0, 0, 0, 0, 0, 0, 0, 0, 0, 0, 0, 3, 2, 0, 0, 0, 2, 0, 0, 0, 0, 0, 0, 0, 0, 0, 0, 0, 0, 0, 0, 0, 0, 0, 1, 0, 0, 0, 0, 0, 0, 0, 0, 0, 0, 0, 0, 0, 0, 0, 0, 0, 0, 0, 0, 0, 0, 0, 0, 0, 0, 0, 0, 0, 0, 0, 0, 0, 0, 0, 0, 0, 0, 0, 0, 0, 0, 0, 0, 0, 0, 0]
def tab5_4 : List Int := [34, 0, 0, 15, 15, 0, 0, 22, 13, 0, 0, 3, 13, 0, 0, 3, 2, 0, 0, 3, 3, 0, 0, 0, 0, 24, 22, 0, 0, 8, 15, 0, 0, 1, 3, 0, 0, 5, 3, 0, 0, 0, 3, 0, 0, 0, 0, 0, 15, 0, 0, 3, 5, 0, 0, 8, 3, 0, 0, 0, 2, 0, 0, 0, 0, 0, 0, 0, 0, 0, 0, 0, 0, 3, 3, 0, 0, 0, 3, 0, 0, 0, 0, 0, 0, 0, 0, 0, 0, 0, 0, 0, 0, 0, 0, 0, 1, 0, 0, 0, 0, 0, 0, 0, 0, 0, 0, 0, 0, 0, 0, 0, 0, 0, 0, 0, 0, 0, 0, 0]
def tab5_5 : List Int := [0, 95, 84, 0, 0, 41, 84, 0, 0, 22, 33, 0, 0, 33, 32, 0, 0, 5, 22, 0, 0, 6, 5, 0, 95, 0, 0, 50, 50, 0, 0, 50, 22, 0, 0, 4, 33, 0, 0, 4, 5, 0, 0, 11, 6, 0, 0, 0, 0, 50, 33, 0, 0, 11, 41, 0, 0, 4, 11, 0, 0, 5, 5, 0, 0, 0, 5, 0, 0, 0, 0, 0, 22, 0, 0, 6, 5, 0, 0, 11, 6, 0, 0, 0, 5, 0, 0, 0, 0, 0, 0, 0, 0, 0, 0, 0, 0, 4, 4, 0, 0, 0, 4, 0, 0, 0, 0, 0, 0, 0, 0, 0, 0, 0, 0, 0, 0, 0, 0, 0]
def tab5_6 : List Int := [358, 0, 0, 208, 208, 0, 0, 262, 171, 0, 0, 72, 171, 0, 0, 65, 48, 0, 0, 72, 65, 0, 0, 16, 0, 290, 262, 0, 0, 152, 208, 0, 0, 34, 71, 0, 0, 99, 65, 0, 0, 9, 71, 0, 0, 10, 16, 0, 208, 0, 0, 71, 99, 0, 0, 152, 72, 0, 0, 19, 48, 0, 0, 9, 5, 0, 0, 16, 16, 0, 0, 0, 0, 71, 65, 0, 0, 16, 72, 0, 0, 10, 16, 0, 0, 16, 16, 0, 0, 0, 5, 0, 0, 0, 0, 0, 34, 0, 0, 10, 9, 0, 0, 19, 10, 0, 0, 0, 9, 0, 0, 0, 0, 0, 0, 0, 0, 0, 0, 0]
def tab5_7 : List Int := [0, 1118, 999, 0, 0, 640, 999, 0, 0, 379, 498, 0, 0, 498, 472, 0, 0, 145, 379, 0, 0, 163, 145, 0, 1118, 0, 0, 721, 721, 0, 0, 721, 379, 0, 0, 134, 498, 0, 0, 118, 140, 0, 0, 258, 162, 0, 0, 35, 0, 721, 498, 0, 0, 258, 640, 0, 0, 134, 258, 0, 0, 140, 145, 0, 0, 14, 140, 0, 0, 35, 21, 0, 379, 0, 0, 162, 140, 0, 0, 258, 163, 0, 0, 35, 145, 0, 0, 35, 21, 0, 0, 21, 21, 0, 0, 0, 0, 134, 118, 0, 0, 35, 134, 0, 0, 20, 35, 0, 0, 35, 35, 0, 0, 0, 14, 0, 0, 0, 0, 0]
def tab5_8 : List Int := [4234, 0, 0, 2858, 2858, 0, 0, 3336, 2348, 0, 0, 1298, 2348, 0, 0, 1158, 928, 0, 0, 1298, 1158, 0, 0, 488, 0, 3678, 3336, 0, 0, 2340, 2858, 0, 0, 765, 1275, 0, 0, 1617, 1158, 0, 0, 328, 1275, 0, 0, 351, 468, 0, 2858, 0, 0, 1275, 1617, 0, 0, 2340, 1298, 0, 0, 561, 928, 0, 0, 328, 196, 0, 0, 454, 468, 0, 0, 70, 0, 1275, 1158, 0, 0, 468, 1298, 0, 0, 351, 454, 0, 0, 468, 488, 0, 0, 70, 196, 0, 0, 56, 42, 0, 765, 0, 0, 351, 328, 0, 0, 561, 351, 0, 0, 90, 328, 0, 0, 90, 56, 0, 0, 70, 70, 0, 0, 0]
def tab5_9 : List Int := [0, 14106, 12776, 0, 0, 9354, 12776, 0, 0, 6079, 7409, 0, 0, 7409, 7012, 0, 0, 3042, 6079, 0, 0, 3295, 3042, 0, 14106, 0, 0, 10151, 10151, 0, 0, 10151, 6079, 0, 0, 2952, 7409, 0, 0, 2602, 2867, 0, 0, 4644, 3252, 0, 0, 1237, 0, 10151, 7409, 0, 0, 4644, 9354, 0, 0, 2952, 4644, 0, 0, 2867, 3042, 0, 0, 664, 2867, 0, 0, 1189, 776, 0, 6079, 0, 0, 3252, 2867, 0, 0, 4644, 3295, 0, 0, 1189, 3042, 0, 0, 1237, 776, 0, 0, 776, 776, 0, 0, 168, 0, 2952, 2602, 0, 0, 1237, 2952, 0, 0, 882, 1189, 0, 0, 1189, 1237, 0, 0, 216, 664, 0, 0, 216, 168, 0]
def tab5_10 : List Int := [53764, 0, 0, 39690, 39690, 0, 0, 44442, 33276, 0, 0, 21427, 33276, 0, 0, 19385, 16360, 0, 0, 21427, 19385, 0, 0, 10616, 0, 48514, 44442, 0, 0, 34300, 39690, 0, 0, 14585, 20999, 0, 0, 25071, 19385, 0, 0, 7895, 20999, 0, 0, 8323, 9937, 0, 39690, 0, 0, 20999, 25071, 0, 0, 34300, 21427, 0, 0, 11737, 16360, 0, 0, 7895, 5083, 0, 0, 9476, 9937, 0, 0, 2845, 0, 20999, 19385, 0, 0, 9937, 21427, 0, 0, 8323, 9476, 0, 0, 9937, 10616, 0, 0, 2845, 5083, 0, 0, 2349, 1888, 0, 14585, 0, 0, 8323, 7895, 0, 0, 11737, 8323, 0, 0, 3524, 7895, 0, 0, 3524, 2349, 0, 0, 2845, 2845, 0, 0, 768]
def tab5_11 : List Int := [0, 186410, 171172, 0, 0, 135107, 171172, 0, 0, 95087, 110325, 0, 0, 110325, 105322, 0, 0, 56298, 95087, 0, 0, 59751, 56298, 0, 186410, 0, 0, 143503, 143503, 0, 0, 143503, 95087, 0, 0, 55644, 110325, 0, 0, 50188, 52379, 0, 0, 76973, 58644, 0, 0, 29679, 0, 143503, 110325, 0, 0, 76973, 135107, 0, 0, 55644, 76973, 0, 0, 52379, 56298, 0, 0, 18668, 52379, 0, 0, 28043, 19753, 0, 95087, 0, 0, 58644, 52379, 0, 0, 76973, 59751, 0, 0, 28043, 56298, 0, 0, 29679, 19753, 0, 0, 19753, 19753, 0, 0, 7850, 0, 55644, 50188, 0, 0, 29679, 55644, 0, 0, 23694, 28043, 0, 0, 28043, 29679, 0, 0, 9486, 18668, 0, 0, 9486, 7850, 0]
def tab5_12 : List Int := [715164, 0, 0, 560107, 560107, 0, 0, 611410, 481906, 0, 0, 342136, 481906, 0, 0, 315351, 275300, 0, 0, 342136, 315351, 0, 0, 202026, 0, 659826, 611410, 0, 0, 499086, 560107, 0, 0, 256563, 334764, 0, 0, 383180, 315351, 0, 0, 160289, 334764, 0, 0, 167661, 187074, 0, 560107, 0, 0, 334764, 383180, 0, 0, 499086, 342136, 0, 0, 216304, 275300, 0, 0, 160289, 110553, 0, 0, 177148, 187074, 0, 0, 75950, 0, 334764, 315351, 0, 0, 187074, 342136, 0, 0, 167661, 177148, 0, 0, 187074, 202026, 0, 0, 75950, 110553, 0, 0, 65132, 55206, 0, 256563, 0, 0, 167661, 160289, 0, 0, 216304, 167661, 0, 0, 90902, 160289, 0, 0, 90902, 65132, 0, 0, 75950, 75950, 0, 0, 34672]
def tab5_13 : List Int := [0, 2546507, 2368587, 0, 0, 1961436, 2368587, 0, 0, 1474157, 1652077, 0, 0, 1652077, 1594514, 0, 0, 979751, 1474157, 0, 0, 1027174, 979751, 0, 2546507, 0, 0, 2053783, 2053783, 0, 0, 2053783, 1474157, 0, 0, 975292, 1652077, 0, 0, 899864, 907691, 0, 0, 1237228, 1004850, 0, 0, 605926, 0, 2053783, 1652077, 0, 0, 1237228, 1961436, 0, 0, 975292, 1237228, 0, 0, 907691, 979751, 0, 0, 422742, 907691, 0, 0, 570230, 428783, 0, 1474157, 0, 0, 1004850, 907691, 0, 0, 1237228, 1027174, 0, 0, 570230, 979751, 0, 0, 605926, 428783, 0, 0, 428783, 428783, 0, 0, 230960, 0, 975292, 899864, 0, 0, 605926, 975292, 0, 0, 517126, 570230, 0, 0, 570230, 605926, 0, 0, 266656, 422742, 0, 0, 266656, 230960, 0]
def tab5_14 : List Int := [9830188, 0, 0, 8035883, 8035883, 0, 0, 8620954, 7089335, 0, 0, 5390636, 7089335, 0, 0, 5053272, 4519270, 0, 0, 5390636, 5053272, 0, 0, 3592602, 0, 9200580, 8620954, 0, 0, 7306230, 8035883, 0, 0, 4324605, 5271153, 0, 0, 5850779, 5053272, 0, 0, 2983711, 5271153, 0, 0, 3103194, 3321075, 0, 8035883, 0, 0, 5271153, 5850779, 0, 0, 7306230, 5390636, 0, 0, 3758042, 4519270, 0, 0, 2983711, 2187999, 0, 0, 3143932, 3321075, 0, 0, 1688411, 0, 5271153, 5053272, 0, 0, 3321075, 5390636, 0, 0, 3103194, 3143932, 0, 0, 3321075, 3592602, 0, 0, 1688411, 2187999, 0, 0, 1496629, 1319486, 0, 4324605, 0, 0, 3103194, 2983711, 0, 0, 3758042, 3103194, 0, 0, 1959938, 2983711, 0, 0, 1959938, 1496629, 0, 0, 1688411, 1688411, 0, 0, 995232]
def tab5_15 : List Int := [0, 35687605, 33576360, 0, 0, 28768632, 33576360, 0, 0, 22804396, 24915641, 0, 0, 24915641, 24285214, 0, 0, 16486219, 22804396, 0, 0, 17139704, 16486219, 0, 35687605, 0, 0, 29813846, 29813846, 0, 0, 29813846, 22804396, 0, 0, 16456994, 24915641, 0, 0, 15464782, 15299497, 0, 0, 19656500, 16748694, 0, 0, 11367918, 0, 29813846, 24915641, 0, 0, 19656500, 28768632, 0, 0, 16456994, 19656500, 0, 0, 15299497, 16486219, 0, 0, 8548532, 15299497, 0, 0, 10727466, 8516971, 0, 22804396, 0, 0, 16748694, 15299497, 0, 0, 19656500, 17139704, 0, 0, 10727466, 16486219, 0, 0, 11367918, 8516971, 0, 0, 8516971, 8516971, 0, 0, 5499758, 0, 16456994, 15464782, 0, 0, 11367918, 16456994, 0, 0, 10126264, 10727466, 0, 0, 10727466, 11367918, 0, 0, 6140210, 8548532, 0, 0, 6140210, 5499758, 0]
def tab5_16 : List Int := [138527930, 0, 0, 117074479, 117074479, 0, 0, 123993452, 105581611, 0, 0, 84516241, 105581611, 0, 0, 80324523, 73187576, 0, 0, 84516241, 80324523, 0, 0, 61480060, 0, 131002902, 123993452, 0, 0, 108052824, 117074479, 0, 0, 71183166, 82676034, 0, 0, 89685484, 80324523, 0, 0, 52859663, 82676034, 0, 0, 54699870, 57051381, 0, 117074479, 0, 0, 82676034, 89685484, 0, 0, 108052824, 84516241, 0, 0, 63297954, 73187576, 0, 0, 52859663, 40881971, 0, 0, 54200434, 57051381, 0, 0, 33933179, 0, 82676034, 80324523, 0, 0, 57051381, 84516241, 0, 0, 54699870, 54200434, 0, 0, 57051381, 61480060, 0, 0, 33933179, 40881971, 0, 0, 30884405, 28033458, 0, 71183166, 0, 0, 54699870, 52859663, 0, 0, 63297954, 54699870, 0, 0, 38361858, 52859663, 0, 0, 38361858, 30884405, 0, 0, 33933179, 33933179, 0, 0, 23279936]
def tab5_17 : List Int := [0, 510598763, 485177472, 0, 0, 426718023, 485177472, 0, 0, 353098409, 378519700, 0, 0, 378519700, 371812268, 0, 0, 272043540, 353098409, 0, 0, 281020694, 272043540, 0, 510598763, 0, 0, 438806239, 438806239, 0, 0, 438806239, 353098409, 0, 0, 271857024, 378519700, 0, 0, 259067222, 253796962, 0, 0, 311078193, 274751808, 0, 0, 202972772, 0, 438806239, 378519700, 0, 0, 311078193, 426718023, 0, 0, 271857024, 311078193, 0, 0, 253796962, 272043540, 0, 0, 161607992, 253796962, 0, 0, 192644372, 159899989, 0, 353098409, 0, 0, 274751808, 253796962, 0, 0, 311078193, 281020694, 0, 0, 192644372, 272043540, 0, 0, 202972772, 159899989, 0, 0, 159899989, 159899989, 0, 0, 116130978, 0, 271857024, 259067222, 0, 0, 202972772, 271857024, 0, 0, 186123456, 192644372, 0, 0, 192644372, 202972772, 0, 0, 126459378, 161607992, 0, 0, 126459378, 116130978, 0]
def tab5_18 : List Int := [1991552470, 0, 0, 1729221434, 1729221434, 0, 0, 1813102174, 1588607849, 0, 0, 1323716996, 1588607849, 0, 0, 1271706025, 1176403742, 0, 0, 1323716996, 1271706025, 0, 0, 1028080546, 0, 1898810004, 1813102174, 0, 0, 1615408694, 1729221434, 0, 0, 1155879679, 1296493264, 0, 0, 1382201094, 1271706025, 0, 0, 908481328, 1296493264, 0, 0, 935705060, 960492299, 0, 1729221434, 0, 0, 1296493264, 1382201094, 0, 0, 1615408694, 1323716996, 0, 0, 1047436613, 1176403742, 0, 0, 908481328, 735204932, 0, 0, 917419516, 960492299, 0, 0, 640611731, 0, 1296493264, 1271706025, 0, 0, 960492299, 1323716996, 0, 0, 935705060, 917419516, 0, 0, 960492299, 1028080546, 0, 0, 640611731, 735204932, 0, 0, 595134717, 552061934, 0, 1155879679, 0, 0, 935705060, 908481328, 0, 0, 1047436613, 935705060, 0, 0, 708199978, 908481328, 0, 0, 708199978, 595134717, 0, 0, 640611731, 640611731, 0, 0, 485180712]
def tab5_19 : List Int := [0, 7432686082, 7122483927, 0, 0, 6397568558, 7122483927, 0, 0, 5480524134, 5790726289, 0, 0, 5790726289, 5720627748, 0, 0, 4436682612, 5480524134, 0, 0, 4559208627, 4436682612, 0, 7432686082, 0, 0, 6539933396, 6539933396, 0, 0, 6539933396, 5480524134, 0, 0, 4435514616, 5790726289, 0, 0, 4271772092, 4168594237, 0, 0, 4919830870, 4464396648, 0, 0, 3512878665, 0, 6539933396, 5790726289, 0, 0, 4919830870, 6397568558, 0, 0, 4435514616, 4919830870, 0, 0, 4168594237, 4436682612, 0, 0, 2924909722, 4168594237, 0, 0, 3356740621, 2888370896, 0, 5480524134, 0, 0, 4464396648, 4168594237, 0, 0, 4919830870, 4559208627, 0, 0, 3356740621, 4436682612, 0, 0, 3512878665, 2888370896, 0, 0, 2888370896, 2888370896, 0, 0, 2272989094, 0, 4435514616, 4271772092, 0, 0, 3512878665, 4435514616, 0, 0, 3287810076, 3356740621, 0, 0, 3356740621, 3512878665, 0, 0, 2429127138, 2924909722, 0, 0, 2429127138, 2272989094, 0]
def tab5_20 : List Int := [29110340018, 0, 0, 25850712170, 25850712170, 0, 0, 26885829694, 24114362098, 0, 0, 20750289920, 24114362098, 0, 0, 20102231142, 18832685750, 0, 0, 20750289920, 20102231142, 0, 0, 16945452516, 0, 27945238956, 26885829694, 0, 0, 24397266220, 25850712170, 0, 0, 18623325458, 20359675530, 0, 0, 21419084792, 20102231142, 0, 0, 15309985615, 20359675530, 0, 0, 15700600005, 15958044393, 0, 25850712170, 0, 0, 20359675530, 21419084792, 0, 0, 24397266220, 20750289920, 0, 0, 17147600723, 18832685750, 0, 0, 15309985615, 12870245751, 0, 0, 15333536624, 15958044393, 0, 0, 11599148377, 0, 20359675530, 20102231142, 0, 0, 15958044393, 20750289920, 0, 0, 15700600005, 15333536624, 0, 0, 15958044393, 16945452516, 0, 0, 11599148377, 12870245751, 0, 0, 10947227749, 10322719980, 0, 18623325458, 0, 0, 15700600005, 15309985615, 0, 0, 17147600723, 15700600005, 0, 0, 12586556500, 15309985615, 0, 0, 12586556500, 10947227749, 0, 0, 11599148377, 11599148377, 0, 0, 9404232464]
def tab5 : Nat → List Int
  | 0 => tab5_0
  | 1 => tab5_1
  | 2 => tab5_2
  | 3 => tab5_3
  | 4 => tab5_4
  | 5 => tab5_5
  | 6 => tab5_6
  | 7 => tab5_7
  | 8 => tab5_8
  | 9 => tab5_9
  | 10 => tab5_10
  | 11 => tab5_11
  | 12 => tab5_12
  | 13 => tab5_13
  | 14 => tab5_14
  | 15 => tab5_15
  | 16 => tab5_16
  | 17 => tab5_17
  | 18 => tab5_18
  | 19 => tab5_19
  | 20 => tab5_20
  | _ => []
theorem ordL5_at : spec_alOrders.f 4000 5 = some ordL5 := by decide +kernel
theorem tab5_step0 : spec_chOrders.l0 1000 5 1 ordL5 tab5_0 = some tab5_1 := by decide +kernel
theorem tab5_step1 : spec_chOrders.l0 1000 5 1 ordL5 tab5_1 = some tab5_2 := by decide +kernel
theorem tab5_step2 : spec_chOrders.l0 1000 5 1 ordL5 tab5_2 = some tab5_3 := by decide +kernel
theorem tab5_step3 : spec_chOrders.l0 1000 5 1 ordL5 tab5_3 = some tab5_4 := by decide +kernel
theorem tab5_step4 : spec_chOrders.l0 1000 5 1 ordL5 tab5_4 = some tab5_5 := by decide +kernel
theorem tab5_step5 : spec_chOrders.l0 1000 5 1 ordL5 tab5_5 = some tab5_6 := by decide +kernel
theorem tab5_step6 : spec_chOrders.l0 1000 5 1 ordL5 tab5_6 = some tab5_7 := by decide +kernel
theorem tab5_step7 : spec_chOrders.l0 1000 5 1 ordL5 tab5_7 = some tab5_8 := by decide +kernel
theorem tab5_step8 : spec_chOrders.l0 1000 5 1 ordL5 tab5_8 = some tab5_9 := by decide +kernel
theorem tab5_step9 : spec_chOrders.l0 1000 5 1 ordL5 tab5_9 = some tab5_10 := by decide +kernel
theorem tab5_step10 : spec_chOrders.l0 1000 5 1 ordL5 tab5_10 = some tab5_11 := by decide +kernel
theorem tab5_step11 : spec_chOrders.l0 1000 5 1 ordL5 tab5_11 = some tab5_12 := by decide +kernel
theorem tab5_step12 : spec_chOrders.l0 1000 5 1 ordL5 tab5_12 = some tab5_13 := by decide +kernel
theorem tab5_step13 : spec_chOrders.l0 1000 5 1 ordL5 tab5_13 = some tab5_14 := by decide +kernel
theorem tab5_step14 : spec_chOrders.l0 1000 5 1 ordL5 tab5_14 = some tab5_15 := by decide +kernel
theorem tab5_step15 : spec_chOrders.l0 1000 5 1 ordL5 tab5_15 = some tab5_16 := by decide +kernel
theorem tab5_step16 : spec_chOrders.l0 1000 5 1 ordL5 tab5_16 = some tab5_17 := by decide +kernel
theorem tab5_step17 : spec_chOrders.l0 1000 5 1 ordL5 tab5_17 = some tab5_18 := by decide +kernel
theorem tab5_step18 : spec_chOrders.l0 1000 5 1 ordL5 tab5_18 = some tab5_19 := by decide +kernel
theorem tab5_step19 : spec_chOrders.l0 1000 5 1 ordL5 tab5_19 = some tab5_20 := by decide +kernel
theorem tab5_step : ∀ i, i < 20 → spec_chOrders.l0 1000 5 1 ordL5 (tab5 i) = some (tab5 (i + 1))
  | 0, _ => tab5_step0
  | 1, _ => tab5_step1
  | 2, _ => tab5_step2
  | 3, _ => tab5_step3
  | 4, _ => tab5_step4
  | 5, _ => tab5_step5
  | 6, _ => tab5_step6
  | 7, _ => tab5_step7
  | 8, _ => tab5_step8
  | 9, _ => tab5_step9
  | 10, _ => tab5_step10
  | 11, _ => tab5_step11
  | 12, _ => tab5_step12
  | 13, _ => tab5_step13
  | 14, _ => tab5_step14
  | 15, _ => tab5_step15
  | 16, _ => tab5_step16
  | 17, _ => tab5_step17
  | 18, _ => tab5_step18
  | 19, _ => tab5_step19
  | i + 20, h => absurd h (by omega)
theorem ch5 (k : Nat) (hk : k ≤ 20) (K : Nat) (hK : 25000 ≤ K) : spec_alOrders.f K 5 = some ordL5 ∧ spec_chOrders.f K 5 (k : Int) = some (tab5 k) :=
  ch_at 5 ordL5 tab5 1000 4000 ordL5_at (by decide) (by decide) (by decide) tab5_step k hk K (by omega)
end Go.Proofs.Ytabobnlpcapohaa.L
namespace Go.Proofs.Ytabobnlpcapohaa.L
open Go.RowKit Go.Proofs.Ytabobnlpcapohaa.Q Go.Proofs.YtabobnlpcapohaaW.PrintWords Go.Proofs.YtabobnlpcapohaaW.PrintLast
set_option linter.unusedVariables false
set_option linter.unusedSimpArgs false

theorem wrap_id {n : Int} (h1 : -9223372036854775808 ≤ n) (h2 : n ≤ 9223372036854775807) : wrap64 n = n := by unfold wrap64; omega
theorem rd_nat (l : List Int) (i : Nat) (h : i < l.length) : rd l (i : Int) = l[i] := by
  unfold rd
  rw [Int.toNat_natCast, List.getD_eq_getElem?_getD, List.getElem?_eq_getElem h]
  rfl
end Go.Proofs.Ytabobnlpcapohaa.L
namespace Go.Proofs.Ytabobnlpcapohaa.L
open Go.RowKit Go.Proofs.Ytabobnlpcapohaa.Q Go.Proofs.YtabobnlpcapohaaW.PrintWords Go.Proofs.YtabobnlpcapohaaW.PrintLast
set_option linter.unusedVariables false
set_option linter.unusedSimpArgs false
theorem l1In (a lo hi : Int) : spec_l1In.f a lo hi = some (decide (lo ≤ a ∧ a ≤ hi)) := by
  unfold spec_l1In.f
  by_cases h : a ≥ lo
  · rw [if_pos h]; congr 1; simp [h]
  · rw [if_neg h]; congr 1; simp; omega
theorem between (a lo hi : Int) : impl_between.f a lo hi = some (decide (lo ≤ a ∧ a ≤ hi)) := by
  unfold impl_between.f
  by_cases h : a ≥ lo
  · rw [if_pos h]; congr 1; simp [h]
  · rw [if_neg h]; congr 1; simp; omega
end Go.Proofs.Ytabobnlpcapohaa.L
namespace Go.Proofs.Ytabobnlpcapohaa.L
open Go.RowKit Go.Proofs.Ytabobnlpcapohaa.Q Go.Proofs.YtabobnlpcapohaaW.PrintWords Go.Proofs.YtabobnlpcapohaaW.PrintLast
set_option linter.unusedVariables false
set_option linter.unusedSimpArgs false
theorem l1Has_l0 (l : List Int) (a : Int) (hb : l.length ≤ 35184372088832) (d : Nat) : ∀ (i k : Nat), i + d = l.length → d < k → spec_l1Has.l0 k a l (l.length : Int) (i : Int) = some (decide (a ∈ l.drop i)) := by
  induction d with
  | zero =>
    intro i k hi hk
    obtain ⟨k, rfl⟩ : ∃ m, k = m + 1 := ⟨k - 1, by omega⟩
    simp only [spec_l1Has.l0]
    rw [if_neg (by omega), show i = l.length from by omega, List.drop_length]
    simp
  | succ d ih =>
    intro i k hi hk
    obtain ⟨k, rfl⟩ : ∃ m, k = m + 1 := ⟨k - 1, by omega⟩
    simp only [spec_l1Has.l0]
    rw [if_pos (by omega), if_pos (by omega), if_pos (by omega), rd_nat l i (by omega), wrap_id (by omega) (by omega), List.drop_eq_getElem_cons (by omega)]
    by_cases h : l[i] = a
    · rw [if_pos h]
      simp [h]
    · rw [if_neg h]
      have := ih (i + 1) k (by omega) (by omega)
      have e : decide (a ∈ l[i] :: l.drop (i + 1)) = decide (a ∈ l.drop (i + 1)) := by
        congr 1
        rw [List.mem_cons]
        simp [Ne.symm h]
      rw [e]
      exact_mod_cast this
theorem l1Has (l : List Int) (a : Int) (hb : l.length ≤ 35184372088832) (k : Nat) (hk : l.length + 1 ≤ k) : spec_l1Has.f k l a = some (decide (a ∈ l)) := by
  unfold spec_l1Has.f
  have := l1Has_l0 l a hb l.length 0 k (by omega) (by omega)
  simpa using this
theorem index_l0 (l : List Int) (a : Int) (hb : l.length ≤ 35184372088832) (d : Nat) : ∀ (i k : Nat), i + d = l.length → d < k → ∃ r, slices_Index_int_int.l0 k l a (l.length : Int) (i : Int) = some r ∧ decide (r ≥ 0) = decide (a ∈ l.drop i) := by
  induction d with
  | zero =>
    intro i k hi hk
    obtain ⟨k, rfl⟩ : ∃ m, k = m + 1 := ⟨k - 1, by omega⟩
    simp only [slices_Index_int_int.l0]
    rw [if_neg (by omega), show i = l.length from by omega, List.drop_length]
    exact ⟨-1, rfl, by simp⟩
  | succ d ih =>
    intro i k hi hk
    obtain ⟨k, rfl⟩ : ∃ m, k = m + 1 := ⟨k - 1, by omega⟩
    simp only [slices_Index_int_int.l0]
    rw [if_pos (by omega), if_pos (by omega), if_pos (by omega), rd_nat l i (by omega), wrap_id (by omega) (by omega), List.drop_eq_getElem_cons (by omega)]
    by_cases h : a = l[i]
    · rw [if_pos h]
      exact ⟨_, rfl, by rw [decide_eq_true (by omega), decide_eq_true (by rw [h]; exact List.mem_cons_self)]⟩
    · rw [if_neg h]
      obtain ⟨r, e1, e2⟩ := ih (i + 1) k (by omega) (by omega)
      refine ⟨r, by exact_mod_cast e1, ?_⟩
      rw [e2]
      congr 1
      rw [List.mem_cons]
      simp [h]
theorem contains (l : List Int) (a : Int) (hb : l.length ≤ 35184372088832) (k : Nat) (hk : l.length + 1 ≤ k) : slices_Contains_int_int.f k l a = some (decide (a ∈ l)) := by
  unfold slices_Contains_int_int.f slices_Index_int_int.f
  obtain ⟨r, e1, e2⟩ := index_l0 l a hb l.length 0 k (by omega) (by omega)
  have e1' : slices_Index_int_int.l0 k l a (l.length : Int) 0 = some r := e1
  rw [e1', Option.bind_some, e2]
  simp
def ordGo (n : Int) (seen : List Int) : List Int → Bool
  | [] => true
  | x :: xs => decide (0 ≤ x ∧ x ≤ n - 1) && !decide (x ∈ seen) && ordGo n (seen ++ [x]) xs
def isOrd (p : List Int) : Bool := decide ((1 : Int) ≤ (p.length : Int) ∧ (p.length : Int) ≤ 8) && ordGo (p.length : Int) [] p
theorem ord_l0 (l : List Int) (hb : l.length ≤ 8) (d : Nat) : ∀ (i k : Nat), i + d = l.length → d + 9 < k → spec_laOrder.l0 k l l (l.length : Int) (i : Int) = some (ordGo (l.length : Int) (l.take i) (l.drop i)) ∧ impl_isOrder.l0 k l l (l.length : Int) (i : Int) = some (ordGo (l.length : Int) (l.take i) (l.drop i)) := by
  induction d with
  | zero =>
    intro i k hi hk
    obtain ⟨k, rfl⟩ : ∃ m, k = m + 1 := ⟨k - 1, by omega⟩
    simp only [spec_laOrder.l0, impl_isOrder.l0]
    rw [if_neg (by omega), if_neg (by omega), show i = l.length from by omega, List.drop_length]
    exact ⟨rfl, rfl⟩
  | succ d ih =>
    intro i k hi hk
    obtain ⟨k, rfl⟩ : ∃ m, k = m + 1 := ⟨k - 1, by omega⟩
    have ht : (l.take ((i : Int)).toNat).length ≤ 8 := by rw [List.length_take]; omega
    have IH := ih (i + 1) k (by omega) (by omega)
    rw [List.take_succ_eq_append_getElem (by omega)] at IH
    simp only [spec_laOrder.l0, impl_isOrder.l0]
    rw [List.drop_eq_getElem_cons (by omega)]
    simp only [ordGo]
    have c1 : (i : Int) < (l.length : Int) := by omega
    have c2 : (0 : Int) ≤ (i : Int) := by omega
    have c3 : (i : Int) ≤ (l.length : Int) := by omega
    have e0 : ((i : Int)).toNat = i := by omega
    have e1 : wrap64 ((l.length : Int) - 1) = (l.length : Int) - 1 := wrap_id (by omega) (by omega)
    have e2 : wrap64 ((i : Int) + 1) = ((i + 1 : Nat) : Int) := by rw [wrap_id (by omega) (by omega)]; omega
    simp only [if_pos c1, if_pos c2, if_pos c3, rd_nat l i (by omega), l1In, between, e1, e2, Option.bind_some]
    by_cases h : 0 ≤ l[i] ∧ l[i] ≤ (l.length : Int) - 1
    · rw [decide_eq_true h, if_pos rfl, if_pos rfl, l1Has _ _ (by omega) k (by omega), contains _ _ (by omega) k (by omega), Option.bind_some, Option.bind_some, e0, Bool.true_and]
      by_cases h2 : l[i] ∈ l.take i
      · rw [decide_eq_true h2]
        exact ⟨rfl, rfl⟩
      · rw [decide_eq_false h2, if_neg (by decide), if_neg (by decide)]
        exact IH
    · rw [decide_eq_false h, if_neg (by decide), if_neg (by decide)]
      exact ⟨rfl, rfl⟩
theorem laOrder (l : List Int) (k : Nat) (hk : 20 ≤ k) : spec_laOrder.f k l = some (isOrd l) := by
  unfold spec_laOrder.f isOrd
  rw [l1In, Option.bind_some]
  by_cases h : (1 : Int) ≤ (l.length : Int) ∧ (l.length : Int) ≤ 8
  · rw [decide_eq_true h, if_pos rfl]
    exact (ord_l0 l (by omega) l.length 0 k (by omega) (by omega)).1
  · rw [decide_eq_false h]
    rfl
theorem isOrder (l : List Int) (k : Nat) (hk : 20 ≤ k) : impl_isOrder.f k l = some (isOrd l) := by
  unfold impl_isOrder.f isOrd
  rw [between, Option.bind_some]
  by_cases h : (1 : Int) ≤ (l.length : Int) ∧ (l.length : Int) ≤ 8
  · rw [decide_eq_true h, if_pos rfl]
    exact (ord_l0 l (by omega) l.length 0 k (by omega) (by omega)).2
  · rw [decide_eq_false h]
    rfl
theorem ordGo_mem (n : Int) : ∀ (l seen : List Int), ordGo n seen l = true → ∀ x ∈ l, 0 ≤ x ∧ x ≤ n - 1
  | [], _, _, x, hx => by simp at hx
  | y :: ys, seen, h, x, hx => by
    simp only [ordGo, Bool.and_eq_true, decide_eq_true_eq] at h
    rcases List.mem_cons.1 hx with rfl | hx
    · exact h.1.1
    · exact ordGo_mem n ys _ h.2 x hx
theorem isOrd_facts {p : List Int} (h : isOrd p = true) : 1 ≤ p.length ∧ p.length ≤ 8 ∧ ∀ x ∈ p, 0 ≤ x ∧ x ≤ (p.length : Int) - 1 := by
  unfold isOrd at h
  simp only [Bool.and_eq_true, decide_eq_true_eq] at h
  exact ⟨by omega, by omega, ordGo_mem _ _ _ h.2⟩
end Go.Proofs.Ytabobnlpcapohaa.L
namespace Go.Proofs.Ytabobnlpcapohaa.L
open Go.RowKit Go.Proofs.Ytabobnlpcapohaa.Q Go.Proofs.YtabobnlpcapohaaW.PrintWords Go.Proofs.YtabobnlpcapohaaW.PrintLast
set_option linter.unusedVariables false
set_option linter.unusedSimpArgs false
def keyB (p : List Int) : List UInt8 := p.map fun x => UInt8.ofNat (48 + x.toNat)
def nbv (nb : List (List Nat)) (i r : Nat) : Nat := (nb.getD i []).getD r 0
def tabOk (n : Nat) (O : List (List Int)) (nb : List (List Nat)) : Bool := (List.range O.length).all fun i => decide ((keyB (O.getD i [])).length = n) && (List.range (n - 1)).all fun r => decide (nbv nb i r < O.length) && decide (keyB (O.getD (nbv nb i r) []) = mdSw (keyB (O.getD i [])) r)
def stepOk (n len : Nat) (nb : List (List Nat)) (T T1 : List Int) : Bool := (List.range len).all fun i => decide (T1.getD i 0 = mdSum (n - 1) fun r => T.getD (nbv nb i r) 0) && decide (0 ≤ T1.getD i 0 ∧ T1.getD i 0 ≤ 4611686018427387904) && decide (decide (0 < T1.getD i 0) = mdAny (n - 1) fun r => decide (0 < T.getD (nbv nb i r) 0))
theorem mdTab (n : Nat) (q0 : List UInt8) (O : List (List Int)) (nb : List (List Nat)) (T : Nat → List Int) (h1 : tabOk n O nb = true) (h0 : ∀ i, i < O.length → (T 0).getD i 0 = (if keyB (O.getD i []) = q0 then 1 else 0)) (hs : ∀ j, j < 20 → stepOk n O.length nb (T j) (T (j + 1)) = true) :
    ∀ j, j ≤ 20 → ∀ i, i < O.length → mdC n q0 j (keyB (O.getD i [])) = (T j).getD i 0 ∧ mdH n q0 j (keyB (O.getD i [])) = decide (0 < (T j).getD i 0)
  | 0, _, i, hi => by
    have h := h0 i hi
    unfold mdC mdH
    by_cases e : keyB (O.getD i []) = q0
    · rw [if_pos e] at h
      rw [if_pos e, h, decide_eq_true e]
      exact ⟨rfl, rfl⟩
    · rw [if_neg e] at h
      rw [if_neg e, h, decide_eq_false e]
      exact ⟨rfl, rfl⟩
  | j + 1, hj, i, hi => by
    have ih := mdTab n q0 O nb T h1 h0 hs j (by omega)
    have a := List.all_eq_true.1 h1 i (List.mem_range.2 hi)
    rw [Bool.and_eq_true] at a
    have hl := of_decide_eq_true a.1
    have hn : ∀ r, r < n - 1 → nbv nb i r < O.length ∧ keyB (O.getD (nbv nb i r) []) = mdSw (keyB (O.getD i [])) r := fun r hr => by
      have b := List.all_eq_true.1 a.2 r (List.mem_range.2 hr)
      rw [Bool.and_eq_true] at b
      exact ⟨of_decide_eq_true b.1, of_decide_eq_true b.2⟩
    have c := List.all_eq_true.1 (hs j (by omega)) i (List.mem_range.2 hi)
    rw [Bool.and_eq_true, Bool.and_eq_true] at c
    have c1 := of_decide_eq_true c.1.1
    have c2 := of_decide_eq_true c.1.2
    have c3 := of_decide_eq_true c.2
    constructor
    · unfold mdC mdStepC
      rw [if_pos hl, mdSum_congr (n - 1) (g := fun r => (T j).getD (nbv nb i r) 0) (fun r hr => by rw [← (hn r hr).2]; exact (ih _ (hn r hr).1).1), ← c1]
      unfold wrap64
      omega
    · unfold mdH mdStepH
      rw [decide_eq_true hl, Bool.true_and, mdAny_congr (n - 1) (g := fun r => decide (0 < (T j).getD (nbv nb i r) 0)) (fun r hr => by rw [← (hn r hr).2]; exact (ih _ (hn r hr).1).2), c3]
def listsN (n : Nat) : Nat → List (List Int)
  | 0 => [[]]
  | d + 1 => (List.range n).flatMap fun x => (listsN n d).map fun l => ((x : Nat) : Int) :: l
theorem listsN_mem (n : Nat) : ∀ (d : Nat) (l : List Int), l.length = d → (∀ x ∈ l, 0 ≤ x ∧ x ≤ (n : Int) - 1) → l ∈ listsN n d
  | 0, [], _, _ => by simp [listsN]
  | d + 1, x :: l, h, hx => by
    obtain ⟨h1, h2⟩ := hx x List.mem_cons_self
    unfold listsN
    rw [List.mem_flatMap]
    refine ⟨x.toNat, List.mem_range.2 (by omega), List.mem_map.2 ⟨l, listsN_mem n d l (by simpa using h) (fun y hy => hx y (List.mem_cons_of_mem _ hy)), ?_⟩⟩
    rw [show ((x.toNat : Nat) : Int) = x by omega]
theorem memOf {n : Nat} {O : List (List Int)} (h : ((listsN n n).all fun l => !isOrd l || O.contains l) = true) (l : List Int) (ho : isOrd l = true) (hl : l.length = n) : ∃ i, i < O.length ∧ l = O.getD i [] := by
  have hm := listsN_mem n n l hl (fun x hx => by have := (isOrd_facts ho).2.2 x hx; rw [hl] at this; exact this)
  have hc := List.all_eq_true.1 h l hm
  rw [ho] at hc
  have hc2 : l ∈ O := by simpa using hc
  obtain ⟨i, hi, e⟩ := List.getElem_of_mem hc2
  exact ⟨i, hi, by rw [List.getD_eq_getElem?_getD, List.getElem?_eq_getElem hi, e]; rfl⟩
structure MadeFacts (n : Nat) (O : List (List Int)) (T : Nat → List Int) : Prop where
  ch : ∀ k : Nat, k ≤ 20 → ∀ K, 25000 ≤ K → spec_alOrders.f K (n : Int) = some O ∧ spec_chOrders.f K (n : Int) (k : Int) = some (T k)
  id : impl_identity.f 20 (n : Int) = some (O.getD 0 [])
  key : ∀ i, i < O.length → ∃ q, impl_orderKey.f 20 (O.getD i []) = some q ∧ q.data.toList = keyB (O.getD i [])
  len : ∀ i, i < O.length → (O.getD i []).length = n
  rank : ∀ i, i < O.length → spec_alRank.f 40 (O.getD i []) = some (i : Int)
  mem : ∀ l, isOrd l = true → l.length = n → ∃ i, i < O.length ∧ l = O.getD i []
  tab : ∀ j, j ≤ 20 → ∀ i, i < O.length → mdC n (keyB (O.getD 0 [])) j (keyB (O.getD i [])) = (T j).getD i 0 ∧ mdH n (keyB (O.getD 0 [])) j (keyB (O.getD i [])) = decide (0 < (T j).getD i 0)
  size : ∀ j, j ≤ 20 → (T j).length = O.length
  some_ : 0 < O.length ∧ O.length ≤ 120
  perms : mdPerms n (keyB (O.getD 0 [])) = O.map keyB
  closed : mdClosed n (keyB (O.getD 0 [])) (O.map keyB) = true
  cnt : ∀ k, k ≤ 20 → spec_CountOrdersMade.l0 200 0 (T k) ((T k).length : Int) 0 = some ((((T k).filter fun x => decide (0 < x)).length : Int), true)
theorem keyOf_fin {O : List (List Int)} (h : (O.all fun p => decide ((impl_orderKey.f 20 p).map (fun s => s.data.toList) = some (keyB p))) = true) (i : Nat) (hi : i < O.length) : ∃ q, impl_orderKey.f 20 (O.getD i []) = some q ∧ q.data.toList = keyB (O.getD i []) := by
  have hm : O.getD i [] ∈ O := by rw [List.getD_eq_getElem?_getD, List.getElem?_eq_getElem hi]; exact List.getElem_mem hi
  have := of_decide_eq_true (List.all_eq_true.1 h _ hm)
  obtain ⟨q, e1, e2⟩ := Option.map_eq_some_iff.1 this
  exact ⟨q, e1, e2⟩
theorem told_true {a0 a1 : Int} (h : impl_isTold.f a0 a1 = some true) : 2 ≤ a0 ∧ a0 ≤ 5 ∧ 0 ≤ a1 ∧ a1 ≤ 20 := by
  unfold impl_isTold.f impl_isFall.f impl_between.f at h
  by_cases h1 : a0 ≥ 2
  · rw [if_pos h1, Option.bind_some] at h
    by_cases h2 : a0 ≤ 6
    · rw [decide_eq_true h2, if_pos rfl] at h
      by_cases h3 : a1 ≥ 0
      · rw [if_pos h3, Option.bind_some, Option.bind_some] at h
        by_cases h4 : a1 ≤ 20
        · rw [decide_eq_true h4, if_pos rfl] at h
          have := of_decide_eq_true (Option.some.inj h)
          omega
        · rw [decide_eq_false h4] at h; simp at h
      · rw [if_neg h3] at h; simp at h
    · rw [decide_eq_false h2] at h; simp at h
  · rw [if_neg h1] at h; simp at h
theorem told_same (a0 a1 : Int) : spec_chResults.f a0 a1 = impl_isTold.f a0 a1 := rfl
theorem told_some (a0 a1 : Int) : ∃ b, impl_isTold.f a0 a1 = some b := by
  unfold impl_isTold.f impl_isFall.f impl_between.f
  split
  · rw [Option.bind_some]
    split
    · split
      · rw [Option.bind_some, Option.bind_some]
        split
        · exact ⟨_, rfl⟩
        · exact ⟨_, rfl⟩
      · rw [Option.bind_some, Option.bind_some]
        exact ⟨_, rfl⟩
    · exact ⟨_, rfl⟩
  · rw [Option.bind_some]
    exact ⟨_, rfl⟩
def nb2 : List (List Nat) := [[1], [0]]
theorem tabOk2 : tabOk 2 ordL2 nb2 = true := by decide +kernel
theorem stepOk2_0 : stepOk 2 2 nb2 tab2_0 tab2_1 = true := by decide +kernel
theorem stepOk2_1 : stepOk 2 2 nb2 tab2_1 tab2_2 = true := by decide +kernel
theorem stepOk2_2 : stepOk 2 2 nb2 tab2_2 tab2_3 = true := by decide +kernel
theorem stepOk2_3 : stepOk 2 2 nb2 tab2_3 tab2_4 = true := by decide +kernel
theorem stepOk2_4 : stepOk 2 2 nb2 tab2_4 tab2_5 = true := by decide +kernel
theorem stepOk2_5 : stepOk 2 2 nb2 tab2_5 tab2_6 = true := by decide +kernel
theorem stepOk2_6 : stepOk 2 2 nb2 tab2_6 tab2_7 = true := by decide +kernel
theorem stepOk2_7 : stepOk 2 2 nb2 tab2_7 tab2_8 = true := by decide +kernel
theorem stepOk2_8 : stepOk 2 2 nb2 tab2_8 tab2_9 = true := by decide +kernel
theorem stepOk2_9 : stepOk 2 2 nb2 tab2_9 tab2_10 = true := by decide +kernel
theorem stepOk2_10 : stepOk 2 2 nb2 tab2_10 tab2_11 = true := by decide +kernel
theorem stepOk2_11 : stepOk 2 2 nb2 tab2_11 tab2_12 = true := by decide +kernel
theorem stepOk2_12 : stepOk 2 2 nb2 tab2_12 tab2_13 = true := by decide +kernel
theorem stepOk2_13 : stepOk 2 2 nb2 tab2_13 tab2_14 = true := by decide +kernel
theorem stepOk2_14 : stepOk 2 2 nb2 tab2_14 tab2_15 = true := by decide +kernel
theorem stepOk2_15 : stepOk 2 2 nb2 tab2_15 tab2_16 = true := by decide +kernel
theorem stepOk2_16 : stepOk 2 2 nb2 tab2_16 tab2_17 = true := by decide +kernel
theorem stepOk2_17 : stepOk 2 2 nb2 tab2_17 tab2_18 = true := by decide +kernel
theorem stepOk2_18 : stepOk 2 2 nb2 tab2_18 tab2_19 = true := by decide +kernel
theorem stepOk2_19 : stepOk 2 2 nb2 tab2_19 tab2_20 = true := by decide +kernel
theorem stepOk2 : ∀ j, j < 20 → stepOk 2 ordL2.length nb2 (tab2 j) (tab2 (j + 1)) = true
  | 0, _ => stepOk2_0
  | 1, _ => stepOk2_1
  | 2, _ => stepOk2_2
  | 3, _ => stepOk2_3
  | 4, _ => stepOk2_4
  | 5, _ => stepOk2_5
  | 6, _ => stepOk2_6
  | 7, _ => stepOk2_7
  | 8, _ => stepOk2_8
  | 9, _ => stepOk2_9
  | 10, _ => stepOk2_10
  | 11, _ => stepOk2_11
  | 12, _ => stepOk2_12
  | 13, _ => stepOk2_13
  | 14, _ => stepOk2_14
  | 15, _ => stepOk2_15
  | 16, _ => stepOk2_16
  | 17, _ => stepOk2_17
  | 18, _ => stepOk2_18
  | 19, _ => stepOk2_19
  | j + 20, h => absurd h (by omega)
theorem start2 : ∀ i ∈ List.range 2, (tab2 0).getD i 0 = (if keyB (ordL2.getD i []) = keyB (ordL2.getD 0 []) then 1 else 0) := by decide +kernel
theorem key2 : (ordL2.all fun p => decide ((impl_orderKey.f 20 p).map (fun s => s.data.toList) = some (keyB p))) = true := by decide +kernel
theorem rank2 : ∀ i ∈ List.range 2, spec_alRank.f 40 (ordL2.getD i []) = some (i : Int) := by decide +kernel
theorem len2 : ∀ i ∈ List.range 2, (ordL2.getD i []).length = 2 := by decide +kernel
theorem mem2 : ((listsN 2 2).all fun l => !isOrd l || ordL2.contains l) = true := by decide +kernel
theorem size2 : ∀ j ∈ List.range 21, (tab2 j).length = ordL2.length := by decide +kernel
theorem perms2 : mdPerms 2 (keyB (ordL2.getD 0 [])) = ordL2.map keyB := by decide +kernel
theorem closed2 : mdClosed 2 (keyB (ordL2.getD 0 [])) (ordL2.map keyB) = true := by decide +kernel
theorem cnt2 : ∀ k ∈ List.range 21, spec_CountOrdersMade.l0 200 0 (tab2 k) ((tab2 k).length : Int) 0 = some ((((tab2 k).filter fun x => decide (0 < x)).length : Int), true) := by decide +kernel
theorem facts2 : MadeFacts 2 ordL2 tab2 where
  ch := fun k hk K hK => ch2 k hk K hK
  id := by decide +kernel
  key := keyOf_fin key2
  len := fun i hi => len2 i (List.mem_range.2 hi)
  rank := fun i hi => rank2 i (List.mem_range.2 hi)
  mem := memOf mem2
  tab := mdTab 2 _ ordL2 nb2 tab2 tabOk2 (fun i hi => start2 i (List.mem_range.2 hi)) stepOk2
  size := fun j hj => size2 j (List.mem_range.2 (by omega))
  some_ := ⟨by decide, by decide⟩
  perms := perms2
  closed := closed2
  cnt := fun k hk => cnt2 k (List.mem_range.2 (by omega))
def nb3 : List (List Nat) := [[2, 1], [4, 0], [0, 3], [5, 2], [1, 5], [3, 4]]
theorem tabOk3 : tabOk 3 ordL3 nb3 = true := by decide +kernel
theorem stepOk3_0 : stepOk 3 6 nb3 tab3_0 tab3_1 = true := by decide +kernel
theorem stepOk3_1 : stepOk 3 6 nb3 tab3_1 tab3_2 = true := by decide +kernel
theorem stepOk3_2 : stepOk 3 6 nb3 tab3_2 tab3_3 = true := by decide +kernel
theorem stepOk3_3 : stepOk 3 6 nb3 tab3_3 tab3_4 = true := by decide +kernel
theorem stepOk3_4 : stepOk 3 6 nb3 tab3_4 tab3_5 = true := by decide +kernel
theorem stepOk3_5 : stepOk 3 6 nb3 tab3_5 tab3_6 = true := by decide +kernel
theorem stepOk3_6 : stepOk 3 6 nb3 tab3_6 tab3_7 = true := by decide +kernel
theorem stepOk3_7 : stepOk 3 6 nb3 tab3_7 tab3_8 = true := by decide +kernel
theorem stepOk3_8 : stepOk 3 6 nb3 tab3_8 tab3_9 = true := by decide +kernel
theorem stepOk3_9 : stepOk 3 6 nb3 tab3_9 tab3_10 = true := by decide +kernel
theorem stepOk3_10 : stepOk 3 6 nb3 tab3_10 tab3_11 = true := by decide +kernel
theorem stepOk3_11 : stepOk 3 6 nb3 tab3_11 tab3_12 = true := by decide +kernel
theorem stepOk3_12 : stepOk 3 6 nb3 tab3_12 tab3_13 = true := by decide +kernel
theorem stepOk3_13 : stepOk 3 6 nb3 tab3_13 tab3_14 = true := by decide +kernel
theorem stepOk3_14 : stepOk 3 6 nb3 tab3_14 tab3_15 = true := by decide +kernel
theorem stepOk3_15 : stepOk 3 6 nb3 tab3_15 tab3_16 = true := by decide +kernel
theorem stepOk3_16 : stepOk 3 6 nb3 tab3_16 tab3_17 = true := by decide +kernel
theorem stepOk3_17 : stepOk 3 6 nb3 tab3_17 tab3_18 = true := by decide +kernel
theorem stepOk3_18 : stepOk 3 6 nb3 tab3_18 tab3_19 = true := by decide +kernel
theorem stepOk3_19 : stepOk 3 6 nb3 tab3_19 tab3_20 = true := by decide +kernel
theorem stepOk3 : ∀ j, j < 20 → stepOk 3 ordL3.length nb3 (tab3 j) (tab3 (j + 1)) = true
  | 0, _ => stepOk3_0
  | 1, _ => stepOk3_1
  | 2, _ => stepOk3_2
  | 3, _ => stepOk3_3
  | 4, _ => stepOk3_4
  | 5, _ => stepOk3_5
  | 6, _ => stepOk3_6
  | 7, _ => stepOk3_7
  | 8, _ => stepOk3_8
  | 9, _ => stepOk3_9
  | 10, _ => stepOk3_10
  | 11, _ => stepOk3_11
  | 12, _ => stepOk3_12
  | 13, _ => stepOk3_13
  | 14, _ => stepOk3_14
  | 15, _ => stepOk3_15
  | 16, _ => stepOk3_16
  | 17, _ => stepOk3_17
  | 18, _ => stepOk3_18
  | 19, _ => stepOk3_19
  | j + 20, h => absurd h (by omega)
theorem start3 : ∀ i ∈ List.range 6, (tab3 0).getD i 0 = (if keyB (ordL3.getD i []) = keyB (ordL3.getD 0 []) then 1 else 0) := by decide +kernel
theorem key3 : (ordL3.all fun p => decide ((impl_orderKey.f 20 p).map (fun s => s.data.toList) = some (keyB p))) = true := by decide +kernel
theorem rank3 : ∀ i ∈ List.range 6, spec_alRank.f 40 (ordL3.getD i []) = some (i : Int) := by decide +kernel
theorem len3 : ∀ i ∈ List.range 6, (ordL3.getD i []).length = 3 := by decide +kernel
theorem mem3 : ((listsN 3 3).all fun l => !isOrd l || ordL3.contains l) = true := by decide +kernel
theorem size3 : ∀ j ∈ List.range 21, (tab3 j).length = ordL3.length := by decide +kernel
theorem perms3 : mdPerms 3 (keyB (ordL3.getD 0 [])) = ordL3.map keyB := by decide +kernel
theorem closed3 : mdClosed 3 (keyB (ordL3.getD 0 [])) (ordL3.map keyB) = true := by decide +kernel
theorem cnt3 : ∀ k ∈ List.range 21, spec_CountOrdersMade.l0 200 0 (tab3 k) ((tab3 k).length : Int) 0 = some ((((tab3 k).filter fun x => decide (0 < x)).length : Int), true) := by decide +kernel
theorem facts3 : MadeFacts 3 ordL3 tab3 where
  ch := fun k hk K hK => ch3 k hk K hK
  id := by decide +kernel
  key := keyOf_fin key3
  len := fun i hi => len3 i (List.mem_range.2 hi)
  rank := fun i hi => rank3 i (List.mem_range.2 hi)
  mem := memOf mem3
  tab := mdTab 3 _ ordL3 nb3 tab3 tabOk3 (fun i hi => start3 i (List.mem_range.2 hi)) stepOk3
  size := fun j hj => size3 j (List.mem_range.2 (by omega))
  some_ := ⟨by decide, by decide⟩
  perms := perms3
  closed := closed3
  cnt := fun k hk => cnt3 k (List.mem_range.2 (by omega))
def nb4 : List (List Nat) := [[6, 2, 1], [7, 4, 0], [12, 0, 3], [13, 5, 2], [18, 1, 5], [19, 3, 4], [0, 8, 7], [1, 10, 6], [14, 6, 9], [15, 11, 8], [20, 7, 11], [21, 9, 10], [2, 14, 13], [3, 16, 12], [8, 12, 15], [9, 17, 14], [22, 13, 17], [23, 15, 16], [4, 20, 19], [5, 22, 18], [10, 18, 21], [11, 23, 20], [16, 19, 23], [17, 21, 22]]
theorem tabOk4 : tabOk 4 ordL4 nb4 = true := by decide +kernel
theorem stepOk4_0 : stepOk 4 24 nb4 tab4_0 tab4_1 = true := by decide +kernel
theorem stepOk4_1 : stepOk 4 24 nb4 tab4_1 tab4_2 = true := by decide +kernel
theorem stepOk4_2 : stepOk 4 24 nb4 tab4_2 tab4_3 = true := by decide +kernel
theorem stepOk4_3 : stepOk 4 24 nb4 tab4_3 tab4_4 = true := by decide +kernel
theorem stepOk4_4 : stepOk 4 24 nb4 tab4_4 tab4_5 = true := by decide +kernel
theorem stepOk4_5 : stepOk 4 24 nb4 tab4_5 tab4_6 = true := by decide +kernel
theorem stepOk4_6 : stepOk 4 24 nb4 tab4_6 tab4_7 = true := by decide +kernel
theorem stepOk4_7 : stepOk 4 24 nb4 tab4_7 tab4_8 = true := by decide +kernel
theorem stepOk4_8 : stepOk 4 24 nb4 tab4_8 tab4_9 = true := by decide +kernel
theorem stepOk4_9 : stepOk 4 24 nb4 tab4_9 tab4_10 = true := by decide +kernel
theorem stepOk4_10 : stepOk 4 24 nb4 tab4_10 tab4_11 = true := by decide +kernel
theorem stepOk4_11 : stepOk 4 24 nb4 tab4_11 tab4_12 = true := by decide +kernel
theorem stepOk4_12 : stepOk 4 24 nb4 tab4_12 tab4_13 = true := by decide +kernel
theorem stepOk4_13 : stepOk 4 24 nb4 tab4_13 tab4_14 = true := by decide +kernel
theorem stepOk4_14 : stepOk 4 24 nb4 tab4_14 tab4_15 = true := by decide +kernel
theorem stepOk4_15 : stepOk 4 24 nb4 tab4_15 tab4_16 = true := by decide +kernel
theorem stepOk4_16 : stepOk 4 24 nb4 tab4_16 tab4_17 = true := by decide +kernel
theorem stepOk4_17 : stepOk 4 24 nb4 tab4_17 tab4_18 = true := by decide +kernel
theorem stepOk4_18 : stepOk 4 24 nb4 tab4_18 tab4_19 = true := by decide +kernel
theorem stepOk4_19 : stepOk 4 24 nb4 tab4_19 tab4_20 = true := by decide +kernel
theorem stepOk4 : ∀ j, j < 20 → stepOk 4 ordL4.length nb4 (tab4 j) (tab4 (j + 1)) = true
  | 0, _ => stepOk4_0
  | 1, _ => stepOk4_1
  | 2, _ => stepOk4_2
  | 3, _ => stepOk4_3
  | 4, _ => stepOk4_4
  | 5, _ => stepOk4_5
  | 6, _ => stepOk4_6
  | 7, _ => stepOk4_7
  | 8, _ => stepOk4_8
  | 9, _ => stepOk4_9
  | 10, _ => stepOk4_10
  | 11, _ => stepOk4_11
  | 12, _ => stepOk4_12
  | 13, _ => stepOk4_13
  | 14, _ => stepOk4_14
  | 15, _ => stepOk4_15
  | 16, _ => stepOk4_16
  | 17, _ => stepOk4_17
  | 18, _ => stepOk4_18
  | 19, _ => stepOk4_19
  | j + 20, h => absurd h (by omega)
theorem start4 : ∀ i ∈ List.range 24, (tab4 0).getD i 0 = (if keyB (ordL4.getD i []) = keyB (ordL4.getD 0 []) then 1 else 0) := by decide +kernel
theorem key4 : (ordL4.all fun p => decide ((impl_orderKey.f 20 p).map (fun s => s.data.toList) = some (keyB p))) = true := by decide +kernel
theorem rank4 : ∀ i ∈ List.range 24, spec_alRank.f 40 (ordL4.getD i []) = some (i : Int) := by decide +kernel
theorem len4 : ∀ i ∈ List.range 24, (ordL4.getD i []).length = 4 := by decide +kernel
theorem mem4 : ((listsN 4 4).all fun l => !isOrd l || ordL4.contains l) = true := by decide +kernel
theorem size4 : ∀ j ∈ List.range 21, (tab4 j).length = ordL4.length := by decide +kernel
theorem perms4 : mdPerms 4 (keyB (ordL4.getD 0 [])) = ordL4.map keyB := by decide +kernel
theorem closed4 : mdClosed 4 (keyB (ordL4.getD 0 [])) (ordL4.map keyB) = true := by decide +kernel
theorem cnt4 : ∀ k ∈ List.range 21, spec_CountOrdersMade.l0 200 0 (tab4 k) ((tab4 k).length : Int) 0 = some ((((tab4 k).filter fun x => decide (0 < x)).length : Int), true) := by decide +kernel
theorem facts4 : MadeFacts 4 ordL4 tab4 where
  ch := fun k hk K hK => ch4 k hk K hK
  id := by decide +kernel
  key := keyOf_fin key4
  len := fun i hi => len4 i (List.mem_range.2 hi)
  rank := fun i hi => rank4 i (List.mem_range.2 hi)
  mem := memOf mem4
  tab := mdTab 4 _ ordL4 nb4 tab4 tabOk4 (fun i hi => start4 i (List.mem_range.2 hi)) stepOk4
  size := fun j hj => size4 j (List.mem_range.2 (by omega))
  some_ := ⟨by decide, by decide⟩
  perms := perms4
  closed := closed4
  cnt := fun k hk => cnt4 k (List.mem_range.2 (by omega))
def nb5 : List (List Nat) := [[24, 6, 2, 1], [25, 7, 4, 0], [26, 12, 0, 3], [27, 13, 5, 2], [28, 18, 1, 5], [29, 19, 3, 4], [48, 0, 8, 7], [49, 1, 10, 6], [50, 14, 6, 9], [51, 15, 11, 8], [52, 20, 7, 11], [53, 21, 9, 10], [72, 2, 14, 13], [73, 3, 16, 12], [74, 8, 12, 15], [75, 9, 17, 14], [76, 22, 13, 17], [77, 23, 15, 16], [96, 4, 20, 19], [97, 5, 22, 18], [98, 10, 18, 21], [99, 11, 23, 20], [100, 16, 19, 23], [101, 17, 21, 22], [0, 30, 26, 25], [1, 31, 28, 24], [2, 36, 24, 27], [3, 37, 29, 26], [4, 42, 25, 29], [5, 43, 27, 28], [54, 24, 32, 31], [55, 25, 34, 30], [56, 38, 30, 33], [57, 39, 35, 32], [58, 44, 31, 35], [59, 45, 33, 34], [78, 26, 38, 37], [79, 27, 40, 36], [80, 32, 36, 39], [81, 33, 41, 38], [82, 46, 37, 41], [83, 47, 39, 40], [102, 28, 44, 43], [103, 29, 46, 42], [104, 34, 42, 45], [105, 35, 47, 44], [106, 40, 43, 47], [107, 41, 45, 46], [6, 54, 50, 49], [7, 55, 52, 48], [8, 60, 48, 51], [9, 61, 53, 50], [10, 66, 49, 53], [11, 67, 51, 52], [30, 48, 56, 55], [31, 49, 58, 54], [32, 62, 54, 57], [33, 63, 59, 56], [34, 68, 55, 59], [35, 69, 57, 58], [84, 50, 62, 61], [85, 51, 64, 60], [86, 56, 60, 63], [87, 57, 65, 62], [88, 70, 61, 65], [89, 71, 63, 64], [108, 52, 68, 67], [109, 53, 70, 66], [110, 58, 66, 69], [111, 59, 71, 68], [112, 64, 67, 71], [113, 65, 69, 70], [12, 78, 74, 73], [13, 79, 76, 72], [14, 84, 72, 75], [15, 85, 77, 74], [16, 90, 73, 77], [17, 91, 75, 76], [36, 72, 80, 79], [37, 73, 82, 78], [38, 86, 78, 81], [39, 87, 83, 80], [40, 92, 79, 83], [41, 93, 81, 82], [60, 74, 86, 85], [61, 75, 88, 84], [62, 80, 84, 87], [63, 81, 89, 86], [64, 94, 85, 89], [65, 95, 87, 88], [114, 76, 92, 91], [115, 77, 94, 90], [116, 82, 90, 93], [117, 83, 95, 92], [118, 88, 91, 95], [119, 89, 93, 94], [18, 102, 98, 97], [19, 103, 100, 96], [20, 108, 96, 99], [21, 109, 101, 98], [22, 114, 97, 101], [23, 115, 99, 100], [42, 96, 104, 103], [43, 97, 106, 102], [44, 110, 102, 105], [45, 111, 107, 104], [46, 116, 103, 107], [47, 117, 105, 106], [66, 98, 110, 109], [67, 99, 112, 108], [68, 104, 108, 111], [69, 105, 113, 110], [70, 118, 109, 113], [71, 119, 111, 112], [90, 100, 116, 115], [91, 101, 118, 114], [92, 106, 114, 117], [93, 107, 119, 116], [94, 112, 115, 119], [95, 113, 117, 118]]
theorem tabOk5 : tabOk 5 ordL5 nb5 = true := by decide +kernel
theorem stepOk5_0 : stepOk 5 120 nb5 tab5_0 tab5_1 = true := by decide +kernel
theorem stepOk5_1 : stepOk 5 120 nb5 tab5_1 tab5_2 = true := by decide +kernel
theorem stepOk5_2 : stepOk 5 120 nb5 tab5_2 tab5_3 = true := by decide +kernel
theorem stepOk5_3 : stepOk 5 120 nb5 tab5_3 tab5_4 = true := by decide +kernel
theorem stepOk5_4 : stepOk 5 120 nb5 tab5_4 tab5_5 = true := by decide +kernel
theorem stepOk5_5 : stepOk 5 120 nb5 tab5_5 tab5_6 = true := by decide +kernel
theorem stepOk5_6 : stepOk 5 120 nb5 tab5_6 tab5_7 = true := by decide +kernel
theorem stepOk5_7 : stepOk 5 120 nb5 tab5_7 tab5_8 = true := by decide +kernel
theorem stepOk5_8 : stepOk 5 120 nb5 tab5_8 tab5_9 = true := by decide +kernel
theorem stepOk5_9 : stepOk 5 120 nb5 tab5_9 tab5_10 = true := by decide +kernel
theorem stepOk5_10 : stepOk 5 120 nb5 tab5_10 tab5_11 = true := by decide +kernel
theorem stepOk5_11 : stepOk 5 120 nb5 tab5_11 tab5_12 = true := by decide +kernel
theorem stepOk5_12 : stepOk 5 120 nb5 tab5_12 tab5_13 = true := by decide +kernel
theorem stepOk5_13 : stepOk 5 120 nb5 tab5_13 tab5_14 = true := by decide +kernel
theorem stepOk5_14 : stepOk 5 120 nb5 tab5_14 tab5_15 = true := by decide +kernel
theorem stepOk5_15 : stepOk 5 120 nb5 tab5_15 tab5_16 = true := by decide +kernel
theorem stepOk5_16 : stepOk 5 120 nb5 tab5_16 tab5_17 = true := by decide +kernel
theorem stepOk5_17 : stepOk 5 120 nb5 tab5_17 tab5_18 = true := by decide +kernel
theorem stepOk5_18 : stepOk 5 120 nb5 tab5_18 tab5_19 = true := by decide +kernel
theorem stepOk5_19 : stepOk 5 120 nb5 tab5_19 tab5_20 = true := by decide +kernel
theorem stepOk5 : ∀ j, j < 20 → stepOk 5 ordL5.length nb5 (tab5 j) (tab5 (j + 1)) = true
  | 0, _ => stepOk5_0
  | 1, _ => stepOk5_1
  | 2, _ => stepOk5_2
  | 3, _ => stepOk5_3
  | 4, _ => stepOk5_4
  | 5, _ => stepOk5_5
  | 6, _ => stepOk5_6
  | 7, _ => stepOk5_7
  | 8, _ => stepOk5_8
  | 9, _ => stepOk5_9
  | 10, _ => stepOk5_10
  | 11, _ => stepOk5_11
  | 12, _ => stepOk5_12
  | 13, _ => stepOk5_13
  | 14, _ => stepOk5_14
  | 15, _ => stepOk5_15
  | 16, _ => stepOk5_16
  | 17, _ => stepOk5_17
  | 18, _ => stepOk5_18
  | 19, _ => stepOk5_19
  | j + 20, h => absurd h (by omega)
theorem start5 : ∀ i ∈ List.range 120, (tab5 0).getD i 0 = (if keyB (ordL5.getD i []) = keyB (ordL5.getD 0 []) then 1 else 0) := by decide +kernel
theorem key5 : (ordL5.all fun p => decide ((impl_orderKey.f 20 p).map (fun s => s.data.toList) = some (keyB p))) = true := by decide +kernel
theorem rank5 : ∀ i ∈ List.range 120, spec_alRank.f 40 (ordL5.getD i []) = some (i : Int) := by decide +kernel
theorem len5 : ∀ i ∈ List.range 120, (ordL5.getD i []).length = 5 := by decide +kernel
theorem mem5 : ((listsN 5 5).all fun l => !isOrd l || ordL5.contains l) = true := by decide +kernel
theorem size5 : ∀ j ∈ List.range 21, (tab5 j).length = ordL5.length := by decide +kernel
theorem perms5 : mdPerms 5 (keyB (ordL5.getD 0 [])) = ordL5.map keyB := by decide +kernel
theorem closed5 : mdClosed 5 (keyB (ordL5.getD 0 [])) (ordL5.map keyB) = true := by decide +kernel
theorem cnt5 : ∀ k ∈ List.range 21, spec_CountOrdersMade.l0 200 0 (tab5 k) ((tab5 k).length : Int) 0 = some ((((tab5 k).filter fun x => decide (0 < x)).length : Int), true) := by decide +kernel
theorem facts5 : MadeFacts 5 ordL5 tab5 where
  ch := fun k hk K hK => ch5 k hk K hK
  id := by decide +kernel
  key := keyOf_fin key5
  len := fun i hi => len5 i (List.mem_range.2 hi)
  rank := fun i hi => rank5 i (List.mem_range.2 hi)
  mem := memOf mem5
  tab := mdTab 5 _ ordL5 nb5 tab5 tabOk5 (fun i hi => start5 i (List.mem_range.2 hi)) stepOk5
  size := fun j hj => size5 j (List.mem_range.2 (by omega))
  some_ := ⟨by decide, by decide⟩
  perms := perms5
  closed := closed5
  cnt := fun k hk => cnt5 k (List.mem_range.2 (by omega))
theorem facts (n : Nat) (h1 : 2 ≤ n) (h2 : n ≤ 5) : ∃ O T, MadeFacts n O T := by
  rcases (by omega : n = 2 ∨ n = 3 ∨ n = 4 ∨ n = 5) with rfl | rfl | rfl | rfl
  · exact ⟨_, _, facts2⟩
  · exact ⟨_, _, facts3⟩
  · exact ⟨_, _, facts4⟩
  · exact ⟨_, _, facts5⟩
end Go.Proofs.Ytabobnlpcapohaa.L
namespace Go.Proofs.Ytabobnlpcapohaa.L
open Go.RowKit Go.Proofs.Ytabobnlpcapohaa.Q Go.Proofs.YtabobnlpcapohaaW.PrintWords Go.Proofs.YtabobnlpcapohaaW.PrintLast
set_option linter.unusedVariables false
set_option linter.unusedSimpArgs false
theorem filter_same {α β : Type} (h : α → Bool) (g : β → Bool) (da : α) (db : β) : ∀ (A : List α) (B : List β), A.length = B.length → (∀ i, i < A.length → h (A.getD i da) = g (B.getD i db)) → (A.filter h).length = (B.filter g).length
  | [], [], _, _ => rfl
  | [], _ :: _, e, _ => by simp at e
  | _ :: _, [], e, _ => by simp at e
  | a :: A, b :: B, e, hi => by
    have h0 : h a = g b := hi 0 (by simp)
    have ih := filter_same h g da db A B (by simpa using e) (fun i hl => hi (i + 1) (by simpa using hl))
    rw [List.filter_cons, List.filter_cons, h0]
    cases g b
    · simpa using ih
    · simpa using ih
theorem made_base {n : Nat} {O : List (List Int)} {T : Nat → List Int} (F : MadeFacts n O T) : ∃ q0, (∀ k, 20 ≤ k → impl_identity.f k (n : Int) = some (O.getD 0 []) ∧ impl_orderKey.f k (O.getD 0 []) = some q0) ∧ q0.data.toList = keyB (O.getD 0 []) ∧ q0.data.toList.length = n := by
  obtain ⟨q0, e1, e2⟩ := F.key 0 F.some_.1
  refine ⟨q0, fun k hk => ⟨at_rounds (fun k => impl_identity.mono _ k) hk F.id, at_rounds (fun k => impl_orderKey.mono _ k) hk e1⟩, e2, ?_⟩
  rw [e2]
  show (List.map _ _).length = n
  rw [List.length_map]
  exact F.len 0 F.some_.1
theorem core_CountOrdersMade (a0 a1 : Int) (w0 : (Lit.int .i64 a0).wf = true) (w1 : (Lit.int .i64 a1).wf = true) :
    ∃ K r ok, (∀ k, K ≤ k → spec_CountOrdersMade.f k a0 a1 = some (r, ok)) ∧ (∀ k, K ≤ k → impl_CountOrdersMade.f k a0 a1 = some (r, ok)) := by
  obtain ⟨b, hb⟩ := told_some a0 a1
  cases b with
  | false =>
    refine ⟨0, 0, false, fun k hk => ?_, fun k hk => ?_⟩
    · unfold spec_CountOrdersMade.f
      rw [told_same, hb]
      rfl
    · unfold impl_CountOrdersMade.f
      rw [hb]
      rfl
  | true =>
    obtain ⟨c1, c2, c3, c4⟩ := told_true hb
    obtain ⟨n, rfl⟩ : ∃ n : Nat, a0 = n := ⟨a0.toNat, by omega⟩
    obtain ⟨K, rfl⟩ : ∃ n : Nat, a1 = n := ⟨a1.toNat, by omega⟩
    obtain ⟨O, T, F⟩ := facts n (by omega) (by omega)
    obtain ⟨q0, hq, hq1, hq2⟩ := made_base F
    refine ⟨25000, ((((T K).filter fun x => decide (0 < x)).length : Nat) : Int), true, fun k hk => ?_, fun k hk => ?_⟩
    · unfold spec_CountOrdersMade.f
      rw [told_same, hb, Option.bind_some, if_pos rfl, (F.ch K (by omega) k hk).2, Option.bind_some]
      exact at_rounds (fun k => (spec_CountOrdersMade.mono_l k) _ _ _ _) (by omega) (F.cnt K (by omega))
    · unfold impl_CountOrdersMade.f
      rw [hb, Option.bind_some, if_pos rfl, (hq k (by omega)).1, Option.bind_some, (hq k (by omega)).2, Option.bind_some, Int.toNat_natCast, Int.toNat_natCast, hq1, F.perms]
      rw [if_pos ⟨⟨by omega, by omega, by omega, by omega, by rw [← hq1, hq2]⟩, F.closed⟩]
      congr 2
      congr 1
      apply filter_same _ _ [] 0
      · rw [List.length_map, F.size K (by omega)]
      · intro i hi
        rw [List.length_map] at hi
        have e : (O.map keyB).getD i [] = keyB (O.getD i []) := by
          rw [List.getD_eq_getElem?_getD, List.getElem?_map, List.getD_eq_getElem?_getD, List.getElem?_eq_getElem hi]
          rfl
        rw [e]
        exact (F.tab K (by omega) i hi).2
end Go.Proofs.Ytabobnlpcapohaa.L
namespace Go.Proofs.Ytabobnlpcapohaa.L
open Go.RowKit Go.Proofs.Ytabobnlpcapohaa.Q Go.Proofs.YtabobnlpcapohaaW.PrintWords Go.Proofs.YtabobnlpcapohaaW.PrintLast
set_option linter.unusedVariables false
set_option linter.unusedSimpArgs false
theorem count_at (a0 a1 : Int) (l : List Int) (hb : l.length ≤ 35184372088832) :
    ((∀ k, 100 ≤ k → spec_CountForOrder.f k a0 a1 l = some (0, false)) ∧ (∀ k, 100 ≤ k → impl_CountForOrder.f k a0 a1 l = some (0, false))) ∨
    ∃ (n K i : Nat) (O : List (List Int)) (T : Nat → List Int), a0 = n ∧ a1 = K ∧ 2 ≤ n ∧ n ≤ 5 ∧ K ≤ 20 ∧ MadeFacts n O T ∧ i < O.length ∧ l = O.getD i [] ∧ (∀ k, 25100 ≤ k → spec_CountForOrder.f k a0 a1 l = some ((T K).getD i 0, true)) ∧ (∀ k, 25100 ≤ k → impl_CountForOrder.f k a0 a1 l = some ((T K).getD i 0, true)) := by
  have hj : ∀ k, 1 ≤ k → spec_CountForOrder.j0 k a0 a1 l true = some (0, false) := fun k hk => by
    obtain ⟨k, rfl⟩ : ∃ m, k = m + 1 := ⟨k - 1, by omega⟩
    simp only [spec_CountForOrder.j0, if_true]
  obtain ⟨b, hbo⟩ := told_some a0 a1
  cases b with
  | false =>
    refine .inl ⟨fun k hk => ?_, fun k hk => ?_⟩
    · unfold spec_CountForOrder.f
      rw [told_same, hbo, Option.bind_some, if_neg (by decide), hj k (by omega)]
    · unfold impl_CountForOrder.f
      rw [hbo]
      rfl
  | true =>
    by_cases ho : isOrd l = true
    · by_cases hl : (l.length : Int) = a0
      · obtain ⟨c1, c2, c3, c4⟩ := told_true hbo
        obtain ⟨n, rfl⟩ : ∃ n : Nat, a0 = n := ⟨a0.toNat, by omega⟩
        obtain ⟨K, rfl⟩ : ∃ n : Nat, a1 = n := ⟨a1.toNat, by omega⟩
        obtain ⟨O, T, F⟩ := facts n (by omega) (by omega)
        obtain ⟨q0, hq, hq1, hq2⟩ := made_base F
        obtain ⟨i, hi, rfl⟩ := F.mem l ho (by omega)
        obtain ⟨q, e1, e2⟩ := F.key i hi
        have hqs : q.size ≤ 1000 := by
          have h1 : q.size = q.data.toList.length := (Array.length_toList).symm
          rw [h1, e2]
          show (List.map _ _).length ≤ 1000
          rw [List.length_map, F.len i hi]
          omega
        refine .inr ⟨n, K, i, O, T, rfl, rfl, by omega, by omega, by omega, F, hi, rfl, fun k hk => ?_, fun k hk => ?_⟩
        · unfold spec_CountForOrder.f
          rw [told_same, hbo, Option.bind_some, if_pos rfl, laOrder _ k (by omega), Option.bind_some, if_pos ho]
          obtain ⟨k, rfl⟩ : ∃ m, k = m + 1 := ⟨k - 1, by omega⟩
          have hne : (((O.getD i []).length : Int) != (n : Int)) = false := bne_eq_false_iff_eq.mpr hl
          rw [hne]
          simp only [spec_CountForOrder.j0]
          rw [if_neg (by decide), (F.ch K (by omega) k (by omega)).2, Option.bind_some, at_rounds (fun k => spec_alRank.mono _ k) (show 40 ≤ k by omega) (F.rank i hi), Option.bind_some, if_pos (by omega), if_pos (by rw [F.size K (by omega)]; omega)]
          unfold rd
          rw [Int.toNat_natCast]
        · unfold impl_CountForOrder.f
          rw [hbo, Option.bind_some, if_pos rfl, isOrder _ k (by omega), Option.bind_some, if_pos ho, if_pos hl, (hq k (by omega)).1, Option.bind_some, (hq k (by omega)).2, Option.bind_some, at_rounds (fun k => impl_orderKey.mono _ k) (show 20 ≤ k by omega) e1, Option.bind_some]
          rw [if_pos ⟨⟨by omega, by omega, by omega, by omega, by omega⟩, hqs⟩, Int.toNat_natCast, Int.toNat_natCast, hq1, e2, (F.tab K (by omega) i hi).1]
      · refine .inl ⟨fun k hk => ?_, fun k hk => ?_⟩
        · unfold spec_CountForOrder.f
          have hne : ((l.length : Int) != a0) = true := bne_iff_ne.mpr hl
          rw [told_same, hbo, Option.bind_some, if_pos rfl, laOrder _ k (by omega), Option.bind_some, if_pos ho, hne, hj k (by omega)]
        · unfold impl_CountForOrder.f
          rw [hbo, Option.bind_some, if_pos rfl, isOrder _ k (by omega), Option.bind_some, if_pos ho, if_neg hl]
    · refine .inl ⟨fun k hk => ?_, fun k hk => ?_⟩
      · unfold spec_CountForOrder.f
        rw [told_same, hbo, Option.bind_some, if_pos rfl, laOrder _ k (by omega), Option.bind_some, if_neg ho, hj k (by omega)]
      · unfold impl_CountForOrder.f
        rw [hbo, Option.bind_some, if_pos rfl, isOrder _ k (by omega), Option.bind_some, if_neg ho]
end Go.Proofs.Ytabobnlpcapohaa.L
namespace Go.Proofs.Ytabobnlpcapohaa.L
open Go.RowKit Go.Proofs.Ytabobnlpcapohaa.Q Go.Proofs.YtabobnlpcapohaaW.PrintWords Go.Proofs.YtabobnlpcapohaaW.PrintLast
set_option linter.unusedVariables false
set_option linter.unusedSimpArgs false
def ratOk (n k : Int) (T : List Int) : Bool := T.all fun c => decide (((spec_chAll.f 200 n k).bind fun t => spec_chRatio.f 200 c t) = ((impl_power.f 200 (wrap64 (n - 1)) k).bind fun t => impl_ratio.f 200 c t) ∧ ((spec_chAll.f 200 n k).bind fun t => spec_chRatio.f 200 c t).isSome = true)
theorem rat2 : ∀ k ∈ List.range 21, ratOk 2 ((k : Nat) : Int) (tab2 k) = true := by decide +kernel
theorem rat3 : ∀ k ∈ List.range 21, ratOk 3 ((k : Nat) : Int) (tab3 k) = true := by decide +kernel
theorem rat4 : ∀ k ∈ List.range 21, ratOk 4 ((k : Nat) : Int) (tab4 k) = true := by decide +kernel
theorem rat5 : ∀ k ∈ List.range 21, ratOk 5 ((k : Nat) : Int) (tab5 k) = true := by decide +kernel
theorem tab_one {n : Nat} {O : List (List Int)} {T : Nat → List Int} (F : MadeFacts n O T) (h1 : 2 ≤ n) (h2 : n ≤ 5) (k : Nat) (hk : k ≤ 20) : ratOk (n : Int) (k : Int) (T k) = true := by
  have e : ∀ {O' : List (List Int)} {T' : Nat → List Int}, MadeFacts n O' T' → T k = T' k := fun F' => by
    have a := (F.ch k hk 25000 (Nat.le_refl _)).2
    have b := (F'.ch k hk 25000 (Nat.le_refl _)).2
    exact Option.some.inj (a.symm.trans b)
  rcases (by omega : n = 2 ∨ n = 3 ∨ n = 4 ∨ n = 5) with rfl | rfl | rfl | rfl
  · rw [e facts2]; exact rat2 k (List.mem_range.2 (by omega))
  · rw [e facts3]; exact rat3 k (List.mem_range.2 (by omega))
  · rw [e facts4]; exact rat4 k (List.mem_range.2 (by omega))
  · rw [e facts5]; exact rat5 k (List.mem_range.2 (by omega))
end Go.Proofs.Ytabobnlpcapohaa.L
namespace Go.Proofs.Ytabobnlpcapohaa.L
open Go.RowKit Go.Proofs.Ytabobnlpcapohaa.Q Go.Proofs.YtabobnlpcapohaaW.PrintWords Go.Proofs.YtabobnlpcapohaaW.PrintLast
set_option linter.unusedVariables false
set_option linter.unusedSimpArgs false
def lkFold {α : Type} (step : α → List Int → Option α) : List (List Int) → α → Option α
  | [], s => some s
  | u :: us, s => (step s u).bind fun s2 => lkFold step us s2
theorem lkFold_app {α : Type} (step : α → List Int → Option α) : ∀ (a b : List (List Int)) (s : α), lkFold step (a ++ b) s = (lkFold step a s).bind fun s2 => lkFold step b s2
  | [], b, s => rfl
  | u :: a, b, s => by
    show (step s u).bind (fun s2 => lkFold step (a ++ b) s2) = ((step s u).bind fun s2 => lkFold step a s2).bind fun s2 => lkFold step b s2
    cases step s u with
    | none => rfl
    | some s2 => exact lkFold_app step a b s2
def lkLoop (rec : List Int → List Int → List (List Int)) (done left : List Int) : Nat → Nat → List (List Int)
  | 0, _ => []
  | c + 1, i => rec (done ++ [left.getD i 0]) (left.take i ++ left.drop (i + 1)) ++ lkLoop rec done left c (i + 1)
def lkOrds : Nat → List Int → List Int → List (List Int)
  | 0, done, _ => [done]
  | d + 1, done, left => lkLoop (lkOrds d) done left (d + 1) 0
theorem lk_fold {α : Type} (step : α → List Int → Option α) : ∀ (d : Nat) (done left : List Int) (s : α), left.length = d → done.length + left.length ≤ 100 → ordF step d done left s = lkFold step (lkOrds d done left) s
  | 0, done, left, s, hl, hd => by
    rw [ordF, if_pos (List.eq_nil_of_length_eq_zero hl), lkOrds, lkFold]
    cases step s done <;> rfl
  | d + 1, done, left, s, hl, hd => by
    rw [ordF, if_pos ⟨hl, by omega, by omega⟩, lkOrds]
    have hloop : ∀ (c i : Nat) (s : α), i + c = d + 1 → ordLoop (ordF step d) done left c i s = lkFold step (lkLoop (lkOrds d) done left c i) s := by
      intro c
      induction c with
      | zero => intro i s hi; rfl
      | succ c ih =>
        intro i s hi
        have e := lk_fold step d (done ++ [left.getD i 0]) (left.take i ++ left.drop (i + 1)) s (by simp; omega) (by simp; omega)
        rw [ordLoop, lkLoop, lkFold_app, e]
        congr 1
        funext s2
        exact ih (i + 1) s2 (by omega)
    exact hloop (d + 1) 0 s (by omega)
def argm (T : List Int) : Nat → Int → Int → Int
  | 0, _, b => b
  | d + 1, i, b => argm T d (i + 1) (if rd T i > rd T b then i else b)
theorem lk_l0 (n : Int) (T : List Int) (hb : T.length ≤ 1000) : ∀ (d i b k : Nat), i + d = T.length → b < T.length → ∃ c : Nat, argm T d (i : Int) (b : Int) = c ∧ c < T.length ∧ spec_LikeliestOrder.l0 (k + d + 1) n T (b : Int) T (T.length : Int) (i : Int) = (spec_alOrders.f k n).bind fun t => if 0 ≤ (c : Int) then (if (c : Int) < (t.length : Int) then some (rd_L2 t (c : Int), true) else none) else none
  | 0, i, b, k, hi, hbl => by
    refine ⟨b, rfl, hbl, ?_⟩
    simp only [Nat.add_zero, spec_LikeliestOrder.l0]
    rw [if_neg (by omega)]
  | d + 1, i, b, k, hi, hbl => by
    obtain ⟨m, hm⟩ : ∃ m, m = k + d + 1 := ⟨_, rfl⟩
    rw [show k + (d + 1) + 1 = m + 1 by omega]
    simp only [spec_LikeliestOrder.l0, argm]
    by_cases h : rd T (i : Int) > rd T (b : Int)
    · rw [if_pos h, if_pos (by omega), if_pos (by omega), if_pos (by omega), if_pos (by omega), if_pos (by omega), if_pos h, show wrap64 ((i : Int) + 1) = ((i + 1 : Nat) : Int) by unfold wrap64; omega]
      have := lk_l0 n T hb d (i + 1) i k (by omega) (by omega)
      rw [← hm] at this
      exact_mod_cast this
    · rw [if_neg h, if_pos (by omega), if_pos (by omega), if_pos (by omega), if_pos (by omega), if_pos (by omega), if_neg h, show wrap64 ((i : Int) + 1) = ((i + 1 : Nat) : Int) by unfold wrap64; omega]
      have := lk_l0 n T hb d (i + 1) b k (by omega) hbl
      rw [← hm] at this
      exact_mod_cast this
def lkPick : List (List Int) → List Int → List Int × Int → List Int × Int
  | u :: us, c :: cs, s => lkPick us cs (if s.2 < c then (u, c) else s)
  | _, _, s => s
theorem lk_pick (step : List Int × Int → List Int → Option (List Int × Int)) : ∀ (A : List (List Int)) (B : List Int) (s : List Int × Int), A.length = B.length → (∀ i, i < A.length → ∀ s, step s (A.getD i []) = some (if s.2 < B.getD i 0 then (A.getD i [], B.getD i 0) else s)) → lkFold step A s = some (lkPick A B s)
  | [], [], s, _, _ => rfl
  | [], _ :: _, s, e, _ => by simp at e
  | _ :: _, [], s, e, _ => by simp at e
  | a :: A, b :: B, s, e, hi => by
    have h0 := hi 0 (by simp) s
    simp only [List.getD_cons_zero] at h0
    rw [lkFold, h0, Option.bind_some, lkPick]
    exact lk_pick step A B _ (by simpa using e) (fun i hl => by have := hi (i + 1) (by simpa using hl); simpa using this)
def lkOk (O : List (List Int)) (T : List Int) : Bool := decide ((lkPick O T ([], 0)).1 = O.getD (argm T T.length 0 0).toNat [])
theorem lk2 : ∀ k ∈ List.range 21, lkOk ordL2 (tab2 k) = true := by decide +kernel
theorem lk3 : ∀ k ∈ List.range 21, lkOk ordL3 (tab3 k) = true := by decide +kernel
theorem lk4 : ∀ k ∈ List.range 21, lkOk ordL4 (tab4 k) = true := by decide +kernel
theorem lk5 : ∀ k ∈ List.range 21, lkOk ordL5 (tab5 k) = true := by decide +kernel
theorem ords2 : lkOrds 2 [] (ordL2.getD 0 []) = ordL2 := by decide +kernel
theorem ords3 : lkOrds 3 [] (ordL3.getD 0 []) = ordL3 := by decide +kernel
theorem ords4 : lkOrds 4 [] (ordL4.getD 0 []) = ordL4 := by decide +kernel
theorem ords5 : lkOrds 5 [] (ordL5.getD 0 []) = ordL5 := by decide +kernel
theorem lk_all {n : Nat} {O : List (List Int)} {T : Nat → List Int} (F : MadeFacts n O T) (h1 : 2 ≤ n) (h2 : n ≤ 5) (k : Nat) (hk : k ≤ 20) : lkOk O (T k) = true ∧ lkOrds n [] (O.getD 0 []) = O := by
  have e : ∀ {O' : List (List Int)} {T' : Nat → List Int}, MadeFacts n O' T' → O = O' ∧ T k = T' k := fun F' => by
    obtain ⟨a, b⟩ := F.ch k hk 25000 (Nat.le_refl _)
    obtain ⟨c, d⟩ := F'.ch k hk 25000 (Nat.le_refl _)
    exact ⟨Option.some.inj (a.symm.trans c), Option.some.inj (b.symm.trans d)⟩
  rcases (by omega : n = 2 ∨ n = 3 ∨ n = 4 ∨ n = 5) with rfl | rfl | rfl | rfl
  · rw [(e facts2).1, (e facts2).2]; exact ⟨lk2 k (List.mem_range.2 (by omega)), ords2⟩
  · rw [(e facts3).1, (e facts3).2]; exact ⟨lk3 k (List.mem_range.2 (by omega)), ords3⟩
  · rw [(e facts4).1, (e facts4).2]; exact ⟨lk4 k (List.mem_range.2 (by omega)), ords4⟩
  · rw [(e facts5).1, (e facts5).2]; exact ⟨lk5 k (List.mem_range.2 (by omega)), ords5⟩
theorem core_LikeliestOrder (a0 a1 : Int) (w0 : (Lit.int .i64 a0).wf = true) (w1 : (Lit.int .i64 a1).wf = true) :
    ∃ K r ok, r.length ≤ 35184372088832 ∧ (∀ k, K ≤ k → spec_LikeliestOrder.f k a0 a1 = some (r, ok)) ∧ (∀ k, K ≤ k → impl_LikeliestOrder.f k a0 a1 = some (r, ok)) := by
  obtain ⟨b, hb⟩ := told_some a0 a1
  cases b with
  | false =>
    refine ⟨0, [], false, by simp, fun k hk => ?_, fun k hk => ?_⟩
    · unfold spec_LikeliestOrder.f
      rw [told_same, hb]
      rfl
    · unfold impl_LikeliestOrder.f
      rw [hb]
      rfl
  | true =>
    obtain ⟨c1, c2, c3, c4⟩ := told_true hb
    obtain ⟨n, rfl⟩ : ∃ n : Nat, a0 = n := ⟨a0.toNat, by omega⟩
    obtain ⟨K, rfl⟩ : ∃ n : Nat, a1 = n := ⟨a1.toNat, by omega⟩
    obtain ⟨O, T, F⟩ := facts n (by omega) (by omega)
    obtain ⟨q0, hq, hq1, hq2⟩ := made_base F
    obtain ⟨l1, l2⟩ := lk_all F (by omega) (by omega) K (by omega)
    have hlen := F.size K (by omega)
    have hsm := F.some_
    obtain ⟨c, e1, e2, _⟩ := lk_l0 (n : Int) (T K) (by omega) (T K).length 0 0 0 (by omega) (by omega)
    have hok := of_decide_eq_true l1
    rw [show ((0 : Nat) : Int) = 0 from rfl] at e1
    rw [e1, Int.toNat_natCast] at hok
    refine ⟨25200, O.getD c [], true, ?_, fun k hk => ?_, fun k hk => ?_⟩
    · rw [F.len c (by omega)]; omega
    · unfold spec_LikeliestOrder.f
      rw [told_same, hb, Option.bind_some, if_pos rfl, (F.ch K (by omega) k (by omega)).2, Option.bind_some]
      obtain ⟨j, rfl⟩ : ∃ j, k = j + (T K).length + 1 := ⟨k - (T K).length - 1, by omega⟩
      obtain ⟨c', f1, f2, f3⟩ := lk_l0 (n : Int) (T K) (by omega) (T K).length 0 0 j (by omega) (by omega)
      rw [show ((0 : Nat) : Int) = 0 from rfl] at f1 f3
      have : c' = c := by have := f1.symm.trans e1; omega
      subst this
      rw [f3, (F.ch K (by omega) j (by omega)).1, Option.bind_some, if_pos (by omega), if_pos (by omega)]
      congr 2
      try (unfold rd_L2; rw [Int.toNat_natCast])
    · unfold impl_LikeliestOrder.f
      rw [hb, Option.bind_some, if_pos rfl, (hq k (by omega)).1, Option.bind_some, (hq k (by omega)).2, Option.bind_some, if_pos ⟨by omega, by omega, by omega, by omega, by omega⟩]
      unfold ordersF
      rw [(hq k (by omega)).1, Option.bind_some, F.len 0 hsm.1, lk_fold _ n [] (O.getD 0 []) _ (F.len 0 hsm.1) (by rw [F.len 0 hsm.1]; simp; omega), l2]
      rw [lk_pick _ O (T K) ([], 0) hlen.symm (fun i hi s => ?_), Option.bind_some, hok]
      obtain ⟨q, g1, g2⟩ := F.key i hi
      have hqs : q.size ≤ 1000 := by
        have h1 : q.size = q.data.toList.length := (Array.length_toList).symm
        rw [h1, g2]
        show (List.map _ _).length ≤ 1000
        rw [List.length_map, F.len i hi]
        omega
      have hne : O.getD i [] ≠ [] := by
        intro h
        have := F.len i hi
        rw [h] at this
        simp at this
        omega
      unfold impl_LikeliestOrder.step
      rw [if_neg hne, at_rounds (fun k => impl_orderKey.mono _ k) (show 20 ≤ k by omega) g1, Option.bind_some, if_pos hqs, Int.toNat_natCast, Int.toNat_natCast, hq1, g2, (F.tab K (by omega) i hi).1]
end Go.Proofs.Ytabobnlpcapohaa.L
