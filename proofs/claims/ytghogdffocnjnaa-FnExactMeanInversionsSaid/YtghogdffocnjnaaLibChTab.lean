/- The reference's counts of ladders by results, told by tables: each round is checked once by the kernel's run. No condition. -/
import Derived.Test.YtghogdffocnjnaaQx9
import Derived.Test.YtghogdffocnjnaaQx10
namespace Go.Proofs.Ytghogdffocnjnaa.L
open Go.RowKit Go.Proofs.Ytghogdffocnjnaa.Q Go.Proofs.YtghogdffocnjnaaW.PrintWords Go.Proofs.YtghogdffocnjnaaW.PrintLast
set_option linter.unusedVariables false
set_option linter.unusedSimpArgs false
theorem chW {n : Int} (h1 : -1000000 ≤ n) (h2 : n ≤ 1000000) : wrap64 n = n := by unfold wrap64; omega
theorem chL0_more (x0 x1 : Int) (x5 : List (List Int)) (x6 : List Int) (j : Nat) : ∀ d, LeO (spec_chOrders.l0 j x0 x1 x5 x6) (spec_chOrders.l0 (j + d) x0 x1 x5 x6)
  | 0 => LeO.refl _
  | d + 1 => fun r h => (spec_chOrders.mono_l (j + d)).1 _ _ _ _ r (chL0_more x0 x1 x5 x6 j d r h)
theorem ch_sim : ∀ k, (∀ (x0 : Int) (x5 : List (List Int)) (x7 x25 : List Int) (x26 x27 : Int) (z : List Int) (m : Int) (j : Nat), 1 ≤ m → m ≤ 1000 → spec_chOrders.l1 k x0 1 x5 x7 x25 x26 x27 = some z → LeO (spec_chOrders.l0 j x0 (m - 1) x5 z) (spec_chOrders.l1 (k + j) x0 m x5 x7 x25 x26 x27)) ∧
    (∀ (x0 : Int) (x5 : List (List Int)) (x7 : List Int) (x8 x9 x10 : Int) (x25 : List Int) (x26 x27 : Int) (z : List Int) (m : Int) (j : Nat), 1 ≤ m → m ≤ 1000 → spec_chOrders.l2 k x0 1 x5 x7 x8 x9 x10 x25 x26 x27 = some z → LeO (spec_chOrders.l0 j x0 (m - 1) x5 z) (spec_chOrders.l2 (k + j) x0 m x5 x7 x8 x9 x10 x25 x26 x27))
  | 0 => ⟨fun _ _ _ _ _ _ _ _ _ _ _ h => by simp [spec_chOrders.l1] at h, fun _ _ _ _ _ _ _ _ _ _ _ _ _ _ h => by simp [spec_chOrders.l2] at h⟩
  | k + 1 => by
    obtain ⟨ih1, ih2⟩ := ch_sim k
    refine ⟨?_, ?_⟩
    · intro x0 x5 x7 x25 x26 x27 z m j h1 h2 H
      rw [show k + 1 + j = (k + j) + 1 by omega]
      simp only [spec_chOrders.l1] at H ⊢
      by_cases a : x27 < x26
      · rw [if_pos a] at H ⊢
        by_cases b : 0 ≤ x27
        · rw [if_pos b] at H ⊢
          by_cases c : x27 < (x25.length : Int)
          · rw [if_pos c] at H ⊢
            by_cases d : rd x25 x27 = 0
            · rw [if_pos d] at H ⊢
              exact ih1 _ _ _ _ _ _ _ _ _ h1 h2 H
            · rw [if_neg d] at H ⊢
              exact ih2 _ _ _ _ _ _ _ _ _ _ _ _ h1 h2 H
          · rw [if_neg c] at H; cases H
        · rw [if_neg b] at H; cases H
      · rw [if_neg a] at H ⊢
        rw [chW (n := m - 1) (by omega) (by omega)]
        rw [chW (n := 1 - 1) (by omega) (by omega)] at H
        cases k with
        | zero => simp [spec_chOrders.l0] at H
        | succ k =>
          simp only [spec_chOrders.l0] at H
          rw [if_neg (by omega)] at H
          obtain rfl := Option.some.inj H
          rw [Nat.add_comm]
          exact chL0_more _ _ _ _ _ _
    · intro x0 x5 x7 x8 x9 x10 x25 x26 x27 z m j h1 h2 H
      rw [show k + 1 + j = (k + j) + 1 by omega]
      simp only [spec_chOrders.l2] at H ⊢
      by_cases a : x10 < wrap64 (x0 - 1)
      · rw [if_pos a] at H ⊢
        by_cases b : 0 ≤ x8
        · rw [if_pos b] at H ⊢
          by_cases c : x8 < (x5.length : Int)
          · rw [if_pos c] at H ⊢
            obtain ⟨t, e1, H⟩ := Option.bind_eq_some_iff.mp H
            obtain ⟨u, e2, H⟩ := Option.bind_eq_some_iff.mp H
            have e3 : ∀ d, spec_alRank.f (k + d) t = some u := fun d => by
              induction d with
              | zero => exact e2
              | succ d ih => exact spec_alRank.mono _ _ _ ih
            rw [e1, Option.bind_some, e3 j, Option.bind_some]
            by_cases d : 0 ≤ u
            · rw [if_pos d] at H ⊢
              by_cases e : u < (x7.length : Int)
              · rw [if_pos e] at H ⊢
                exact ih2 _ _ _ _ _ _ _ _ _ _ _ _ h1 h2 H
              · rw [if_neg e] at H; cases H
            · rw [if_neg d] at H; cases H
          · rw [if_neg c] at H; cases H
        · rw [if_neg b] at H; cases H
      · rw [if_neg a] at H ⊢
        exact ih1 _ _ _ _ _ _ _ _ _ h1 h2 H
theorem ch_round (x0 : Int) (x5 : List (List Int)) (x6 z : List Int) (F : Nat) (m : Int) (j : Nat) (h1 : 1 ≤ m) (h2 : m ≤ 1000) (H : spec_chOrders.l0 F x0 1 x5 x6 = some z) : LeO (spec_chOrders.l0 j x0 (m - 1) x5 z) (spec_chOrders.l0 (F + j) x0 m x5 x6) := by
  cases F with
  | zero => simp [spec_chOrders.l0] at H
  | succ F =>
    rw [show F + 1 + j = (F + j) + 1 by omega]
    simp only [spec_chOrders.l0] at H ⊢
    rw [if_pos (by omega)] at H ⊢
    by_cases a : 0 ≤ (x5.length : Int)
    · rw [if_pos a] at H ⊢
      by_cases b : ((x5.length : Int) : Int).toNat ≤ 35184372088832
      · rw [if_pos b] at H ⊢
        exact (ch_sim F).1 _ _ _ _ _ _ _ _ _ h1 h2 H
      · rw [if_neg b] at H; cases H
    · rw [if_neg a] at H; cases H
theorem ch_rounds (x0 : Int) (x5 : List (List Int)) (T : Nat → List Int) (F : Nat) (hs : ∀ i, i < 20 → spec_chOrders.l0 F x0 1 x5 (T i) = some (T (i + 1))) : ∀ d i : Nat, i + d ≤ 20 → spec_chOrders.l0 (d * F + 1) x0 (d : Int) x5 (T i) = some (T (i + d))
  | 0, i, _ => by
    simp only [Nat.zero_mul, spec_chOrders.l0]
    rw [if_neg (by omega)]
    rfl
  | d + 1, i, h => by
    have e := ch_round x0 x5 (T i) (T (i + 1)) F ((d : Int) + 1) (d * F + 1) (by omega) (by omega) (hs i (by omega)) (T (i + 1 + d))
    rw [show (d : Int) + 1 - 1 = d by omega] at e
    have e2 := e (ch_rounds x0 x5 T F hs d (i + 1) (by omega))
    rw [show (d + 1) * F + 1 = F + (d * F + 1) by rw [Nat.succ_mul]; omega, show i + (d + 1) = i + 1 + d by omega]
    exact_mod_cast e2
theorem ch_at (x0 : Int) (x5 : List (List Int)) (T : Nat → List Int) (F A : Nat) (hA : spec_alOrders.f A x0 = some x5) (h1 : 0 < x5.length) (h2 : x5.length ≤ 1000) (hT : (List.replicate x5.length 0).set 0 1 = T 0) (hs : ∀ i, i < 20 → spec_chOrders.l0 F x0 1 x5 (T i) = some (T (i + 1))) (k : Nat) (hk : k ≤ 20) (K : Nat) (hK : A + 20 * F + 1 ≤ K) :
    spec_alOrders.f K x0 = some x5 ∧ spec_chOrders.f K x0 (k : Int) = some (T k) := by
  have e1 : spec_alOrders.f K x0 = some x5 := by
    obtain ⟨d, rfl⟩ : ∃ d, K = A + d := ⟨K - A, by omega⟩
    clear hK
    induction d with
    | zero => exact hA
    | succ d ih => exact spec_alOrders.mono _ _ _ ih
  refine ⟨e1, ?_⟩
  unfold spec_chOrders.f
  rw [e1, Option.bind_some, if_pos (by omega), if_pos (by omega), Option.bind_some, if_pos (by simp; omega)]
  have e2 := ch_rounds x0 x5 T F hs k 0 (by omega)
  have hm : k * F ≤ 20 * F := Nat.mul_le_mul_right _ hk
  obtain ⟨d, rfl⟩ : ∃ d, K = (k * F + 1) + d := ⟨K - (k * F + 1), by omega⟩
  have e3 := chL0_more x0 (k : Int) x5 (T 0) (k * F + 1) d _ e2
  rw [Nat.zero_add] at e3
  rw [show ((x5.length : Int)).toNat = x5.length by omega, show ((0 : Int)).toNat = 0 from rfl, hT]
  exact e3
def ordL2 : List (List Int) := [[0, 1], [1, 0]]
def tab2_0 : List Int := [1, 0]
def tab2_1 : List Int := [0, 1]
def tab2_2 : List Int := [1, 0]
def tab2_3 : List Int := [0, 1]
def tab2_4 : List Int := [1, 0]
def tab2_5 : List Int := [0, 1]
def tab2_6 : List Int := [1, 0]
def tab2_7 : List Int := [0, 1]
def tab2_8 : List Int := [1, 0]
def tab2_9 : List Int := [0, 1]
def tab2_10 : List Int := [1, 0]
def tab2_11 : List Int := [0, 1]
def tab2_12 : List Int := [1, 0]
def tab2_13 : List Int := [0, 1]
def tab2_14 : List Int := [1, 0]
def tab2_15 : List Int := [0, 1]
def tab2_16 : List Int := [1, 0]
def tab2_17 : List Int := [0, 1]
def tab2_18 : List Int := [1, 0]
def tab2_19 : List Int := [0, 1]
def tab2_20 : List Int := [1, 0]
def tab2 : Nat → List Int
  | 0 => tab2_0
  | 1 => tab2_1
  | 2 => tab2_2
  | 3 => tab2_3
  | 4 => tab2_4
  | 5 => tab2_5
  | 6 => tab2_6
  | 7 => tab2_7
  | 8 => tab2_8
  | 9 => tab2_9
  | 10 => tab2_10
  | 11 => tab2_11
  | 12 => tab2_12
  | 13 => tab2_13
  | 14 => tab2_14
  | 15 => tab2_15
  | 16 => tab2_16
  | 17 => tab2_17
  | 18 => tab2_18
  | 19 => tab2_19
  | 20 => tab2_20
  | _ => []
theorem ordL2_at : spec_alOrders.f 4000 2 = some ordL2 := by decide +kernel
theorem tab2_step0 : spec_chOrders.l0 100 2 1 ordL2 tab2_0 = some tab2_1 := by decide +kernel
theorem tab2_step1 : spec_chOrders.l0 100 2 1 ordL2 tab2_1 = some tab2_2 := by decide +kernel
theorem tab2_step2 : spec_chOrders.l0 100 2 1 ordL2 tab2_2 = some tab2_3 := by decide +kernel
theorem tab2_step3 : spec_chOrders.l0 100 2 1 ordL2 tab2_3 = some tab2_4 := by decide +kernel
theorem tab2_step4 : spec_chOrders.l0 100 2 1 ordL2 tab2_4 = some tab2_5 := by decide +kernel
theorem tab2_step5 : spec_chOrders.l0 100 2 1 ordL2 tab2_5 = some tab2_6 := by decide +kernel
theorem tab2_step6 : spec_chOrders.l0 100 2 1 ordL2 tab2_6 = some tab2_7 := by decide +kernel
theorem tab2_step7 : spec_chOrders.l0 100 2 1 ordL2 tab2_7 = some tab2_8 := by decide +kernel
theorem tab2_step8 : spec_chOrders.l0 100 2 1 ordL2 tab2_8 = some tab2_9 := by decide +kernel
theorem tab2_step9 : spec_chOrders.l0 100 2 1 ordL2 tab2_9 = some tab2_10 := by decide +kernel
theorem tab2_step10 : spec_chOrders.l0 100 2 1 ordL2 tab2_10 = some tab2_11 := by decide +kernel
theorem tab2_step11 : spec_chOrders.l0 100 2 1 ordL2 tab2_11 = some tab2_12 := by decide +kernel
theorem tab2_step12 : spec_chOrders.l0 100 2 1 ordL2 tab2_12 = some tab2_13 := by decide +kernel
theorem tab2_step13 : spec_chOrders.l0 100 2 1 ordL2 tab2_13 = some tab2_14 := by decide +kernel
theorem tab2_step14 : spec_chOrders.l0 100 2 1 ordL2 tab2_14 = some tab2_15 := by decide +kernel
theorem tab2_step15 : spec_chOrders.l0 100 2 1 ordL2 tab2_15 = some tab2_16 := by decide +kernel
theorem tab2_step16 : spec_chOrders.l0 100 2 1 ordL2 tab2_16 = some tab2_17 := by decide +kernel
theorem tab2_step17 : spec_chOrders.l0 100 2 1 ordL2 tab2_17 = some tab2_18 := by decide +kernel
theorem tab2_step18 : spec_chOrders.l0 100 2 1 ordL2 tab2_18 = some tab2_19 := by decide +kernel
theorem tab2_step19 : spec_chOrders.l0 100 2 1 ordL2 tab2_19 = some tab2_20 := by decide +kernel
theorem tab2_step : ∀ i, i < 20 → spec_chOrders.l0 100 2 1 ordL2 (tab2 i) = some (tab2 (i + 1))
  | 0, _ => tab2_step0
  | 1, _ => tab2_step1
  | 2, _ => tab2_step2
  | 3, _ => tab2_step3
  | 4, _ => tab2_step4
  | 5, _ => tab2_step5
  | 6, _ => tab2_step6
  | 7, _ => tab2_step7
  | 8, _ => tab2_step8
  | 9, _ => tab2_step9
  | 10, _ => tab2_step10
  | 11, _ => tab2_step11
  | 12, _ => tab2_step12
  | 13, _ => tab2_step13
  | 14, _ => tab2_step14
  | 15, _ => tab2_step15
  | 16, _ => tab2_step16
  | 17, _ => tab2_step17
  | 18, _ => tab2_step18
  | 19, _ => tab2_step19
  | i + 20, h => absurd h (by omega)
theorem ch2 (k : Nat) (hk : k ≤ 20) (K : Nat) (hK : 25000 ≤ K) : spec_alOrders.f K 2 = some ordL2 ∧ spec_chOrders.f K 2 (k : Int) = some (tab2 k) :=
  ch_at 2 ordL2 tab2 100 4000 ordL2_at (by decide) (by decide) (by decide) tab2_step k hk K (by omega)
def ordL3 : List (List Int) := [[0, 1, 2], [0, 2, 1], [1, 0, 2], [1, 2, 0], [2, 0, 1], [2, 1, 0]]
def tab3_0 : List Int := [1, 0, 0, 0, 0, 0]
def tab3_1 : List Int := [0, 1, 1, 0, 0, 0]
def tab3_2 : List Int := [2, 0, 0, 1, 1, 0]
def tab3_3 : List Int := [0, 3, 3, 0, 0, 2]
def tab3_4 : List Int := [6, 0, 0, 5, 5, 0]
def tab3_5 : List Int := [0, 11, 11, 0, 0, 10]
def tab3_6 : List Int := [22, 0, 0, 21, 21, 0]
def tab3_7 : List Int := [0, 43, 43, 0, 0, 42]
def tab3_8 : List Int := [86, 0, 0, 85, 85, 0]
def tab3_9 : List Int := [0, 171, 171, 0, 0, 170]
def tab3_10 : List Int := [342, 0, 0, 341, 341, 0]
def tab3_11 : List Int := [0, 683, 683, 0, 0, 682]
def tab3_12 : List Int := [1366, 0, 0, 1365, 1365, 0]
def tab3_13 : List Int := [0, 2731, 2731, 0, 0, 2730]
def tab3_14 : List Int := [5462, 0, 0, 5461, 5461, 0]
def tab3_15 : List Int := [0, 10923, 10923, 0, 0, 10922]
def tab3_16 : List Int := [21846, 0, 0, 21845, 21845, 0]
def tab3_17 : List Int := [0, 43691, 43691, 0, 0, 43690]
def tab3_18 : List Int := [87382, 0, 0, 87381, 87381, 0]
def tab3_19 : List Int := [0, 174763, 174763, 0, 0, 174762]
def tab3_20 : List Int := [349526, 0, 0, 349525, 349525, 0]
def tab3 : Nat → List Int
  | 0 => tab3_0
  | 1 => tab3_1
  | 2 => tab3_2
  | 3 => tab3_3
  | 4 => tab3_4
  | 5 => tab3_5
  | 6 => tab3_6
  | 7 => tab3_7
  | 8 => tab3_8
  | 9 => tab3_9
  | 10 => tab3_10
  | 11 => tab3_11
  | 12 => tab3_12
  | 13 => tab3_13
  | 14 => tab3_14
  | 15 => tab3_15
  | 16 => tab3_16
  | 17 => tab3_17
  | 18 => tab3_18
  | 19 => tab3_19
  | 20 => tab3_20
  | _ => []
theorem ordL3_at : spec_alOrders.f 4000 3 = some ordL3 := by decide +kernel
theorem tab3_step0 : spec_chOrders.l0 100 3 1 ordL3 tab3_0 = some tab3_1 := by decide +kernel
theorem tab3_step1 : spec_chOrders.l0 100 3 1 ordL3 tab3_1 = some tab3_2 := by decide +kernel
theorem tab3_step2 : spec_chOrders.l0 100 3 1 ordL3 tab3_2 = some tab3_3 := by decide +kernel
theorem tab3_step3 : spec_chOrders.l0 100 3 1 ordL3 tab3_3 = some tab3_4 := by decide +kernel
theorem tab3_step4 : spec_chOrders.l0 100 3 1 ordL3 tab3_4 = some tab3_5 := by decide +kernel
theorem tab3_step5 : spec_chOrders.l0 100 3 1 ordL3 tab3_5 = some tab3_6 := by decide +kernel
theorem tab3_step6 : spec_chOrders.l0 100 3 1 ordL3 tab3_6 = some tab3_7 := by decide +kernel
theorem tab3_step7 : spec_chOrders.l0 100 3 1 ordL3 tab3_7 = some tab3_8 := by decide +kernel
theorem tab3_step8 : spec_chOrders.l0 100 3 1 ordL3 tab3_8 = some tab3_9 := by decide +kernel
theorem tab3_step9 : spec_chOrders.l0 100 3 1 ordL3 tab3_9 = some tab3_10 := by decide +kernel
theorem tab3_step10 : spec_chOrders.l0 100 3 1 ordL3 tab3_10 = some tab3_11 := by decide +kernel
theorem tab3_step11 : spec_chOrders.l0 100 3 1 ordL3 tab3_11 = some tab3_12 := by decide +kernel
theorem tab3_step12 : spec_chOrders.l0 100 3 1 ordL3 tab3_12 = some tab3_13 := by decide +kernel
theorem tab3_step13 : spec_chOrders.l0 100 3 1 ordL3 tab3_13 = some tab3_14 := by decide +kernel
theorem tab3_step14 : spec_chOrders.l0 100 3 1 ordL3 tab3_14 = some tab3_15 := by decide +kernel
theorem tab3_step15 : spec_chOrders.l0 100 3 1 ordL3 tab3_15 = some tab3_16 := by decide +kernel
theorem tab3_step16 : spec_chOrders.l0 100 3 1 ordL3 tab3_16 = some tab3_17 := by decide +kernel
theorem tab3_step17 : spec_chOrders.l0 100 3 1 ordL3 tab3_17 = some tab3_18 := by decide +kernel
theorem tab3_step18 : spec_chOrders.l0 100 3 1 ordL3 tab3_18 = some tab3_19 := by decide +kernel
theorem tab3_step19 : spec_chOrders.l0 100 3 1 ordL3 tab3_19 = some tab3_20 := by decide +kernel
theorem tab3_step : ∀ i, i < 20 → spec_chOrders.l0 100 3 1 ordL3 (tab3 i) = some (tab3 (i + 1))
  | 0, _ => tab3_step0
  | 1, _ => tab3_step1
  | 2, _ => tab3_step2
  | 3, _ => tab3_step3
  | 4, _ => tab3_step4
  | 5, _ => tab3_step5
  | 6, _ => tab3_step6
  | 7, _ => tab3_step7
  | 8, _ => tab3_step8
  | 9, _ => tab3_step9
  | 10, _ => tab3_step10
  | 11, _ => tab3_step11
  | 12, _ => tab3_step12
  | 13, _ => tab3_step13
  | 14, _ => tab3_step14
  | 15, _ => tab3_step15
  | 16, _ => tab3_step16
  | 17, _ => tab3_step17
  | 18, _ => tab3_step18
  | 19, _ => tab3_step19
  | i + 20, h => absurd h (by omega)
theorem ch3 (k : Nat) (hk : k ≤ 20) (K : Nat) (hK : 25000 ≤ K) : spec_alOrders.f K 3 = some ordL3 ∧ spec_chOrders.f K 3 (k : Int) = some (tab3 k) :=
  ch_at 3 ordL3 tab3 100 4000 ordL3_at (by decide) (by decide) (by decide) tab3_step k hk K (by omega)
def ordL4 : List (List Int) := [[0, 1, 2, 3], [0, 1, 3, 2], [0, 2, 1, 3], [0, 2, 3, 1], [0, 3, 1, 2], [0, 3, 2, 1], [1, 0, 2, 3], [1, 0, 3, 2], [1, 2, 0, 3], [1, 2, 3, 0], [1, 3, 0, 2], [1, 3, 2, 0], [2, 0, 1, 3], [2, 0, 3, 1], [2, 1, 0, 3], [2, 1, 3, 0], [2, 3, 0, 1], [2, 3, 1, 0], [3, 0, 1, 2], [3, 0, 2, 1], [3, 1, 0, 2], [3, 1, 2, 0], [3, 2, 0, 1], [3, 2, 1, 0]]
def tab4_0 : List Int := [1, 0, 0, 0, 0, 0, 0, 0, 0, 0, 0, 0, 0, 0, 0, 0, 0, 0, 0, 0, 0, 0, 0, 0]
def tab4_1 : List Int := [0, 1, 1, 0, 0, 0, 1, 0, 0, 0, 0, 0, 0, 0, 0, 0, 0, 0, 0, 0, 0, 0, 0, 0]
def tab4_2 : List Int := [3, 0, 0, 1, 1, 0, 0, 2, 1, 0, 0, 0, 1, 0, 0, 0, 0, 0, 0, 0, 0, 0, 0, 0]
def tab4_3 : List Int := [0, 6, 5, 0, 0, 2, 6, 0, 0, 1, 2, 0, 0, 2, 2, 0, 0, 0, 1, 0, 0, 0, 0, 0]
def tab4_4 : List Int := [17, 0, 0, 9, 9, 0, 0, 14, 9, 0, 0, 3, 9, 0, 0, 3, 2, 0, 0, 3, 3, 0, 0, 0]
def tab4_5 : List Int := [0, 40, 35, 0, 0, 21, 40, 0, 0, 15, 20, 0, 0, 20, 21, 0, 0, 5, 15, 0, 0, 6, 5, 0]
def tab4_6 : List Int := [115, 0, 0, 76, 76, 0, 0, 100, 76, 0, 0, 41, 76, 0, 0, 41, 30, 0, 0, 41, 41, 0, 0, 16]
def tab4_7 : List Int := [0, 291, 267, 0, 0, 193, 291, 0, 0, 158, 182, 0, 0, 182, 193, 0, 0, 87, 158, 0, 0, 98, 87, 0]
def tab4_8 : List Int := [849, 0, 0, 642, 642, 0, 0, 764, 642, 0, 0, 438, 642, 0, 0, 438, 356, 0, 0, 438, 438, 0, 0, 272]
def tab4_9 : List Int := [0, 2255, 2133, 0, 0, 1722, 2255, 0, 0, 1518, 1640, 0, 0, 1640, 1722, 0, 0, 1066, 1518, 0, 0, 1148, 1066, 0]
def tab4_10 : List Int := [6643, 0, 0, 5495, 5495, 0, 0, 6150, 5495, 0, 0, 4306, 5495, 0, 0, 4306, 3772, 0, 0, 4306, 4306, 0, 0, 3280]
def tab4_11 : List Int := [0, 18288, 17633, 0, 0, 15296, 18288, 0, 0, 14107, 14762, 0, 0, 14762, 15296, 0, 0, 11358, 14107, 0, 0, 11892, 11358, 0]
def tab4_12 : List Int := [54209, 0, 0, 47691, 47691, 0, 0, 51338, 47691, 0, 0, 40761, 47691, 0, 0, 40761, 37478, 0, 0, 40761, 40761, 0, 0, 34608]
def tab4_13 : List Int := [0, 153238, 149591, 0, 0, 136143, 153238, 0, 0, 129213, 132860, 0, 0, 132860, 136143, 0, 0, 112847, 129213, 0, 0, 116130, 112847, 0]
def tab4_14 : List Int := [456067, 0, 0, 418594, 418594, 0, 0, 439336, 418594, 0, 0, 378203, 418594, 0, 0, 378203, 358554, 0, 0, 378203, 378203, 0, 0, 341824]
def tab4_15 : List Int := [0, 1313997, 1293255, 0, 0, 1215391, 1313997, 0, 0, 1175000, 1195742, 0, 0, 1195742, 1215391, 0, 0, 1078581, 1175000, 0, 0, 1098230, 1078581, 0]
def tab4_16 : List Int := [3921249, 0, 0, 3704388, 3704388, 0, 0, 3823736, 3704388, 0, 0, 3468972, 3704388, 0, 0, 3468972, 3352904, 0, 0, 3468972, 3468972, 0, 0, 3255392]
def tab4_17 : List Int := [0, 11449373, 11330025, 0, 0, 10877748, 11449373, 0, 0, 10642332, 10761680, 0, 0, 10761680, 10877748, 0, 0, 10077268, 10642332, 0, 0, 10193336, 10077268, 0]
def tab4_18 : List Int := [34228771, 0, 0, 32969453, 32969453, 0, 0, 33660426, 32969453, 0, 0, 31597348, 32969453, 0, 0, 31597348, 30916216, 0, 0, 31597348, 31597348, 0, 0, 30347872]
def tab4_19 : List Int := [0, 100858650, 100167677, 0, 0, 97536254, 100858650, 0, 0, 96164149, 96855122, 0, 0, 96855122, 97536254, 0, 0, 92861436, 96164149, 0, 0, 93542568, 92861436, 0]
def tab4_20 : List Int := [301884977, 0, 0, 294559053, 294559053, 0, 0, 298572422, 294559053, 0, 0, 286561839, 294559053, 0, 0, 286561839, 282577994, 0, 0, 286561839, 286561839, 0, 0, 279265440]
def tab4 : Nat → List Int
  | 0 => tab4_0
  | 1 => tab4_1
  | 2 => tab4_2
  | 3 => tab4_3
  | 4 => tab4_4
  | 5 => tab4_5
  | 6 => tab4_6
  | 7 => tab4_7
  | 8 => tab4_8
  | 9 => tab4_9
  | 10 => tab4_10
  | 11 => tab4_11
  | 12 => tab4_12
  | 13 => tab4_13
  | 14 => tab4_14
  | 15 => tab4_15
  | 16 => tab4_16
  | 17 => tab4_17
  | 18 => tab4_18
  | 19 => tab4_19
  | 20 => tab4_20
  | _ => []
theorem ordL4_at : spec_alOrders.f 4000 4 = some ordL4 := by decide +kernel
theorem tab4_step0 : spec_chOrders.l0 300 4 1 ordL4 tab4_0 = some tab4_1 := by decide +kernel
theorem tab4_step1 : spec_chOrders.l0 300 4 1 ordL4 tab4_1 = some tab4_2 := by decide +kernel
theorem tab4_step2 : spec_chOrders.l0 300 4 1 ordL4 tab4_2 = some tab4_3 := by decide +kernel
theorem tab4_step3 : spec_chOrders.l0 300 4 1 ordL4 tab4_3 = some tab4_4 := by decide +kernel
theorem tab4_step4 : spec_chOrders.l0 300 4 1 ordL4 tab4_4 = some tab4_5 := by decide +kernel
theorem tab4_step5 : spec_chOrders.l0 300 4 1 ordL4 tab4_5 = some tab4_6 := by decide +kernel
theorem tab4_step6 : spec_chOrders.l0 300 4 1 ordL4 tab4_6 = some tab4_7 := by decide +kernel
theorem tab4_step7 : spec_chOrders.l0 300 4 1 ordL4 tab4_7 = some tab4_8 := by decide +kernel
theorem tab4_step8 : spec_chOrders.l0 300 4 1 ordL4 tab4_8 = some tab4_9 := by decide +kernel
theorem tab4_step9 : spec_chOrders.l0 300 4 1 ordL4 tab4_9 = some tab4_10 := by decide +kernel
theorem tab4_step10 : spec_chOrders.l0 300 4 1 ordL4 tab4_10 = some tab4_11 := by decide +kernel
theorem tab4_step11 : spec_chOrders.l0 300 4 1 ordL4 tab4_11 = some tab4_12 := by decide +kernel
theorem tab4_step12 : spec_chOrders.l0 300 4 1 ordL4 tab4_12 = some tab4_13 := by decide +kernel
theorem tab4_step13 : spec_chOrders.l0 300 4 1 ordL4 tab4_13 = some tab4_14 := by decide +kernel
theorem tab4_step14 : spec_chOrders.l0 300 4 1 ordL4 tab4_14 = some tab4_15 := by decide +kernel
theorem tab4_step15 : spec_chOrders.l0 300 4 1 ordL4 tab4_15 = some tab4_16 := by decide +kernel
theorem tab4_step16 : spec_chOrders.l0 300 4 1 ordL4 tab4_16 = some tab4_17 := by decide +kernel
theorem tab4_step17 : spec_chOrders.l0 300 4 1 ordL4 tab4_17 = some tab4_18 := by decide +kernel
theorem tab4_step18 : spec_chOrders.l0 300 4 1 ordL4 tab4_18 = some tab4_19 := by decide +kernel
theorem tab4_step19 : spec_chOrders.l0 300 4 1 ordL4 tab4_19 = some tab4_20 := by decide +kernel
theorem tab4_step : ∀ i, i < 20 → spec_chOrders.l0 300 4 1 ordL4 (tab4 i) = some (tab4 (i + 1))
  | 0, _ => tab4_step0
  | 1, _ => tab4_step1
  | 2, _ => tab4_step2
  | 3, _ => tab4_step3
  | 4, _ => tab4_step4
  | 5, _ => tab4_step5
  | 6, _ => tab4_step6
  | 7, _ => tab4_step7
  | 8, _ => tab4_step8
  | 9, _ => tab4_step9
  | 10, _ => tab4_step10
  | 11, _ => tab4_step11
  | 12, _ => tab4_step12
  | 13, _ => tab4_step13
  | 14, _ => tab4_step14
  | 15, _ => tab4_step15
  | 16, _ => tab4_step16
  | 17, _ => tab4_step17
  | 18, _ => tab4_step18
  | 19, _ => tab4_step19
  | i + 20, h => absurd h (by omega)
theorem ch4 (k : Nat) (hk : k ≤ 20) (K : Nat) (hK : 25000 ≤ K) : spec_alOrders.f K 4 = some ordL4 ∧ spec_chOrders.f K 4 (k : Int) = some (tab4 k) :=
  ch_at 4 ordL4 tab4 300 4000 ordL4_at (by decide) (by decide) (by decide) tab4_step k hk K (by omega)
def ordL5 : List (List Int) := [[0, 1, 2, 3, 4], [0, 1, 2, 4, 3], [0, 1, 3, 2, 4], [0, 1, 3, 4, 2], [0, 1, 4, 2, 3], [0, 1, 4, 3, 2], [0, 2, 1, 3, 4], [0, 2, 1, 4, 3], [0, 2, 3, 1, 4], [0, 2, 3, 4, 1], [0, 2, 4, 1, 3], [0, 2, 4, 3, 1], [0, 3, 1, 2, 4], [0, 3, 1, 4, 2], [0, 3, 2, 1, 4], [0, 3, 2, 4, 1], [0, 3, 4, 1, 2], [0, 3, 4, 2, 1], [0, 4, 1, 2, 3], [0, 4, 1, 3, 2], [0, 4, 2, 1, 3], [0, 4, 2, 3, 1], [0, 4, 3, 1, 2], [0, 4, 3, 2, 1], [1, 0, 2, 3, 4], [1, 0, 2, 4, 3], [1, 0, 3, 2, 4], [1, 0, 3, 4, 2], [1, 0, 4, 2, 3], [1, 0, 4, 3, 2], [1, 2, 0, 3, 4], [1, 2, 0, 4, 3], [1, 2, 3, 0, 4], [1, 2, 3, 4, 0], [1, 2, 4, 0, 3], [1, 2, 4, 3, 0], [1, 3, 0, 2, 4], [1, 3, 0, 4, 2], [1, 3, 2, 0, 4], [1, 3, 2, 4, 0], [1, 3, 4, 0, 2], [1, 3, 4, 2, 0], [1, 4, 0, 2, 3], [1, 4, 0, 3, 2], [1, 4, 2, 0, 3], [1, 4, 2, 3, 0], [1, 4, 3, 0, 2], [1, 4, 3, 2, 0], [2, 0, 1, 3, 4], [2, 0, 1, 4, 3], [2, 0, 3, 1, 4], [2, 0, 3, 4, 1], [2, 0, 4, 1, 3], [2, 0, 4, 3, 1], [2, 1, 0, 3, 4], [2, 1, 0, 4, 3], [2, 1, 3, 0, 4], [2, 1, 3, 4, 0], [2, 1, 4, 0, 3], [2, 1, 4, 3, 0], [2, 3, 0, 1, 4], [2, 3, 0, 4, 1], [2, 3, 1, 0, 4], [2, 3, 1, 4, 0], [2, 3, 4, 0, 1], [2, 3, 4, 1, 0], [2, 4, 0, 1, 3], [2, 4, 0, 3, 1], [2, 4, 1, 0, 3], [2, 4, 1, 3, 0], [2, 4, 3, 0, 1], [2, 4, 3, 1, 0], [3, 0, 1, 2, 4], [3, 0, 1, 4, 2], [3, 0, 2, 1, 4], [3, 0, 2, 4, 1], [3, 0, 4, 1, 2], [3, 0, 4, 2, 1], [3, 1, 0, 2, 4], [3, 1, 0, 4, 2], [3, 1, 2, 0, 4], [3, 1, 2, 4, 0], [3, 1, 4, 0, 2], [3, 1, 4, 2, 0], [3, 2, 0, 1, 4], [3, 2, 0, 4, 1], [3, 2, 1, 0, 4], [3, 2, 1, 4, 0], [3, 2, 4, 0, 1], [3, 2, 4, 1, 0], [3, 4, 0, 1, 2], [3, 4, 0, 2, 1], [3, 4, 1, 0, 2], [3, 4, 1, 2, 0], [3, 4, 2, 0, 1], [3, 4, 2, 1, 0], [4, 0, 1, 2, 3], [4, 0, 1, 3, 2], [4, 0, 2, 1, 3], [4, 0, 2, 3, 1], [4, 0, 3, 1, 2], [4, 0, 3, 2, 1], [4, 1, 0, 2, 3], [4, 1, 0, 3, 2], [4, 1, 2, 0, 3], [4, 1, 2, 3, 0], [4, 1, 3, 0, 2], [4, 1, 3, 2, 0], [4, 2, 0, 1, 3], [4, 2, 0, 3, 1], [4, 2, 1, 0, 3], [4, 2, 1, 3, 0], [4, 2, 3, 0, 1], [4, 2, 3, 1, 0], [4, 3, 0, 1, 2], [4, 3, 0, 2, 1], [4, 3, 1, 0, 2], [4, 3, 1, 2, 0], [4, 3, 2, 0, 1], [4, 3, 2, 1, 0]]
def tab5_0 : List Int := [1, 0, 0, 0, 0, 0, 0, 0, 0, 0, 0, 0, 0, 0, 0, 0, 0, 0, 0, 0, 0, 0, 0, 0, 0, 0, 0, 0, 0, 0, 0, 0, 0, 0, 0, 0, 0, 0, 0, 0, 0, 0, 0, 0, 0, 0, 0, 0, 0, 0, 0, 0, 0, 0, 0, 0, 0, 0, 0, 0, 0, 0, 0, 0, 0, 0, 0, 0, 0, 0, 0, 0, 0, 0, 0, 0, 0, 0, 0, 0, 0, 0, 0, 0, 0, 0, 0, 0, 0, 0, 0, 0, 0, 0, 0, 0, 0, 0, 0, 0, 0, 0, 0, 0, 0, 0, 0, 0, 0, 0, 0, 0, 0, 0, 0, 0, 0, 0, 0, 0]
def tab5_1 : List Int := [0, 1, 1, 0, 0, 0, 1, 0, 0, 0, 0, 0, 0, 0, 0, 0, 0, 0, 0, 0, 0, 0, 0, 0, 1, 0, 0, 0, 0, 0, 0, 0, 0, 0, 0, 0, 0, 0, 0, 0, 0, 0, 0, 0, 0, 0, 0, 0, 0, 0, 0, 0, 0, 0, 0, 0, 0, 0, 0, 0, 0, 0, 0, 0, 0, 0, 0, 0, 0, 0, 0, 0, 0, 0, 0, 0, 0, 0, 0, 0, 0, 0, 0, 0, 0, 0, 0, 0, 0, 0, 0, 0, 0, 0, 0, 0, 0, 0, 0, 0, 0, 0, 0, 0, 0, 0, 0, 0, 0, 0, 0, 0, 0, 0, 0, 0, 0, 0, 0, 0]
def tab5_2 : List Int := [4, 0, 0, 1, 1, 0, 0, 2, 1, 0, 0, 0, 1, 0, 0, 0, 0, 0, 0, 0, 0, 0, 0, 0, 0, 2, 2, 0, 0, 0, 1, 0, 0, 0, 0, 0, 0, 0, 0, 0, 0, 0, 0, 0, 0, 0, 0, 0, 1, 0, 0, 0, 0, 0, 0, 0, 0, 0, 0, 0, 0, 0, 0, 0, 0, 0, 0, 0, 0, 0, 0, 0, 0, 0, 0, 0, 0, 0, 0, 0, 0, 0, 0, 0, 0, 0, 0, 0, 0, 0, 0, 0, 0, 0, 0, 0, 0, 0, 0, 0, 0, 0, 0, 0, 0, 0, 0, 0, 0, 0, 0, 0, 0, 0, 0, 0, 0, 0, 0, 0]
def tab5_3 : List Int := [0, 9, 8, 0, 0, 2, 8, 0, 0, 1, 2, 0, 0, 2, 2, 0, 0, 0, 1, 0, 0, 0, 0, 0, 9, 0, 0, 3, 3, 0, 0, 3, 1, 0, 0, 0, 2, 0, 0, 0, 0, 0, 0, 0, 0, 0, 0, 0, 0, 3, 2, 0, 0, 0, 2, 0, 0, 0, 0, 0, 0, 0, 0, 0, 0, 0, 0, 0, 0, 0, 0, 0, 1, 0, 0, 0, 0, 0, 0, 0, 0, 0, 0, 0, 0, 0, 0, 0, 0, 0, 0, 0, 0, 0, 0, 0, 0, 0, 0, 0, 0, 0, 0, 0, 0, 0, 0, 0, 0, 0, 0, 0, 0, 0, 0, 0, 0, 0, 0, 0]
def tab5_4 : List Int := [34, 0, 0, 15, 15, 0, 0, 22, 13, 0, 0, 3, 13, 0, 0, 3, 2, 0, 0, 3, 3, 0, 0, 0, 0, 24, 22, 0, 0, 8, 15, 0, 0, 1, 3, 0, 0, 5, 3, 0, 0, 0, 3, 0, 0, 0, 0, 0, 15, 0, 0, 3, 5, 0, 0, 8, 3, 0, 0, 0, 2, 0, 0, 0, 0, 0, 0, 0, 0, 0, 0, 0, 0, 3, 3, 0, 0, 0, 3, 0, 0, 0, 0, 0, 0, 0, 0, 0, 0, 0, 0, 0, 0, 0, 0, 0, 1, 0, 0, 0, 0, 0, 0, 0, 0, 0, 0, 0, 0, 0, 0, 0, 0, 0, 0, 0, 0, 0, 0, 0]
def tab5_5 : List Int := [0, 95, 84, 0, 0, 41, 84, 0, 0, 22, 33, 0, 0, 33, 32, 0, 0, 5, 22, 0, 0, 6, 5, 0, 95, 0, 0, 50, 50, 0, 0, 50, 22, 0, 0, 4, 33, 0, 0, 4, 5, 0, 0, 11, 6, 0, 0, 0, 0, 50, 33, 0, 0, 11, 41, 0, 0, 4, 11, 0, 0, 5, 5, 0, 0, 0, 5, 0, 0, 0, 0, 0, 22, 0, 0, 6, 5, 0, 0, 11, 6, 0, 0, 0, 5, 0, 0, 0, 0, 0, 0, 0, 0, 0, 0, 0, 0, 4, 4, 0, 0, 0, 4, 0, 0, 0, 0, 0, 0, 0, 0, 0, 0, 0, 0, 0, 0, 0, 0, 0]
def tab5_6 : List Int := [358, 0, 0, 208, 208, 0, 0, 262, 171, 0, 0, 72, 171, 0, 0, 65, 48, 0, 0, 72, 65, 0, 0, 16, 0, 290, 262, 0, 0, 152, 208, 0, 0, 34, 71, 0, 0, 99, 65, 0, 0, 9, 71, 0, 0, 10, 16, 0, 208, 0, 0, 71, 99, 0, 0, 152, 72, 0, 0, 19, 48, 0, 0, 9, 5, 0, 0, 16, 16, 0, 0, 0, 0, 71, 65, 0, 0, 16, 72, 0, 0, 10, 16, 0, 0, 16, 16, 0, 0, 0, 5, 0, 0, 0, 0, 0, 34, 0, 0, 10, 9, 0, 0, 19, 10, 0, 0, 0, 9, 0, 0, 0, 0, 0, 0, 0, 0, 0, 0, 0]
def tab5_7 : List Int := [0, 1118, 999, 0, 0, 640, 999, 0, 0, 379, 498, 0, 0, 498, 472, 0, 0, 145, 379, 0, 0, 163, 145, 0, 1118, 0, 0, 721, 721, 0, 0, 721, 379, 0, 0, 134, 498, 0, 0, 118, 140, 0, 0, 258, 162, 0, 0, 35, 0, 721, 498, 0, 0, 258, 640, 0, 0, 134, 258, 0, 0, 140, 145, 0, 0, 14, 140, 0, 0, 35, 21, 0, 379, 0, 0, 162, 140, 0, 0, 258, 163, 0, 0, 35, 145, 0, 0, 35, 21, 0, 0, 21, 21, 0, 0, 0, 0, 134, 118, 0, 0, 35, 134, 0, 0, 20, 35, 0, 0, 35, 35, 0, 0, 0, 14, 0, 0, 0, 0, 0]
def tab5_8 : List Int := [4234, 0, 0, 2858, 2858, 0, 0, 3336, 2348, 0, 0, 1298, 2348, 0, 0, 1158, 928, 0, 0, 1298, 1158, 0, 0, 488, 0, 3678, 3336, 0, 0, 2340, 2858, 0, 0, 765, 1275, 0, 0, 1617, 1158, 0, 0, 328, 1275, 0, 0, 351, 468, 0, 2858, 0, 0, 1275, 1617, 0, 0, 2340, 1298, 0, 0, 561, 928, 0, 0, 328, 196, 0, 0, 454, 468, 0, 0, 70, 0, 1275, 1158, 0, 0, 468, 1298, 0, 0, 351, 454, 0, 0, 468, 488, 0, 0, 70, 196, 0, 0, 56, 42, 0, 765, 0, 0, 351, 328, 0, 0, 561, 351, 0, 0, 90, 328, 0, 0, 90, 56, 0, 0, 70, 70, 0, 0, 0]
def tab5_9 : List Int := [0, 14106, 12776, 0, 0, 9354, 12776, 0, 0, 6079, 7409, 0, 0, 7409, 7012, 0, 0, 3042, 6079, 0, 0, 3295, 3042, 0, 14106, 0, 0, 10151, 10151, 0, 0, 10151, 6079, 0, 0, 2952, 7409, 0, 0, 2602, 2867, 0, 0, 4644, 3252, 0, 0, 1237, 0, 10151, 7409, 0, 0, 4644, 9354, 0, 0, 2952, 4644, 0, 0, 2867, 3042, 0, 0, 664, 2867, 0, 0, 1189, 776, 0, 6079, 0, 0, 3252, 2867, 0, 0, 4644, 3295, 0, 0, 1189, 3042, 0, 0, 1237, 776, 0, 0, 776, 776, 0, 0, 168, 0, 2952, 2602, 0, 0, 1237, 2952, 0, 0, 882, 1189, 0, 0, 1189, 1237, 0, 0, 216, 664, 0, 0, 216, 168, 0]
def tab5_10 : List Int := [53764, 0, 0, 39690, 39690, 0, 0, 44442, 33276, 0, 0, 21427, 33276, 0, 0, 19385, 16360, 0, 0, 21427, 19385, 0, 0, 10616, 0, 48514, 44442, 0, 0, 34300, 39690, 0, 0, 14585, 20999, 0, 0, 25071, 19385, 0, 0, 7895, 20999, 0, 0, 8323, 9937, 0, 39690, 0, 0, 20999, 25071, 0, 0, 34300, 21427, 0, 0, 11737, 16360, 0, 0, 7895, 5083, 0, 0, 9476, 9937, 0, 0, 2845, 0, 20999, 19385, 0, 0, 9937, 21427, 0, 0, 8323, 9476, 0, 0, 9937, 10616, 0, 0, 2845, 5083, 0, 0, 2349, 1888, 0, 14585, 0, 0, 8323, 7895, 0, 0, 11737, 8323, 0, 0, 3524, 7895, 0, 0, 3524, 2349, 0, 0, 2845, 2845, 0, 0, 768]
def tab5_11 : List Int := [0, 186410, 171172, 0, 0, 135107, 171172, 0, 0, 95087, 110325, 0, 0, 110325, 105322, 0, 0, 56298, 95087, 0, 0, 59751, 56298, 0, 186410, 0, 0, 143503, 143503, 0, 0, 143503, 95087, 0, 0, 55644, 110325, 0, 0, 50188, 52379, 0, 0, 76973, 58644, 0, 0, 29679, 0, 143503, 110325, 0, 0, 76973, 135107, 0, 0, 55644, 76973, 0, 0, 52379, 56298, 0, 0, 18668, 52379, 0, 0, 28043, 19753, 0, 95087, 0, 0, 58644, 52379, 0, 0, 76973, 59751, 0, 0, 28043, 56298, 0, 0, 29679, 19753, 0, 0, 19753, 19753, 0, 0, 7850, 0, 55644, 50188, 0, 0, 29679, 55644, 0, 0, 23694, 28043, 0, 0, 28043, 29679, 0, 0, 9486, 18668, 0, 0, 9486, 7850, 0]
def tab5_12 : List Int := [715164, 0, 0, 560107, 560107, 0, 0, 611410, 481906, 0, 0, 342136, 481906, 0, 0, 315351, 275300, 0, 0, 342136, 315351, 0, 0, 202026, 0, 659826, 611410, 0, 0, 499086, 560107, 0, 0, 256563, 334764, 0, 0, 383180, 315351, 0, 0, 160289, 334764, 0, 0, 167661, 187074, 0, 560107, 0, 0, 334764, 383180, 0, 0, 499086, 342136, 0, 0, 216304, 275300, 0, 0, 160289, 110553, 0, 0, 177148, 187074, 0, 0, 75950, 0, 334764, 315351, 0, 0, 187074, 342136, 0, 0, 167661, 177148, 0, 0, 187074, 202026, 0, 0, 75950, 110553, 0, 0, 65132, 55206, 0, 256563, 0, 0, 167661, 160289, 0, 0, 216304, 167661, 0, 0, 90902, 160289, 0, 0, 90902, 65132, 0, 0, 75950, 75950, 0, 0, 34672]
def tab5_13 : List Int := [0, 2546507, 2368587, 0, 0, 1961436, 2368587, 0, 0, 1474157, 1652077, 0, 0, 1652077, 1594514, 0, 0, 979751, 1474157, 0, 0, 1027174, 979751, 0, 2546507, 0, 0, 2053783, 2053783, 0, 0, 2053783, 1474157, 0, 0, 975292, 1652077, 0, 0, 899864, 907691, 0, 0, 1237228, 1004850, 0, 0, 605926, 0, 2053783, 1652077, 0, 0, 1237228, 1961436, 0, 0, 975292, 1237228, 0, 0, 907691, 979751, 0, 0, 422742, 907691, 0, 0, 570230, 428783, 0, 1474157, 0, 0, 1004850, 907691, 0, 0, 1237228, 1027174, 0, 0, 570230, 979751, 0, 0, 605926, 428783, 0, 0, 428783, 428783, 0, 0, 230960, 0, 975292, 899864, 0, 0, 605926, 975292, 0, 0, 517126, 570230, 0, 0, 570230, 605926, 0, 0, 266656, 422742, 0, 0, 266656, 230960, 0]
def tab5_14 : List Int := [9830188, 0, 0, 8035883, 8035883, 0, 0, 8620954, 7089335, 0, 0, 5390636, 7089335, 0, 0, 5053272, 4519270, 0, 0, 5390636, 5053272, 0, 0, 3592602, 0, 9200580, 8620954, 0, 0, 7306230, 8035883, 0, 0, 4324605, 5271153, 0, 0, 5850779, 5053272, 0, 0, 2983711, 5271153, 0, 0, 3103194, 3321075, 0, 8035883, 0, 0, 5271153, 5850779, 0, 0, 7306230, 5390636, 0, 0, 3758042, 4519270, 0, 0, 2983711, 2187999, 0, 0, 3143932, 3321075, 0, 0, 1688411, 0, 5271153, 5053272, 0, 0, 3321075, 5390636, 0, 0, 3103194, 3143932, 0, 0, 3321075, 3592602, 0, 0, 1688411, 2187999, 0, 0, 1496629, 1319486, 0, 4324605, 0, 0, 3103194, 2983711, 0, 0, 3758042, 3103194, 0, 0, 1959938, 2983711, 0, 0, 1959938, 1496629, 0, 0, 1688411, 1688411, 0, 0, 995232]
def tab5_15 : List Int := [0, 35687605, 33576360, 0, 0, 28768632, 33576360, 0, 0, 22804396, 24915641, 0, 0, 24915641, 24285214, 0, 0, 16486219, 22804396, 0, 0, 17139704, 16486219, 0, 35687605, 0, 0, 29813846, 29813846, 0, 0, 29813846, 22804396, 0, 0, 16456994, 24915641, 0, 0, 15464782, 15299497, 0, 0, 19656500, 16748694, 0, 0, 11367918, 0, 29813846, 24915641, 0, 0, 19656500, 28768632, 0, 0, 16456994, 19656500, 0, 0, 15299497, 16486219, 0, 0, 8548532, 15299497, 0, 0, 10727466, 8516971, 0, 22804396, 0, 0, 16748694, 15299497, 0, 0, 19656500, 17139704, 0, 0, 10727466, 16486219, 0, 0, 11367918, 8516971, 0, 0, 8516971, 8516971, 0, 0, 5499758, 0, 16456994, 15464782, 0, 0, 11367918, 16456994, 0, 0, 10126264, 10727466, 0, 0, 10727466, 11367918, 0, 0, 6140210, 8548532, 0, 0, 6140210, 5499758, 0]
def tab5_16 : List Int := [138527930, 0, 0, 117074479, 117074479, 0, 0, 123993452, 105581611, 0, 0, 84516241, 105581611, 0, 0, 80324523, 73187576, 0, 0, 84516241, 80324523, 0, 0, 61480060, 0, 131002902, 123993452, 0, 0, 108052824, 117074479, 0, 0, 71183166, 82676034, 0, 0, 89685484, 80324523, 0, 0, 52859663, 82676034, 0, 0, 54699870, 57051381, 0, 117074479, 0, 0, 82676034, 89685484, 0, 0, 108052824, 84516241, 0, 0, 63297954, 73187576, 0, 0, 52859663, 40881971, 0, 0, 54200434, 57051381, 0, 0, 33933179, 0, 82676034, 80324523, 0, 0, 57051381, 84516241, 0, 0, 54699870, 54200434, 0, 0, 57051381, 61480060, 0, 0, 33933179, 40881971, 0, 0, 30884405, 28033458, 0, 71183166, 0, 0, 54699870, 52859663, 0, 0, 63297954, 54699870, 0, 0, 38361858, 52859663, 0, 0, 38361858, 30884405, 0, 0, 33933179, 33933179, 0, 0, 23279936]
def tab5_17 : List Int := [0, 510598763, 485177472, 0, 0, 426718023, 485177472, 0, 0, 353098409, 378519700, 0, 0, 378519700, 371812268, 0, 0, 272043540, 353098409, 0, 0, 281020694, 272043540, 0, 510598763, 0, 0, 438806239, 438806239, 0, 0, 438806239, 353098409, 0, 0, 271857024, 378519700, 0, 0, 259067222, 253796962, 0, 0, 311078193, 274751808, 0, 0, 202972772, 0, 438806239, 378519700, 0, 0, 311078193, 426718023, 0, 0, 271857024, 311078193, 0, 0, 253796962, 272043540, 0, 0, 161607992, 253796962, 0, 0, 192644372, 159899989, 0, 353098409, 0, 0, 274751808, 253796962, 0, 0, 311078193, 281020694, 0, 0, 192644372, 272043540, 0, 0, 202972772, 159899989, 0, 0, 159899989, 159899989, 0, 0, 116130978, 0, 271857024, 259067222, 0, 0, 202972772, 271857024, 0, 0, 186123456, 192644372, 0, 0, 192644372, 202972772, 0, 0, 126459378, 161607992, 0, 0, 126459378, 116130978, 0]
def tab5_18 : List Int := [1991552470, 0, 0, 1729221434, 1729221434, 0, 0, 1813102174, 1588607849, 0, 0, 1323716996, 1588607849, 0, 0, 1271706025, 1176403742, 0, 0, 1323716996, 1271706025, 0, 0, 1028080546, 0, 1898810004, 1813102174, 0, 0, 1615408694, 1729221434, 0, 0, 1155879679, 1296493264, 0, 0, 1382201094, 1271706025, 0, 0, 908481328, 1296493264, 0, 0, 935705060, 960492299, 0, 1729221434, 0, 0, 1296493264, 1382201094, 0, 0, 1615408694, 1323716996, 0, 0, 1047436613, 1176403742, 0, 0, 908481328, 735204932, 0, 0, 917419516, 960492299, 0, 0, 640611731, 0, 1296493264, 1271706025, 0, 0, 960492299, 1323716996, 0, 0, 935705060, 917419516, 0, 0, 960492299, 1028080546, 0, 0, 640611731, 735204932, 0, 0, 595134717, 552061934, 0, 1155879679, 0, 0, 935705060, 908481328, 0, 0, 1047436613, 935705060, 0, 0, 708199978, 908481328, 0, 0, 708199978, 595134717, 0, 0, 640611731, 640611731, 0, 0, 485180712]
def tab5_19 : List Int := [0, 7432686082, 7122483927, 0, 0, 6397568558, 7122483927, 0, 0, 5480524134, 5790726289, 0, 0, 5790726289, 5720627748, 0, 0, 4436682612, 5480524134, 0, 0, 4559208627, 4436682612, 0, 7432686082, 0, 0, 6539933396, 6539933396, 0, 0, 6539933396, 5480524134, 0, 0, 4435514616, 5790726289, 0, 0, 4271772092, 4168594237, 0, 0, 4919830870, 4464396648, 0, 0, 3512878665, 0, 6539933396, 5790726289, 0, 0, 4919830870, 6397568558, 0, 0, 4435514616, 4919830870, 0, 0, 4168594237, 4436682612, 0, 0, 2924909722, 4168594237, 0, 0, 3356740621, 2888370896, 0, 5480524134, 0, 0, 4464396648, 4168594237, 0, 0, 4919830870, 4559208627, 0, 0, 3356740621, 4436682612, 0, 0, 3512878665, 2888370896, 0, 0, 2888370896, 2888370896, 0, 0, 2272989094, 0, 4435514616, 4271772092, 0, 0, 3512878665, 4435514616, 0, 0, 3287810076, 3356740621, 0, 0, 3356740621, 3512878665, 0, 0, 2429127138, 2924909722, 0, 0, 2429127138, 2272989094, 0]
def tab5_20 : List Int := [29110340018, 0, 0, 25850712170, 25850712170, 0, 0, 26885829694, 24114362098, 0, 0, 20750289920, 24114362098, 0, 0, 20102231142, 18832685750, 0, 0, 20750289920, 20102231142, 0, 0, 16945452516, 0, 27945238956, 26885829694, 0, 0, 24397266220, 25850712170, 0, 0, 18623325458, 20359675530, 0, 0, 21419084792, 20102231142, 0, 0, 15309985615, 20359675530, 0, 0, 15700600005, 15958044393, 0, 25850712170, 0, 0, 20359675530, 21419084792, 0, 0, 24397266220, 20750289920, 0, 0, 17147600723, 18832685750, 0, 0, 15309985615, 12870245751, 0, 0, 15333536624, 15958044393, 0, 0, 11599148377, 0, 20359675530, 20102231142, 0, 0, 15958044393, 20750289920, 0, 0, 15700600005, 15333536624, 0, 0, 15958044393, 16945452516, 0, 0, 11599148377, 12870245751, 0, 0, 10947227749, 10322719980, 0, 18623325458, 0, 0, 15700600005, 15309985615, 0, 0, 17147600723, 15700600005, 0, 0, 12586556500, 15309985615, 0, 0, 12586556500, 10947227749, 0, 0, 11599148377, 11599148377, 0, 0, 9404232464]
def tab5 : Nat → List Int
  | 0 => tab5_0
  | 1 => tab5_1
  | 2 => tab5_2
  | 3 => tab5_3
  | 4 => tab5_4
  | 5 => tab5_5
  | 6 => tab5_6
  | 7 => tab5_7
  | 8 => tab5_8
  | 9 => tab5_9
  | 10 => tab5_10
  | 11 => tab5_11
  | 12 => tab5_12
  | 13 => tab5_13
  | 14 => tab5_14
  | 15 => tab5_15
  | 16 => tab5_16
  | 17 => tab5_17
  | 18 => tab5_18
  | 19 => tab5_19
  | 20 => tab5_20
  | _ => []
theorem ordL5_at : spec_alOrders.f 4000 5 = some ordL5 := by decide +kernel
theorem tab5_step0 : spec_chOrders.l0 1000 5 1 ordL5 tab5_0 = some tab5_1 := by decide +kernel
theorem tab5_step1 : spec_chOrders.l0 1000 5 1 ordL5 tab5_1 = some tab5_2 := by decide +kernel
theorem tab5_step2 : spec_chOrders.l0 1000 5 1 ordL5 tab5_2 = some tab5_3 := by decide +kernel
theorem tab5_step3 : spec_chOrders.l0 1000 5 1 ordL5 tab5_3 = some tab5_4 := by decide +kernel
theorem tab5_step4 : spec_chOrders.l0 1000 5 1 ordL5 tab5_4 = some tab5_5 := by decide +kernel
theorem tab5_step5 : spec_chOrders.l0 1000 5 1 ordL5 tab5_5 = some tab5_6 := by decide +kernel
theorem tab5_step6 : spec_chOrders.l0 1000 5 1 ordL5 tab5_6 = some tab5_7 := by decide +kernel
theorem tab5_step7 : spec_chOrders.l0 1000 5 1 ordL5 tab5_7 = some tab5_8 := by decide +kernel
theorem tab5_step8 : spec_chOrders.l0 1000 5 1 ordL5 tab5_8 = some tab5_9 := by decide +kernel
theorem tab5_step9 : spec_chOrders.l0 1000 5 1 ordL5 tab5_9 = some tab5_10 := by decide +kernel
theorem tab5_step10 : spec_chOrders.l0 1000 5 1 ordL5 tab5_10 = some tab5_11 := by decide +kernel
theorem tab5_step11 : spec_chOrders.l0 1000 5 1 ordL5 tab5_11 = some tab5_12 := by decide +kernel
theorem tab5_step12 : spec_chOrders.l0 1000 5 1 ordL5 tab5_12 = some tab5_13 := by decide +kernel
theorem tab5_step13 : spec_chOrders.l0 1000 5 1 ordL5 tab5_13 = some tab5_14 := by decide +kernel
theorem tab5_step14 : spec_chOrders.l0 1000 5 1 ordL5 tab5_14 = some tab5_15 := by decide +kernel
theorem tab5_step15 : spec_chOrders.l0 1000 5 1 ordL5 tab5_15 = some tab5_16 := by decide +kernel
theorem tab5_step16 : spec_chOrders.l0 1000 5 1 ordL5 tab5_16 = some tab5_17 := by decide +kernel
theorem tab5_step17 : spec_chOrders.l0 1000 5 1 ordL5 tab5_17 = some tab5_18 := by decide +kernel
theorem tab5_step18 : spec_chOrders.l0 1000 5 1 ordL5 tab5_18 = some tab5_19 := by decide +kernel
theorem tab5_step19 : spec_chOrders.l0 1000 5 1 ordL5 tab5_19 = some tab5_20 := by decide +kernel
theorem tab5_step : ∀ i, i < 20 → spec_chOrders.l0 1000 5 1 ordL5 (tab5 i) = some (tab5 (i + 1))
  | 0, _ => tab5_step0
  | 1, _ => tab5_step1
  | 2, _ => tab5_step2
  | 3, _ => tab5_step3
  | 4, _ => tab5_step4
  | 5, _ => tab5_step5
  | 6, _ => tab5_step6
  | 7, _ => tab5_step7
  | 8, _ => tab5_step8
  | 9, _ => tab5_step9
  | 10, _ => tab5_step10
  | 11, _ => tab5_step11
  | 12, _ => tab5_step12
  | 13, _ => tab5_step13
  | 14, _ => tab5_step14
  | 15, _ => tab5_step15
  | 16, _ => tab5_step16
  | 17, _ => tab5_step17
  | 18, _ => tab5_step18
  | 19, _ => tab5_step19
  | i + 20, h => absurd h (by omega)
theorem ch5 (k : Nat) (hk : k ≤ 20) (K : Nat) (hK : 25000 ≤ K) : spec_alOrders.f K 5 = some ordL5 ∧ spec_chOrders.f K 5 (k : Int) = some (tab5 k) :=
  ch_at 5 ordL5 tab5 1000 4000 ordL5_at (by decide) (by decide) (by decide) tab5_step k hk K (by omega)
end Go.Proofs.Ytghogdffocnjnaa.L
