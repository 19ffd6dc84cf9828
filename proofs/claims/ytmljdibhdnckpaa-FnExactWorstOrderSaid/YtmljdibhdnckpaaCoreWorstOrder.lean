/- WorstOrder: the program's function and the reference's answer the same, for ladders that fit into memory. -/
import Derived.Test.YtmljdibhdnckpaaLibOrders
import Derived.Test.YtmljdibhdnckpaaLibCompareG
import Derived.Test.YtmljdibhdnckpaaQx15
import Derived.Test.YtmljdibhdnckpaaQx38
import Derived.Test.YtmljdibhdnckpaaQx64
namespace Go.Proofs.Ytmljdibhdnckpaa.L
open Go.RowKit Go.Proofs.Ytmljdibhdnckpaa.Q Go.Proofs.YtmljdibhdnckpaaW.PrintWords Go.Proofs.YtmljdibhdnckpaaW.PrintLast
set_option linter.unusedVariables false
set_option linter.unusedSimpArgs false
theorem foldO_tick : ∀ (us : List Int) (m : Int), 0 ≤ m → (us.length : Int) + m ≤ 1000 → foldO impl_WorstOrder.tick us m = some (m + us.length)
  | [], m, _, _ => by simp [foldO]
  | u :: us, m, h0, h => by
    simp only [List.length_cons] at h
    rw [foldO, impl_WorstOrder.tick, Option.bind_some, wrap_id (by omega) (by omega), foldO_tick us (m + 1) (by omega) (by omega)]
    simp only [List.length_cons, Option.some.injEq]
    omega
theorem worst_l0 (n : Nat) (hn : n ≤ 6) (hn0 : 0 < n) (l : List Int) (h3 : l.length ≤ 60) (h4 : ∀ r ∈ l, 0 ≤ r ∧ r ≤ (n : Int) - 2) : ∀ (rest : List (List Int)) (p best : List Int) (most : Int), chk (p :: rest) = true → (∀ q ∈ p :: rest, q.length = n) → best.length ≤ 6 → ∃ (r : List Int) (m : Int), r.length ≤ 6 ∧ (∀ k, rest.length + 100 ≤ k → spec_WorstOrder.l0 k best most p true (n : Int) l = some (r, m, true)) ∧ (∀ k, 90 ≤ k → foldX (impl_WorstOrder.step k l) (p :: rest) (best, most) = some (r, m)) := by
  have hstep : ∀ (p best : List Int) (most : Int), p.length = n → ∀ k, 90 ≤ k → spec_soRun.f k l p = some (runV l p, usedV l p 0) ∧ impl_WorstOrder.step k l (best, most) p = some (if most < ((usedV l p 0).length : Int) then (p, ((usedV l p 0).length : Int)) else (best, most)) := by
    intro p best most hp k hk
    have hr : ∀ r ∈ l, 0 ≤ r ∧ r ≤ (p.length : Int) - 2 := by rw [hp]; exact h4
    have hu := usedV_length l p 0
    have hne : p ≠ [] := fun h => by rw [h] at hp; simp at hp; omega
    refine ⟨soRun l p (by omega) (by omega) hr k (by omega), ?_⟩
    have e := compareG impl_WorstOrder.tick l p 0 (by omega) (by omega) hr k (by omega)
    rw [foldO_tick _ _ (by omega) (by omega), Option.bind_some, Int.zero_add] at e
    unfold impl_WorstOrder.step
    rw [if_neg hne, e, Option.bind_some]
  intro rest
  induction rest with
  | nil =>
    intro p best most hc hl hb
    have hp := hl p List.mem_cons_self
    by_cases hq : most < ((usedV l p 0).length : Int)
    · refine ⟨p, ((usedV l p 0).length : Int), by omega, fun k hk => ?_, fun k hk => ?_⟩
      · simp only [List.length_nil] at hk
        obtain ⟨k, rfl⟩ : ∃ q, k = q + 1 + 1 := ⟨k - 2, by omega⟩
        rw [spec_WorstOrder.l0, if_pos rfl, (hstep p best most hp (k + 1) (by omega)).1, Option.bind_some, if_pos hq, soNext_lift (chk_one hc) (k + 1) (by omega), Option.bind_some]
        simp [spec_WorstOrder.l0]
      · rw [foldX, (hstep p best most hp k hk).2, if_pos hq]
        rfl
    · refine ⟨best, most, hb, fun k hk => ?_, fun k hk => ?_⟩
      · simp only [List.length_nil] at hk
        obtain ⟨k, rfl⟩ : ∃ q, k = q + 1 + 1 := ⟨k - 2, by omega⟩
        rw [spec_WorstOrder.l0, if_pos rfl, (hstep p best most hp (k + 1) (by omega)).1, Option.bind_some, if_neg hq, soNext_lift (chk_one hc) (k + 1) (by omega), Option.bind_some]
        simp [spec_WorstOrder.l0]
      · rw [foldX, (hstep p best most hp k hk).2, if_neg hq]
        rfl
  | cons q rest ih =>
    intro p best most hc hl hb
    have hp := hl p List.mem_cons_self
    obtain ⟨hc1, hc2⟩ := chk_two hc
    by_cases hq : most < ((usedV l p 0).length : Int)
    · obtain ⟨r, m, hrl, hS, hI⟩ := ih q p ((usedV l p 0).length : Int) hc2 (fun x hx => hl x (List.mem_cons_of_mem _ hx)) (by omega)
      refine ⟨r, m, hrl, fun k hk => ?_, fun k hk => ?_⟩
      · simp only [List.length_cons] at hk
        obtain ⟨k, rfl⟩ : ∃ q, k = q + 1 := ⟨k - 1, by omega⟩
        rw [spec_WorstOrder.l0, if_pos rfl, (hstep p best most hp k (by omega)).1, Option.bind_some, if_pos hq, soNext_lift hc1 k (by omega), Option.bind_some]
        exact hS k (by omega)
      · rw [foldX, (hstep p best most hp k hk).2, if_pos hq, Option.bind_some]
        exact hI k hk
    · obtain ⟨r, m, hrl, hS, hI⟩ := ih q best most hc2 (fun x hx => hl x (List.mem_cons_of_mem _ hx)) hb
      refine ⟨r, m, hrl, fun k hk => ?_, fun k hk => ?_⟩
      · simp only [List.length_cons] at hk
        obtain ⟨k, rfl⟩ : ∃ q, k = q + 1 := ⟨k - 1, by omega⟩
        rw [spec_WorstOrder.l0, if_pos rfl, (hstep p best most hp k (by omega)).1, Option.bind_some, if_neg hq, soNext_lift hc1 k (by omega), Option.bind_some]
        exact hS k (by omega)
      · rw [foldX, (hstep p best most hp k hk).2, if_neg hq, Option.bind_some]
        exact hI k hk
theorem core_WorstOrder (a : Int) (l : List Int) (w : (Lit.int .i64 a).wf = true) (hb : l.length ≤ 35184372088832) (hw : ∀ x ∈ l, (Lit.int .i64 x).wf = true) :
    ∃ K m s ok, m.length ≤ 35184372088832 ∧ (∀ k, K ≤ k → spec_WorstOrder.f k a l = some (m, s, ok)) ∧ (∀ k, K ≤ k → impl_WorstOrder.f k a l = some (m, s, ok)) := by
  by_cases h : (isLadder a l && decide (a ≤ 6)) = true
  · obtain ⟨h1, h2, h3, h4⟩ := few_wires h
    obtain ⟨n, rfl⟩ : ∃ n : Nat, a = n := ⟨a.toNat, by omega⟩
    obtain ⟨rest, hL, hc, hr, hl⟩ := chain n (by omega) (by omega)
    obtain ⟨r, m, hrl, hS, hI⟩ := worst_l0 n (by omega) (by omega) l h3 h4 rest (idL n) [] (-1) hc hl (by simp)
    refine ⟨1000, r, m, true, by omega, fun k hk => ?_, fun k hk => ?_⟩
    · unfold spec_WorstOrder.f
      rw [soSix _ l hb k (by omega), Option.bind_some, h, if_pos rfl, soFirst n (by omega) k (by omega), Option.bind_some]
      exact hS k (by omega)
    · unfold impl_WorstOrder.f
      rw [isFew, Option.bind_some, h, if_pos rfl, ordersF_fold _ n (by omega) _ k (by omega), hL, hI k (by omega)]
      rfl
  · refine ⟨l.length + 3, [], 0, false, by simp, fun k hk => ?_, fun k hk => ?_⟩
    · unfold spec_WorstOrder.f
      rw [soSix _ l hb k (by omega), Option.bind_some, if_neg h]
    · unfold impl_WorstOrder.f
      rw [isFew, Option.bind_some, if_neg h]
end Go.Proofs.Ytmljdibhdnckpaa.L
