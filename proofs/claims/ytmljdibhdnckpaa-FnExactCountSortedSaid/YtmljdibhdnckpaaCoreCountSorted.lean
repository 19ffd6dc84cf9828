/- CountSorted: the program's function and the reference's answer the same, for ladders that fit into memory. -/
import Derived.Test.YtmljdibhdnckpaaLibOrders
import Derived.Test.YtmljdibhdnckpaaQx38
import Derived.Test.YtmljdibhdnckpaaQx59
namespace Go.Proofs.Ytmljdibhdnckpaa.L
open Go.RowKit Go.Proofs.Ytmljdibhdnckpaa.Q Go.Proofs.YtmljdibhdnckpaaW.PrintWords Go.Proofs.YtmljdibhdnckpaaW.PrintLast
set_option linter.unusedVariables false
set_option linter.unusedSimpArgs false
theorem countSorted_l0 (n : Nat) (hn : n ≤ 6) (l : List Int) (h3 : l.length ≤ 60) (h4 : ∀ r ∈ l, 0 ≤ r ∧ r ≤ (n : Int) - 2) : ∀ (rest : List (List Int)) (p : List Int) (m : Int), chk (p :: rest) = true → (∀ q ∈ p :: rest, q.length = n) → ∃ r : Int, (∀ k, rest.length + 100 ≤ k → spec_CountSorted.l0 k m p true (n : Int) l = some (r, true)) ∧ (∀ k, 90 ≤ k → foldX (impl_CountSorted.step k l) (p :: rest) m = some r) := by
  have hstep : ∀ (p : List Int) (m : Int), p.length = n → ∀ k, 90 ≤ k → spec_soSorted.f k l p = some (srtB (runV l p)) ∧ impl_CountSorted.step k l m p = some (if srtB (runV l p) = true then wrap64 (m + 1) else m) := by
    intro p m hp k hk
    have hr : ∀ r ∈ l, 0 ≤ r ∧ r ≤ (p.length : Int) - 2 := by rw [hp]; exact h4
    refine ⟨soSorted l p (by omega) (by omega) hr k (by omega), ?_⟩
    unfold impl_CountSorted.step
    rw [sorted l p (by omega) (by omega) hr k (by omega), Option.bind_some, isSorted _ (by rw [runV_length]; omega) k (by rw [runV_length]; omega), Option.bind_some]
  intro rest
  induction rest with
  | nil =>
    intro p m hc hl
    have hp := hl p List.mem_cons_self
    refine ⟨if srtB (runV l p) = true then wrap64 (m + 1) else m, fun k hk => ?_, fun k hk => ?_⟩
    · simp only [List.length_nil] at hk
      obtain ⟨k, rfl⟩ : ∃ q, k = q + 1 + 1 := ⟨k - 2, by omega⟩
      rw [spec_CountSorted.l0, if_pos rfl, (hstep p m hp (k + 1) (by omega)).1, Option.bind_some, soNext_lift (chk_one hc) (k + 1) (by omega), Option.bind_some]
      cases srtB (runV l p) <;> simp [spec_CountSorted.l0]
    · rw [foldX, (hstep p m hp k hk).2]
      rfl
  | cons q rest ih =>
    intro p m hc hl
    have hp := hl p List.mem_cons_self
    obtain ⟨hc1, hc2⟩ := chk_two hc
    obtain ⟨r, hS, hI⟩ := ih q (if srtB (runV l p) = true then wrap64 (m + 1) else m) hc2 (fun x hx => hl x (List.mem_cons_of_mem _ hx))
    refine ⟨r, fun k hk => ?_, fun k hk => ?_⟩
    · simp only [List.length_cons] at hk
      obtain ⟨k, rfl⟩ : ∃ q, k = q + 1 := ⟨k - 1, by omega⟩
      have := hS k (by omega)
      rw [spec_CountSorted.l0, if_pos rfl, (hstep p m hp k (by omega)).1, Option.bind_some, soNext_lift hc1 k (by omega), Option.bind_some]
      cases hq : srtB (runV l p) <;> simp_all
    · rw [foldX, (hstep p m hp k hk).2, Option.bind_some]
      exact hI k hk
theorem core_CountSorted (a : Int) (l : List Int) (w : (Lit.int .i64 a).wf = true) (hb : l.length ≤ 35184372088832) (hw : ∀ x ∈ l, (Lit.int .i64 x).wf = true) :
    ∃ K s ok, (∀ k, K ≤ k → spec_CountSorted.f k a l = some (s, ok)) ∧ (∀ k, K ≤ k → impl_CountSorted.f k a l = some (s, ok)) := by
  by_cases h : (isLadder a l && decide (a ≤ 6)) = true
  · obtain ⟨h1, h2, h3, h4⟩ := few_wires h
    obtain ⟨n, rfl⟩ : ∃ n : Nat, a = n := ⟨a.toNat, by omega⟩
    obtain ⟨rest, hL, hc, hr, hl⟩ := chain n (by omega) (by omega)
    obtain ⟨r, hS, hI⟩ := countSorted_l0 n (by omega) l h3 h4 rest (idL n) 0 hc hl
    refine ⟨1000, r, true, fun k hk => ?_, fun k hk => ?_⟩
    · unfold spec_CountSorted.f
      rw [soSix _ l hb k (by omega), Option.bind_some, h, if_pos rfl, soFirst n (by omega) k (by omega), Option.bind_some]
      exact hS k (by omega)
    · unfold impl_CountSorted.f
      rw [isFew, Option.bind_some, h, if_pos rfl, ordersF_fold _ n (by omega) _ k (by omega), hL, hI k (by omega)]
      rfl
  · refine ⟨l.length + 3, 0, false, fun k hk => ?_, fun k hk => ?_⟩
    · unfold spec_CountSorted.f
      rw [soSix _ l hb k (by omega), Option.bind_some, if_neg h]
    · unfold impl_CountSorted.f
      rw [isFew, Option.bind_some, if_neg h]
end Go.Proofs.Ytmljdibhdnckpaa.L
