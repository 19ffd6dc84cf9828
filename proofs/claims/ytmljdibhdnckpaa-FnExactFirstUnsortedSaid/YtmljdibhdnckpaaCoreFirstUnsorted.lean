/- FirstUnsorted: the program's function and the reference's answer the same, for ladders that fit into memory. -/
import Derived.Test.YtmljdibhdnckpaaLibOrders
import Derived.Test.YtmljdibhdnckpaaQx39
import Derived.Test.YtmljdibhdnckpaaQx61
namespace Go.Proofs.Ytmljdibhdnckpaa.L
open Go.RowKit Go.Proofs.Ytmljdibhdnckpaa.Q Go.Proofs.YtmljdibhdnckpaaW.PrintWords Go.Proofs.YtmljdibhdnckpaaW.PrintLast
set_option linter.unusedVariables false
set_option linter.unusedSimpArgs false
theorem firstUnsorted_keep (k : Nat) (l o : List Int) (ho : o ≠ []) : ∀ L : List (List Int), (∀ q ∈ L, q ≠ []) → foldX (impl_FirstUnsorted.step k l) L o = some o
  | [], _ => rfl
  | p :: L, h => by
    rw [foldX, show impl_FirstUnsorted.step k l o p = some o from by unfold impl_FirstUnsorted.step; rw [if_neg (h p List.mem_cons_self), if_neg ho], Option.bind_some]
    exact firstUnsorted_keep k l o ho L (fun q hq => h q (List.mem_cons_of_mem _ hq))
theorem firstUnsorted_l0 (n : Nat) (hn : n ≤ 6) (hn0 : 0 < n) (l : List Int) (h3 : l.length ≤ 60) (h4 : ∀ r ∈ l, 0 ≤ r ∧ r ≤ (n : Int) - 2) : ∀ (rest : List (List Int)) (p : List Int), chk (p :: rest) = true → (∀ q ∈ p :: rest, q.length = n) → ∃ r : List Int, r.length ≤ 6 ∧ (∀ k, rest.length + 100 ≤ k → spec_FirstUnsorted.l0 k p true (n : Int) l = some (r, !r.isEmpty)) ∧ (∀ k, 90 ≤ k → foldX (impl_FirstUnsorted.step k l) (p :: rest) [] = some r) := by
  have hne : ∀ p : List Int, p.length = n → p ≠ [] := fun p hp h => by rw [h] at hp; simp at hp; omega
  have hstep : ∀ (p : List Int), p.length = n → ∀ k, 90 ≤ k → spec_soSorted.f k l p = some (srtB (runV l p)) ∧ impl_FirstUnsorted.step k l [] p = some (if srtB (runV l p) = true then [] else p) := by
    intro p hp k hk
    have hr : ∀ r ∈ l, 0 ≤ r ∧ r ≤ (p.length : Int) - 2 := by rw [hp]; exact h4
    refine ⟨soSorted l p (by omega) (by omega) hr k (by omega), ?_⟩
    unfold impl_FirstUnsorted.step
    rw [if_neg (hne p hp), if_pos rfl, sorted l p (by omega) (by omega) hr k (by omega), Option.bind_some, isSorted _ (by rw [runV_length]; omega) k (by rw [runV_length]; omega), Option.bind_some]
  have hemp : ∀ p : List Int, p.length = n → (!p.isEmpty) = true := fun p hp => by
    cases p with
    | nil => simp at hp; omega
    | cons a b => rfl
  intro rest
  induction rest with
  | nil =>
    intro p hc hl
    have hp := hl p List.mem_cons_self
    refine ⟨if srtB (runV l p) = true then [] else p, by split <;> (try simp) <;> omega, fun k hk => ?_, fun k hk => ?_⟩
    · simp only [List.length_nil] at hk
      obtain ⟨k, rfl⟩ : ∃ q, k = q + 1 + 1 := ⟨k - 2, by omega⟩
      rw [spec_FirstUnsorted.l0, if_pos rfl, (hstep p hp (k + 1) (by omega)).1, Option.bind_some]
      cases hq : srtB (runV l p) with
      | true =>
        rw [if_pos rfl, soNext_lift (chk_one hc) (k + 1) (by omega), Option.bind_some]
        simp [spec_FirstUnsorted.l0]
      | false =>
        rw [if_neg (by decide), if_neg (by decide), hemp p hp]
    · rw [foldX, (hstep p hp k hk).2]
      rfl
  | cons q rest ih =>
    intro p hc hl
    have hp := hl p List.mem_cons_self
    obtain ⟨hc1, hc2⟩ := chk_two hc
    cases hq : srtB (runV l p) with
    | true =>
      obtain ⟨r, hrl, hS, hI⟩ := ih q hc2 (fun x hx => hl x (List.mem_cons_of_mem _ hx))
      refine ⟨r, hrl, fun k hk => ?_, fun k hk => ?_⟩
      · simp only [List.length_cons] at hk
        obtain ⟨k, rfl⟩ : ∃ q, k = q + 1 := ⟨k - 1, by omega⟩
        rw [spec_FirstUnsorted.l0, if_pos rfl, (hstep p hp k (by omega)).1, Option.bind_some, hq, if_pos rfl, soNext_lift hc1 k (by omega), Option.bind_some]
        exact hS k (by omega)
      · rw [foldX, (hstep p hp k hk).2, Option.bind_some, hq, if_pos rfl]
        exact hI k hk
    | false =>
      refine ⟨p, by omega, fun k hk => ?_, fun k hk => ?_⟩
      · simp only [List.length_cons] at hk
        obtain ⟨k, rfl⟩ : ∃ q, k = q + 1 := ⟨k - 1, by omega⟩
        rw [spec_FirstUnsorted.l0, if_pos rfl, (hstep p hp k (by omega)).1, Option.bind_some, hq, if_neg (by decide), hemp p hp]
      · rw [foldX, (hstep p hp k hk).2, Option.bind_some, hq, if_neg (by decide)]
        exact firstUnsorted_keep k l p (hne p hp) _ (fun x hx => hne x (hl x (List.mem_cons_of_mem _ hx)))
theorem core_FirstUnsorted (a : Int) (l : List Int) (w : (Lit.int .i64 a).wf = true) (hb : l.length ≤ 35184372088832) (hw : ∀ x ∈ l, (Lit.int .i64 x).wf = true) :
    ∃ K m ok, m.length ≤ 35184372088832 ∧ (∀ k, K ≤ k → spec_FirstUnsorted.f k a l = some (m, ok)) ∧ (∀ k, K ≤ k → impl_FirstUnsorted.f k a l = some (m, ok)) := by
  by_cases h : (isLadder a l && decide (a ≤ 6)) = true
  · obtain ⟨h1, h2, h3, h4⟩ := few_wires h
    obtain ⟨n, rfl⟩ : ∃ n : Nat, a = n := ⟨a.toNat, by omega⟩
    obtain ⟨rest, hL, hc, hr, hl⟩ := chain n (by omega) (by omega)
    obtain ⟨r, hrl, hS, hI⟩ := firstUnsorted_l0 n (by omega) (by omega) l h3 h4 rest (idL n) hc hl
    refine ⟨1000, r, !r.isEmpty, by omega, fun k hk => ?_, fun k hk => ?_⟩
    · unfold spec_FirstUnsorted.f
      rw [soSix _ l hb k (by omega), Option.bind_some, h, if_pos rfl, soFirst n (by omega) k (by omega), Option.bind_some]
      exact hS k (by omega)
    · unfold impl_FirstUnsorted.f
      rw [isFew, Option.bind_some, h, if_pos rfl, ordersF_fold _ n (by omega) _ k (by omega), hL, hI k (by omega)]
      rfl
  · refine ⟨l.length + 3, [], false, by simp, fun k hk => ?_, fun k hk => ?_⟩
    · unfold spec_FirstUnsorted.f
      rw [soSix _ l hb k (by omega), Option.bind_some, if_neg h]
    · unfold impl_FirstUnsorted.f
      rw [isFew, Option.bind_some, if_neg h]
end Go.Proofs.Ytmljdibhdnckpaa.L
