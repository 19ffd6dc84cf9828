/- CountForOrder: the program's function and the reference's answer the same, for all whole numbers of int and all lists that fit into memory. -/
import Derived.Test.YtghogdffocnjnaaCoreCountOrdersMade
import Derived.Test.YtghogdffocnjnaaQx25
import Derived.Test.YtghogdffocnjnaaQx45
namespace Go.Proofs.Ytghogdffocnjnaa.L
open Go.RowKit Go.Proofs.Ytghogdffocnjnaa.Q Go.Proofs.YtghogdffocnjnaaW.PrintWords Go.Proofs.YtghogdffocnjnaaW.PrintLast
set_option linter.unusedVariables false
set_option linter.unusedSimpArgs false
/-- How many ladders have a result, and whether that is told. -/
theorem count_at (a0 a1 : Int) (l : List Int) (hb : l.length ≤ 35184372088832) :
    ((∀ k, 100 ≤ k → spec_CountForOrder.f k a0 a1 l = some (0, false)) ∧ (∀ k, 100 ≤ k → impl_CountForOrder.f k a0 a1 l = some (0, false))) ∨
    ∃ (n K i : Nat) (O : List (List Int)) (T : Nat → List Int), a0 = n ∧ a1 = K ∧ 2 ≤ n ∧ n ≤ 5 ∧ K ≤ 20 ∧ MadeFacts n O T ∧ i < O.length ∧ l = O.getD i [] ∧ (∀ k, 25100 ≤ k → spec_CountForOrder.f k a0 a1 l = some ((T K).getD i 0, true)) ∧ (∀ k, 25100 ≤ k → impl_CountForOrder.f k a0 a1 l = some ((T K).getD i 0, true)) := by
  have hj : ∀ k, 1 ≤ k → spec_CountForOrder.j0 k a0 a1 l true = some (0, false) := fun k hk => by
    obtain ⟨k, rfl⟩ : ∃ m, k = m + 1 := ⟨k - 1, by omega⟩
    simp only [spec_CountForOrder.j0, if_true]
  obtain ⟨b, hbo⟩ := told_some a0 a1
  cases b with
  | false =>
    refine .inl ⟨fun k hk => ?_, fun k hk => ?_⟩
    · unfold spec_CountForOrder.f
      rw [told_same, hbo, Option.bind_some, if_neg (by decide), hj k (by omega)]
    · unfold impl_CountForOrder.f
      rw [hbo]
      rfl
  | true =>
    by_cases ho : isOrd l = true
    · by_cases hl : (l.length : Int) = a0
      · obtain ⟨c1, c2, c3, c4⟩ := told_true hbo
        obtain ⟨n, rfl⟩ : ∃ n : Nat, a0 = n := ⟨a0.toNat, by omega⟩
        obtain ⟨K, rfl⟩ : ∃ n : Nat, a1 = n := ⟨a1.toNat, by omega⟩
        obtain ⟨O, T, F⟩ := facts n (by omega) (by omega)
        obtain ⟨q0, hq, hq1, hq2⟩ := made_base F
        obtain ⟨i, hi, rfl⟩ := F.mem l ho (by omega)
        obtain ⟨q, e1, e2⟩ := F.key i hi
        have hqs : q.size ≤ 1000 := by
          have h1 : q.size = q.data.toList.length := (Array.length_toList).symm
          rw [h1, e2]
          show (List.map _ _).length ≤ 1000
          rw [List.length_map, F.len i hi]
          omega
        refine .inr ⟨n, K, i, O, T, rfl, rfl, by omega, by omega, by omega, F, hi, rfl, fun k hk => ?_, fun k hk => ?_⟩
        · unfold spec_CountForOrder.f
          rw [told_same, hbo, Option.bind_some, if_pos rfl, laOrder _ k (by omega), Option.bind_some, if_pos ho]
          obtain ⟨k, rfl⟩ : ∃ m, k = m + 1 := ⟨k - 1, by omega⟩
          have hne : (((O.getD i []).length : Int) != (n : Int)) = false := bne_eq_false_iff_eq.mpr hl
          rw [hne]
          simp only [spec_CountForOrder.j0]
          rw [if_neg (by decide), (F.ch K (by omega) k (by omega)).2, Option.bind_some, at_rounds (fun k => spec_alRank.mono _ k) (show 40 ≤ k by omega) (F.rank i hi), Option.bind_some, if_pos (by omega), if_pos (by rw [F.size K (by omega)]; omega)]
          unfold rd
          rw [Int.toNat_natCast]
        · unfold impl_CountForOrder.f
          rw [hbo, Option.bind_some, if_pos rfl, isOrder _ k (by omega), Option.bind_some, if_pos ho, if_pos hl, (hq k (by omega)).1, Option.bind_some, (hq k (by omega)).2, Option.bind_some, at_rounds (fun k => impl_orderKey.mono _ k) (show 20 ≤ k by omega) e1, Option.bind_some]
          rw [if_pos ⟨⟨by omega, by omega, by omega, by omega, by omega⟩, hqs⟩, Int.toNat_natCast, Int.toNat_natCast, hq1, e2, (F.tab K (by omega) i hi).1]
      · refine .inl ⟨fun k hk => ?_, fun k hk => ?_⟩
        · unfold spec_CountForOrder.f
          have hne : ((l.length : Int) != a0) = true := bne_iff_ne.mpr hl
          rw [told_same, hbo, Option.bind_some, if_pos rfl, laOrder _ k (by omega), Option.bind_some, if_pos ho, hne, hj k (by omega)]
        · unfold impl_CountForOrder.f
          rw [hbo, Option.bind_some, if_pos rfl, isOrder _ k (by omega), Option.bind_some, if_pos ho, if_neg hl]
    · refine .inl ⟨fun k hk => ?_, fun k hk => ?_⟩
      · unfold spec_CountForOrder.f
        rw [told_same, hbo, Option.bind_some, if_pos rfl, laOrder _ k (by omega), Option.bind_some, if_neg ho, hj k (by omega)]
      · unfold impl_CountForOrder.f
        rw [hbo, Option.bind_some, if_pos rfl, isOrder _ k (by omega), Option.bind_some, if_neg ho]
theorem core_CountForOrder (a0 a1 : Int) (l : List Int) (w0 : (Lit.int .i64 a0).wf = true) (w1 : (Lit.int .i64 a1).wf = true) (hb : l.length ≤ 35184372088832) (hw : ∀ x ∈ l, (Lit.int .i64 x).wf = true) :
    ∃ K r ok, (∀ k, K ≤ k → spec_CountForOrder.f k a0 a1 l = some (r, ok)) ∧ (∀ k, K ≤ k → impl_CountForOrder.f k a0 a1 l = some (r, ok)) := by
  rcases count_at a0 a1 l hb with ⟨h1, h2⟩ | ⟨n, K, i, O, T, _, _, _, _, _, _, _, _, h1, h2⟩
  · exact ⟨100, 0, false, h1, h2⟩
  · exact ⟨25100, _, true, h1, h2⟩
end Go.Proofs.Ytghogdffocnjnaa.L
