/- BelowPole: the program's function and the reference's answer the same, for poles whose rungs fit into memory. -/
import Derived.Test.YtgjamcfnpofbhaaLibAll
import Derived.Test.YtgjamcfnpofbhaaQx1
import Derived.Test.YtgjamcfnpofbhaaQx2
import Derived.Test.YtgjamcfnpofbhaaQx6
import Derived.Test.YtgjamcfnpofbhaaQx40
import Derived.Test.YtgjamcfnpofbhaaQx41
import Derived.Test.YtgjamcfnpofbhaaQx42
namespace Go.Proofs.Ytgjamcfnpofbhaa.L
open Go.RowKit Go.Proofs.Ytgjamcfnpofbhaa.Q Go.Proofs.YtgjamcfnpofbhaaW.PrintWords Go.Proofs.YtgjamcfnpofbhaaW.PrintLast
set_option linter.unusedVariables false
set_option linter.unusedSimpArgs false
theorem concat2 (l m : List Int) (hl : l.length ≤ 60) (hm : m.length ≤ 60) (k : Nat) (hk : 10 ≤ k) : slices_Concat_int_int.f k [l, m] = some (l ++ m) := by
  obtain ⟨k, rfl⟩ : ∃ q, k = q + 10 := ⟨k - 10, by omega⟩
  have e0 : rd_L1 [l, m] 0 = l := rfl
  have e1 : rd_L1 [l, m] 1 = m := rfl
  have w0 : wrap64 (0 + (l.length : Int)) = (l.length : Int) := by rw [Int.zero_add]; exact wrap_id (by omega) (by omega)
  have w1 : wrap64 ((l.length : Int) + (m.length : Int)) = (l.length : Int) + (m.length : Int) := wrap_id (by omega) (by omega)
  have u0 : wrap64 ((0 : Int) + 1) = 1 := wrap_id (by omega) (by omega)
  have u1 : wrap64 ((1 : Int) + 1) = 2 := wrap_id (by omega) (by omega)
  have g : slices_Grow_int_int.f ([] : List Int) ((l.length : Int) + (m.length : Int)) = some [] := by unfold slices_Grow_int_int.f; rw [if_pos ⟨rfl, by omega, by omega⟩]
  unfold slices_Concat_int_int.f
  rw [show (([l, m] : List (List Int)).length : Int) = 2 from rfl]
  rw [slices_Concat_int_int.l0, if_pos (by omega), if_pos (by omega), if_pos (by simp), e0, w0, if_neg (by omega), u0]
  rw [slices_Concat_int_int.l0, if_pos (by omega), if_pos (by omega), if_pos (by simp), e1, w1, if_neg (by omega), u1]
  rw [slices_Concat_int_int.l0, if_neg (by omega), g, Option.bind_some, show (([l, m] : List (List Int)).length : Int) = 2 from rfl]
  rw [slices_Concat_int_int.l1, if_pos (by omega), if_pos (by omega), if_pos (by simp), e0, if_pos (by simp; omega), u0]
  rw [slices_Concat_int_int.l1, if_pos (by omega), if_pos (by omega), if_pos (by simp), e1, if_pos (by simp; omega), u1]
  rw [slices_Concat_int_int.l1, if_neg (by omega), List.nil_append]
theorem core_BelowPole (a : Int) (l : List Int) (b : Int) (m : List Int) (w : (Lit.int .i64 a).wf = true) (hb : l.length ≤ 35184372088832) (hw : ∀ x ∈ l, (Lit.int .i64 x).wf = true) (w2 : (Lit.int .i64 b).wf = true) (hb2 : m.length ≤ 35184372088832) (hw2 : ∀ x ∈ m, (Lit.int .i64 x).wf = true) :
    ∃ K c r ok, r.length ≤ 35184372088832 ∧ (∀ k, K ≤ k → spec_BelowPole.f k a l b m = some (c, r, ok)) ∧ (∀ k, K ≤ k → impl_BelowPole.f k a l b m = some (c, r, ok)) := by
  have js : ∀ q x y z u, spec_BelowPole.j0 (q + 1) true x y z u = some (0, [], false) := fun q x y z u => by simp only [spec_BelowPole.j0, if_true]
  have ji : ∀ q x y z u, impl_BelowPole.j0 (q + 1) true x y z u = some (0, [], false) := fun q x y z u => by simp only [impl_BelowPole.j0, if_true]
  by_cases h : isPole a l = true
  · by_cases h' : isPole b m = true
    · by_cases hab : a = b
      · obtain ⟨h1, h2, h3, h4⟩ := isPole_wires h
        obtain ⟨g1, g2, g3, g4⟩ := isPole_wires h'
        have hn : (a != b) = false := by simp [hab]
        by_cases hp : isPole a (l ++ m) = true
        · refine ⟨l.length + m.length + 100, a, l ++ m, true, by rw [List.length_append]; omega, fun k hk => ?_, fun k hk => ?_⟩
          · obtain ⟨k, rfl⟩ : ∃ q, k = q + 1 := ⟨k - 1, by omega⟩
            unfold spec_BelowPole.f
            rw [poGood a l hb _ (by omega), Option.bind_some, if_pos h, poGood b m hb2 _ (by omega), Option.bind_some, if_pos h', hn]
            simp only [spec_BelowPole.j0]
            rw [if_neg (by simp)]
            unfold spec_l1Own.f
            rw [Option.bind_some, if_pos (by simp; omega), Option.bind_some, List.nil_append, if_pos (by omega)]
            unfold spec_poPole.f
            rw [poGood a (l ++ m) (by rw [List.length_append]; omega) _ (by rw [List.length_append]; omega), Option.bind_some, if_pos hp]
            rfl
          · obtain ⟨k, rfl⟩ : ∃ q, k = q + 1 := ⟨k - 1, by omega⟩
            unfold impl_BelowPole.f
            rw [isPole_eq, Option.bind_some, if_pos h, isPole_eq, Option.bind_some, if_pos h', hn]
            simp only [impl_BelowPole.j0]
            rw [if_neg (by simp), concat2 l m h3 g3 k (by omega), Option.bind_some]
            unfold impl_checkedPole.f
            rw [isPole_eq, Option.bind_some, if_pos hp]
            rfl
        · refine ⟨l.length + m.length + 100, 0, [], false, by simp, fun k hk => ?_, fun k hk => ?_⟩
          · obtain ⟨k, rfl⟩ : ∃ q, k = q + 1 := ⟨k - 1, by omega⟩
            unfold spec_BelowPole.f
            rw [poGood a l hb _ (by omega), Option.bind_some, if_pos h, poGood b m hb2 _ (by omega), Option.bind_some, if_pos h', hn]
            simp only [spec_BelowPole.j0]
            rw [if_neg (by simp)]
            unfold spec_l1Own.f
            rw [Option.bind_some, if_pos (by simp; omega), Option.bind_some, List.nil_append, if_pos (by omega)]
            unfold spec_poPole.f
            rw [poGood a (l ++ m) (by rw [List.length_append]; omega) _ (by rw [List.length_append]; omega), Option.bind_some, if_neg hp]
            rfl
          · obtain ⟨k, rfl⟩ : ∃ q, k = q + 1 := ⟨k - 1, by omega⟩
            unfold impl_BelowPole.f
            rw [isPole_eq, Option.bind_some, if_pos h, isPole_eq, Option.bind_some, if_pos h', hn]
            simp only [impl_BelowPole.j0]
            rw [if_neg (by simp), concat2 l m h3 g3 k (by omega), Option.bind_some]
            unfold impl_checkedPole.f
            rw [isPole_eq, Option.bind_some, if_neg hp]
            rfl
      · have hn : (a != b) = true := by simp [hab]
        refine ⟨l.length + m.length + 100, 0, [], false, by simp, fun k hk => ?_, fun k hk => ?_⟩
        · obtain ⟨k, rfl⟩ : ∃ q, k = q + 1 := ⟨k - 1, by omega⟩
          unfold spec_BelowPole.f
          rw [poGood a l hb _ (by omega), Option.bind_some, if_pos h, poGood b m hb2 _ (by omega), Option.bind_some, if_pos h', hn, js]
        · obtain ⟨k, rfl⟩ : ∃ q, k = q + 1 := ⟨k - 1, by omega⟩
          unfold impl_BelowPole.f
          rw [isPole_eq, Option.bind_some, if_pos h, isPole_eq, Option.bind_some, if_pos h', hn, ji]
    · refine ⟨l.length + m.length + 100, 0, [], false, by simp, fun k hk => ?_, fun k hk => ?_⟩
      · obtain ⟨k, rfl⟩ : ∃ q, k = q + 1 := ⟨k - 1, by omega⟩
        unfold spec_BelowPole.f
        rw [poGood a l hb _ (by omega), Option.bind_some, if_pos h, poGood b m hb2 _ (by omega), Option.bind_some, if_neg h', js]
      · obtain ⟨k, rfl⟩ : ∃ q, k = q + 1 := ⟨k - 1, by omega⟩
        unfold impl_BelowPole.f
        rw [isPole_eq, Option.bind_some, if_pos h, isPole_eq, Option.bind_some, if_neg h', ji]
  · refine ⟨l.length + m.length + 100, 0, [], false, by simp, fun k hk => ?_, fun k hk => ?_⟩
    · obtain ⟨k, rfl⟩ : ∃ q, k = q + 1 := ⟨k - 1, by omega⟩
      unfold spec_BelowPole.f
      rw [poGood a l hb _ (by omega), Option.bind_some, if_neg h, js]
    · obtain ⟨k, rfl⟩ : ∃ q, k = q + 1 := ⟨k - 1, by omega⟩
      unfold impl_BelowPole.f
      rw [isPole_eq, Option.bind_some, if_neg h, ji]
end Go.Proofs.Ytgjamcfnpofbhaa.L
