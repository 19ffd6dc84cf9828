/- ThenTurned: the program's function and the reference's answer the same, for structs that fit into memory. -/
import Derived.Test.YtgjamcfnpofbhaaLibThen
import Derived.Test.YtgjamcfnpofbhaaLibIsTurned
import Derived.Test.YtgjamcfnpofbhaaQx9
import Derived.Test.YtgjamcfnpofbhaaQx10
import Derived.Test.YtgjamcfnpofbhaaQx11
import Derived.Test.YtgjamcfnpofbhaaQx15
namespace Go.Proofs.Ytgjamcfnpofbhaa.L
open Go.RowKit Go.Proofs.Ytgjamcfnpofbhaa.Q Go.Proofs.YtgjamcfnpofbhaaW.PrintWords Go.Proofs.YtgjamcfnpofbhaaW.PrintLast
set_option linter.unusedVariables false
set_option linter.unusedSimpArgs false
def thE (e p : List Int) : List Int := upto (fun j => p.getD (e.getD j 0).toNat 0) e.length 0
def thW (e f w : List Int) : List Int := upto (fun j => f.getD j 0 + w.getD (e.getD j 0).toNat 0) e.length 0
theorem thn_tur (e f p w : List Int) (h : isTur e f = true) (h' : isTur p w = true) (hl : e.length = p.length) (k : Nat) (hk : 20 ≤ k) : spec_poThen.f k e f p w = some (thE e p, thW e f w) ∧ impl_thenTurned.f k e f p w = some (thE e p, thW e f w) := by
  obtain ⟨f1, f2, f3, f4, f5, f6, f7⟩ := isTur_facts h
  obtain ⟨g1, g2, g3, g4, g5, g6, g7⟩ := isTur_facts h'
  have A : ∀ j : Nat, j < e.length → 0 ≤ e.getD j 0 ∧ e.getD j 0 < (p.length : Int) := fun j hj => by
    have := getD_of_mem e f5 j hj
    omega
  have B := getD_bound f 20 f6 (by omega)
  have C := getD_bound w 20 g6 (by omega)
  exact ⟨thn_sat e f p w 20 A f4 g4 (by omega) B C f3 k hk, thn_at e f p w 20 A f4 g4 (by omega) B C f3 k hk⟩
theorem core_ThenTurned (p w q v : List Int) (hp : p.length ≤ 35184372088832) (wp : ∀ x ∈ p, (Lit.int .i64 x).wf = true) (hw : w.length ≤ 35184372088832) (ww : ∀ x ∈ w, (Lit.int .i64 x).wf = true) (hq : q.length ≤ 35184372088832) (wq : ∀ x ∈ q, (Lit.int .i64 x).wf = true) (hv : v.length ≤ 35184372088832) (wv : ∀ x ∈ v, (Lit.int .i64 x).wf = true) :
    ∃ K r s ok, r.length ≤ 17592186044416 ∧ s.length ≤ 17592186044416 ∧ (∀ k, K ≤ k → spec_ThenTurned.f k p w q v = some (r, s, ok)) ∧ (∀ k, K ≤ k → impl_ThenTurned.f k p w q v = some (r, s, ok)) := by
  have bad : ∀ k, spec_ThenTurned.j0 (k + 1) true p w q v = some ([], [], false) ∧ impl_ThenTurned.j0 (k + 1) true p w q v = some ([], [], false) := fun k => by
    simp only [spec_ThenTurned.j0, impl_ThenTurned.j0, if_true, and_self]
  by_cases h : isTur p w = true
  · by_cases h' : isTur q v = true
    · by_cases hl : p.length = q.length
      · have e0 : ((p.length : Int) != (q.length : Int)) = false := by simp; omega
        have T := thn_tur p w q v h h' hl
        have l1 : (thE p q).length = p.length := upto_length _ _ _
        have l2 : (thW p w v).length = p.length := upto_length _ _ _
        have f3 := (isTur_facts h).2.2.1
        have hS : ∀ k, w.length + v.length + 100 ≤ k → spec_ThenTurned.f k p w q v = (if isTur (thE p q) (thW p w v) = true then some (thE p q, thW p w v, true) else some ([], [], false)) ∧ impl_ThenTurned.f k p w q v = (if isTur (thE p q) (thW p w v) = true then some (thE p q, thW p w v, true) else some ([], [], false)) := by
          intro k hk
          unfold spec_ThenTurned.f impl_ThenTurned.f
          rw [poTurned p w hw k (by omega), isTurned p w hw k (by omega), Option.bind_some, Option.bind_some, if_pos h, if_pos h]
          rw [poTurned q v hv k (by omega), isTurned q v hv k (by omega), Option.bind_some, Option.bind_some, if_pos h', if_pos h', e0]
          obtain ⟨k, rfl⟩ : ∃ m, k = m + 1 := ⟨k - 1, by omega⟩
          simp only [spec_ThenTurned.j0, impl_ThenTurned.j0, Bool.false_eq_true, if_false]
          rw [(T k (by omega)).1, (T k (by omega)).2, Option.bind_some, Option.bind_some]
          simp only []
          unfold spec_poIf.f impl_checkedTurned.f
          rw [poTurned _ _ (by omega) k (by omega), isTurned _ _ (by omega) k (by omega)]
          by_cases ht : isTur (thE p q) (thW p w v) = true
          · rw [ht]; exact ⟨rfl, rfl⟩
          · rw [Bool.eq_false_iff.2 ht]; exact ⟨rfl, rfl⟩
        by_cases ht : isTur (thE p q) (thW p w v) = true
        · refine ⟨w.length + v.length + 100, thE p q, thW p w v, true, by omega, by omega, fun k hk => ?_, fun k hk => ?_⟩
          · rw [(hS k hk).1, if_pos ht]
          · rw [(hS k hk).2, if_pos ht]
        · refine ⟨w.length + v.length + 100, [], [], false, by simp, by simp, fun k hk => ?_, fun k hk => ?_⟩
          · rw [(hS k hk).1, if_neg ht]
          · rw [(hS k hk).2, if_neg ht]
      · have e0 : ((p.length : Int) != (q.length : Int)) = true := by simp; omega
        refine ⟨w.length + v.length + 100, [], [], false, by simp, by simp, fun k hk => ?_, fun k hk => ?_⟩
        · unfold spec_ThenTurned.f
          rw [poTurned p w hw k (by omega), Option.bind_some, if_pos h, poTurned q v hv k (by omega), Option.bind_some, if_pos h', e0]
          obtain ⟨k, rfl⟩ : ∃ m, k = m + 1 := ⟨k - 1, by omega⟩
          exact (bad k).1
        · unfold impl_ThenTurned.f
          rw [isTurned p w hw k (by omega), Option.bind_some, if_pos h, isTurned q v hv k (by omega), Option.bind_some, if_pos h', e0]
          obtain ⟨k, rfl⟩ : ∃ m, k = m + 1 := ⟨k - 1, by omega⟩
          exact (bad k).2
    · refine ⟨w.length + v.length + 100, [], [], false, by simp, by simp, fun k hk => ?_, fun k hk => ?_⟩
      · unfold spec_ThenTurned.f
        rw [poTurned p w hw k (by omega), Option.bind_some, if_pos h, poTurned q v hv k (by omega), Option.bind_some, if_neg h']
        obtain ⟨k, rfl⟩ : ∃ m, k = m + 1 := ⟨k - 1, by omega⟩
        exact (bad k).1
      · unfold impl_ThenTurned.f
        rw [isTurned p w hw k (by omega), Option.bind_some, if_pos h, isTurned q v hv k (by omega), Option.bind_some, if_neg h']
        obtain ⟨k, rfl⟩ : ∃ m, k = m + 1 := ⟨k - 1, by omega⟩
        exact (bad k).2
  · refine ⟨w.length + v.length + 100, [], [], false, by simp, by simp, fun k hk => ?_, fun k hk => ?_⟩
    · unfold spec_ThenTurned.f
      rw [poTurned p w hw k (by omega), Option.bind_some, if_neg h]
      obtain ⟨k, rfl⟩ : ∃ m, k = m + 1 := ⟨k - 1, by omega⟩
      exact (bad k).1
    · unfold impl_ThenTurned.f
      rw [isTurned p w hw k (by omega), Option.bind_some, if_neg h]
      obtain ⟨k, rfl⟩ : ∃ m, k = m + 1 := ⟨k - 1, by omega⟩
      exact (bad k).2
end Go.Proofs.Ytgjamcfnpofbhaa.L
