/- ExchangesOf: the program's function and the reference's answer the same, for ladders and values that fit into memory. -/
import Derived.Test.YtmljdibhdnckpaaLibCompareG
import Derived.Test.YtmljdibhdnckpaaQx15
import Derived.Test.YtmljdibhdnckpaaQx55
namespace Go.Proofs.Ytmljdibhdnckpaa.L
open Go.RowKit Go.Proofs.Ytmljdibhdnckpaa.Q Go.Proofs.YtmljdibhdnckpaaW.PrintWords Go.Proofs.YtmljdibhdnckpaaW.PrintLast
set_option linter.unusedVariables false
set_option linter.unusedSimpArgs false
theorem foldO_append : ∀ (us o : List Int), us.length + o.length ≤ 900 → foldO impl_ExchangesOf.step us o = some (o ++ us)
  | [], o, _ => by simp [foldO]
  | u :: us, o, h => by
    simp only [List.length_cons] at h
    rw [foldO, impl_ExchangesOf.step, if_pos (by omega), Option.bind_some, foldO_append us (o ++ [u]) (by simp; omega)]
    simp
theorem core_ExchangesOf (a : Int) (l v : List Int) (w : (Lit.int .i64 a).wf = true) (hb : l.length ≤ 35184372088832) (hw : ∀ x ∈ l, (Lit.int .i64 x).wf = true) (hv : v.length ≤ 35184372088832) (hx : ∀ x ∈ v, (Lit.int .i64 x).wf = true) :
    ∃ K m ok, m.length ≤ 35184372088832 ∧ (∀ k, K ≤ k → spec_ExchangesOf.f k a l v = some (m, ok)) ∧ (∀ k, K ≤ k → impl_ExchangesOf.f k a l v = some (m, ok)) := by
  by_cases h : isLadder a l = true
  · obtain ⟨h1, h2, h3, h4⟩ := isLadder_wires h
    by_cases hl : (v.length : Int) = a
    · have hu := usedV_length l v 0
      have hr : ∀ r ∈ l, 0 ≤ r ∧ r ≤ (v.length : Int) - 2 := fun r hr => by have := h4 r hr; omega
      refine ⟨l.length + 3, usedV l v 0, true, by omega, fun k hk => ?_, fun k hk => ?_⟩
      · simp [spec_ExchangesOf.f, spec_soAsked.f, laGood a l hb k (by omega), h, hl, soRun l v (by omega) (by omega) hr k (by omega)]
      · have e := compareG impl_ExchangesOf.step l v [] (by omega) (by omega) hr k (by omega)
        rw [foldO_append _ _ (by simp; omega), Option.bind_some] at e
        unfold impl_ExchangesOf.f
        rw [isLadder_eq, Option.bind_some, h, if_pos rfl, if_pos hl, e]
        simp
    · refine ⟨l.length + 3, [], false, by simp, fun k hk => ?_, fun k hk => ?_⟩
      · simp [spec_ExchangesOf.f, spec_soAsked.f, laGood a l hb k (by omega), h, hl]
      · simp [impl_ExchangesOf.f, isLadder_eq, h, hl]
  · refine ⟨l.length + 3, [], false, by simp, fun k hk => ?_, fun k hk => ?_⟩
    · simp [spec_ExchangesOf.f, spec_soAsked.f, laGood a l hb k (by omega), h]
    · simp [impl_ExchangesOf.f, isLadder_eq, h]
end Go.Proofs.Ytmljdibhdnckpaa.L
