/- PoleEnd, PoleWay: the program's functions and the reference's answer the same, for poles whose rungs fit into memory. -/
import Derived.Test.YtddfakhlncihoaaCorePoleEnd
import Derived.Test.YtddfakhlncihoaaQx32
namespace Go.Proofs.Ytddfakhlncihoaa.L
open Go.RowKit Go.Proofs.Ytddfakhlncihoaa.Q Go.Proofs.YtddfakhlncihoaaW.PrintWords Go.Proofs.YtddfakhlncihoaaW.PrintLast
set_option linter.unusedVariables false
set_option linter.unusedSimpArgs false
theorem core_PoleWay (a : Int) (l : List Int) (s : Int) (w : (Lit.int .i64 a).wf = true) (hb : l.length ≤ 35184372088832) (hw : ∀ x ∈ l, (Lit.int .i64 x).wf = true) (ws : (Lit.int .i64 s).wf = true) :
    ∃ K m ok, m.length ≤ 35184372088832 ∧ (∀ k, K ≤ k → spec_PoleWay.f k a l s = some (m, ok)) ∧ (∀ k, K ≤ k → impl_PoleWay.f k a l s = some (m, ok)) := by
  by_cases h : isPole a l = true
  · obtain ⟨h1, h2, h3, h4⟩ := isPole_wires h
    by_cases hs : 0 ≤ s ∧ s ≤ a - 1
    · refine ⟨l.length + 3, (s :: (pdown a l s).1), true, (by simp [pdown_length]; omega), fun k hk => ?_, fun k hk => ?_⟩
      · unfold spec_PoleWay.f
        rw [poWire a l s hb k (by omega), Option.bind_some, h, decide_eq_true hs, Bool.and_self, if_pos rfl, (poDown a l s ⟨h1, h2⟩ h3 h4 hs k (by omega)).1, Option.bind_some]
      · unfold impl_PoleWay.f
        rw [isPole_eq, Option.bind_some, if_pos h, between, Option.bind_some, wrap_id (by omega) (by omega), decide_eq_true hs, if_pos rfl, (poDown a l s ⟨h1, h2⟩ h3 h4 hs k (by omega)).2, Option.bind_some]
    · refine ⟨l.length + 3, [], false, (by simp), fun k hk => ?_, fun k hk => ?_⟩
      · unfold spec_PoleWay.f
        rw [poWire a l s hb k (by omega), Option.bind_some, h, decide_eq_false hs, Bool.and_false]
        rfl
      · unfold impl_PoleWay.f
        rw [isPole_eq, Option.bind_some, if_pos h, between, Option.bind_some, wrap_id (by omega) (by omega), decide_eq_false hs]
        rfl
  · refine ⟨l.length + 3, [], false, (by simp), fun k hk => ?_, fun k hk => ?_⟩
    · unfold spec_PoleWay.f
      rw [poWire a l s hb k (by omega), Option.bind_some, Bool.eq_false_iff.2 h, Bool.false_and]
      rfl
    · unfold impl_PoleWay.f
      rw [isPole_eq, Option.bind_some, if_neg h]
end Go.Proofs.Ytddfakhlncihoaa.L
