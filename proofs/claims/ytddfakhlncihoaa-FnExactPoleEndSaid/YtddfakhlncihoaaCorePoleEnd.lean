/- PoleEnd, PoleWay: the program's functions and the reference's answer the same, for poles whose rungs fit into memory. -/
import Derived.Test.YtddfakhlncihoaaLibWay
import Derived.Test.YtddfakhlncihoaaQx20
import Derived.Test.YtddfakhlncihoaaQx21
namespace Go.Proofs.Ytddfakhlncihoaa.L
open Go.RowKit Go.Proofs.Ytddfakhlncihoaa.Q Go.Proofs.YtddfakhlncihoaaW.PrintWords Go.Proofs.YtddfakhlncihoaaW.PrintLast
set_option linter.unusedVariables false
set_option linter.unusedSimpArgs false
theorem poWire (a : Int) (l : List Int) (s : Int) (hb : l.length ≤ 35184372088832) (k : Nat) (hk : l.length + 1 ≤ k) : spec_poWire.f k a l s = some (isPole a l && decide (0 ≤ s ∧ s ≤ a - 1)) := by
  unfold spec_poWire.f
  rw [poGood a l hb k hk, Option.bind_some]
  by_cases h : isPole a l = true
  · obtain ⟨h1, h2, _, _⟩ := isPole_wires h
    rw [if_pos h, l1In, wrap_id (by omega) (by omega), h]
    rfl
  · rw [if_neg h, Bool.eq_false_iff.2 h]
    rfl
theorem core_PoleEnd (a : Int) (l : List Int) (s : Int) (w : (Lit.int .i64 a).wf = true) (hb : l.length ≤ 35184372088832) (hw : ∀ x ∈ l, (Lit.int .i64 x).wf = true) (ws : (Lit.int .i64 s).wf = true) :
    ∃ K b m ok, (∀ k, K ≤ k → spec_PoleEnd.f k a l s = some (b, m, ok)) ∧ (∀ k, K ≤ k → impl_PoleEnd.f k a l s = some (b, m, ok)) := by
  by_cases h : isPole a l = true
  · obtain ⟨h1, h2, h3, h4⟩ := isPole_wires h
    by_cases hs : 0 ≤ s ∧ s ≤ a - 1
    · refine ⟨l.length + 3, rd (s :: (pdown a l s).1) (l.length : Int), (pdown a l s).2, true, fun k hk => ?_, fun k hk => ?_⟩
      · unfold spec_PoleEnd.f
        rw [poWire a l s hb k (by omega), Option.bind_some, h, decide_eq_true hs, Bool.and_self, if_pos rfl, (poDown a l s ⟨h1, h2⟩ h3 h4 hs k (by omega)).1, Option.bind_some]
        have hl : (s :: (pdown a l s).1).length = l.length + 1 := by simp [pdown_length]
        dsimp only
        rw [if_pos (by omega), if_pos (by omega)]
      · unfold impl_PoleEnd.f
        rw [isPole_eq, Option.bind_some, if_pos h, between, Option.bind_some, wrap_id (by omega) (by omega), decide_eq_true hs, if_pos rfl, (poDown a l s ⟨h1, h2⟩ h3 h4 hs k (by omega)).2, Option.bind_some]
        have hl : (s :: (pdown a l s).1).length = l.length + 1 := by simp [pdown_length]
        dsimp only
        rw [wrap_id (by omega) (by omega), if_pos (by omega), if_pos (by omega), hl, show ((l.length + 1 : Nat) : Int) - 1 = (l.length : Int) from by omega]
    · refine ⟨l.length + 3, 0, 0, false, fun k hk => ?_, fun k hk => ?_⟩
      · unfold spec_PoleEnd.f
        rw [poWire a l s hb k (by omega), Option.bind_some, h, decide_eq_false hs, Bool.and_false]
        rfl
      · unfold impl_PoleEnd.f
        rw [isPole_eq, Option.bind_some, if_pos h, between, Option.bind_some, wrap_id (by omega) (by omega), decide_eq_false hs]
        rfl
  · refine ⟨l.length + 3, 0, 0, false, fun k hk => ?_, fun k hk => ?_⟩
    · unfold spec_PoleEnd.f
      rw [poWire a l s hb k (by omega), Option.bind_some, Bool.eq_false_iff.2 h, Bool.false_and]
      rfl
    · unfold impl_PoleEnd.f
      rw [isPole_eq, Option.bind_some, if_neg h]
end Go.Proofs.Ytddfakhlncihoaa.L
