/- TurnPole: the program's function and the reference's answer the same, for poles whose rungs fit into memory. -/
import Derived.Test.YtddfakhlncihoaaLibAll
import Derived.Test.YtddfakhlncihoaaLibRev
import Derived.Test.YtddfakhlncihoaaQx15
import Derived.Test.YtddfakhlncihoaaQx16
import Derived.Test.YtddfakhlncihoaaQx18
namespace Go.Proofs.Ytddfakhlncihoaa.L
open Go.RowKit Go.Proofs.Ytddfakhlncihoaa.Q Go.Proofs.YtddfakhlncihoaaW.PrintWords Go.Proofs.YtddfakhlncihoaaW.PrintLast
set_option linter.unusedVariables false
set_option linter.unusedSimpArgs false
theorem turn_l0 (a b : Int) (l : List Int) (hb : l.length ≤ 60) (d : Nat) : ∀ (i k : Nat) (m : List Int), i = d → i ≤ l.length → m.length ≤ 100 - i → d < k → spec_TurnPole.l0 k ((i : Int) - 1) a l b m = some (b, m ++ (l.take i).reverse, true) := by
  induction d with
  | zero =>
    intro i k m hi hl hm hk
    obtain ⟨k, rfl⟩ : ∃ m, k = m + 1 := ⟨k - 1, by omega⟩
    subst hi
    simp only [spec_TurnPole.l0]
    rw [if_neg (by omega)]
    simp
  | succ d ih =>
    intro i k m hi hl hm hk
    obtain ⟨k, rfl⟩ : ∃ m, k = m + 1 := ⟨k - 1, by omega⟩
    subst hi
    simp only [spec_TurnPole.l0]
    rw [if_pos (by omega), if_pos (by omega), if_pos (by omega), if_pos (by omega), wrap_id (by omega) (by omega), show ((d + 1 : Nat) : Int) - 1 = (d : Int) from by omega, rd_nat l d (by omega)]
    have := ih d k (m ++ [l[d]]) rfl (by omega) (by simp; omega) (by omega)
    rw [List.take_succ_eq_append_getElem (by omega), List.reverse_append]
    rw [List.append_assoc] at this
    exact this
theorem core_TurnPole (a : Int) (l : List Int) (w : (Lit.int .i64 a).wf = true) (hb : l.length ≤ 35184372088832) (hw : ∀ x ∈ l, (Lit.int .i64 x).wf = true) :
    ∃ K b m ok, m.length ≤ 35184372088832 ∧ (∀ k, K ≤ k → spec_TurnPole.f k a l = some (b, m, ok)) ∧ (∀ k, K ≤ k → impl_TurnPole.f k a l = some (b, m, ok)) := by
  by_cases h : isPole a l = true
  · obtain ⟨h1, h2, h3, h4⟩ := isPole_wires h
    refine ⟨l.length + 3, a, l.reverse, true, by simpa using hb, fun k hk => ?_, fun k hk => ?_⟩
    · unfold spec_TurnPole.f
      rw [poGood a l hb _ (by omega), Option.bind_some, if_pos h, wrap_id (by omega) (by omega), turn_l0 a a l h3 l.length l.length k [] rfl (by omega) (by simp) (by omega)]
      simp
    · unfold impl_TurnPole.f slices_Clone_int_int.f
      rw [isPole_eq, Option.bind_some, if_pos h, if_pos (by omega), Option.bind_some, reverseI l (by omega) k (by omega), Option.bind_some]
  · refine ⟨l.length + 3, 0, [], false, by simp, fun k hk => ?_, fun k hk => ?_⟩
    · unfold spec_TurnPole.f
      rw [poGood a l hb _ (by omega), Option.bind_some, if_neg h]
    · unfold impl_TurnPole.f
      rw [isPole_eq, Option.bind_some, if_neg h]
end Go.Proofs.Ytddfakhlncihoaa.L
