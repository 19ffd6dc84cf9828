/- 'The same list', as the program tells it; for lists of at most eight numbers. -/
import Derived.Test.YtdfikjchpfmbfaaLibA
import Derived.Test.YtdfikjchpfmbfaaQx12
namespace Go.Proofs.Ytdfikjchpfmbfaa.L
open Go.RowKit Go.Proofs.Ytdfikjchpfmbfaa.Q Go.Proofs.YtdfikjchpfmbfaaW.PrintWords Go.Proofs.YtdfikjchpfmbfaaW.PrintLast
set_option linter.unusedVariables false
set_option linter.unusedSimpArgs false
theorem rd_getE (l : List Int) (i : Nat) : rd l (i : Int) = l.getD i 0 := by simp [rd]
theorem equal_l0 (a b : List Int) (hl : a.length = b.length) (hb : a.length ≤ 8) : ∀ (d i k : Nat), i + d = a.length → d < k → slices_Equal_int_int.l0 k a b (a.length : Int) (i : Int) = some (decide (∀ j, j < a.length → i ≤ j → a.getD j 0 = b.getD j 0))
  | 0, i, k, h, hk => by
    obtain ⟨k, rfl⟩ : ∃ m, k = m + 1 := ⟨k - 1, by omega⟩
    simp only [slices_Equal_int_int.l0]
    rw [if_neg (by omega)]
    congr 1
    symm
    exact decide_eq_true (fun j h1 h2 => by omega)
  | d + 1, i, k, h, hk => by
    obtain ⟨k, rfl⟩ : ∃ m, k = m + 1 := ⟨k - 1, by omega⟩
    simp only [slices_Equal_int_int.l0]
    rw [if_pos (by omega), if_pos (by omega), if_pos (by omega), if_pos (by omega), rd_getE, rd_getE]
    by_cases e : a.getD i 0 = b.getD i 0
    · rw [if_pos e, wrap_id (by omega) (by omega), show ((i : Int) + 1) = ((i + 1 : Nat) : Int) by omega, equal_l0 a b hl hb d (i + 1) k (by omega) (by omega)]
      congr 1
      rw [decide_eq_decide]
      constructor
      · intro H j h1 h2
        by_cases c : j = i
        · subst c; exact e
        · exact H j h1 (by omega)
      · exact fun H j h1 h2 => H j h1 (by omega)
    · rw [if_neg e]
      congr 1
      symm
      exact decide_eq_false (fun H => e (H i (by omega) (by omega)))
theorem equalL (a b : List Int) (hl : a.length = b.length) (hb : a.length ≤ 8) (k : Nat) (hk : 20 ≤ k) : slices_Equal_int_int.f k a b = some (decide (∀ j, j < a.length → a.getD j 0 = b.getD j 0)) := by
  unfold slices_Equal_int_int.f
  rw [if_pos (by omega)]
  have := equal_l0 a b hl hb a.length 0 k (by omega) (by omega)
  simpa using this
end Go.Proofs.Ytdfikjchpfmbfaa.L
