/- slices.Reverse over whole numbers: the list backwards, for lists that fit into memory. -/
import Derived.Test.YtmljdibhdnckpaaLibA
import Derived.Test.YtmljdibhdnckpaaQx26
namespace Go.Proofs.Ytmljdibhdnckpaa.L
open Go.RowKit Go.Proofs.Ytmljdibhdnckpaa.Q Go.Proofs.YtmljdibhdnckpaaW.PrintWords Go.Proofs.YtmljdibhdnckpaaW.PrintLast
set_option linter.unusedVariables false
set_option linter.unusedSimpArgs false
theorem reverse_l0 (l : List Int) (hb : l.length ≤ 35184372088832) (d : Nat) : ∀ (i k : Nat) (x : List Int), l.length ≤ 2 * i + d → 2 * i ≤ l.length + 1 → x.length = l.length →
    (∀ j (h : j < x.length), x[j] = if j < i ∨ l.length - i ≤ j then l.reverse.getD j 0 else l.getD j 0) → d < k → slices_Reverse_int_int.l0 k x (i : Int) ((l.length : Int) - 1 - i) = some l.reverse := by
  induction d with
  | zero =>
    intro i k x hi hi2 hx hj hk
    obtain ⟨k, rfl⟩ : ∃ m, k = m + 1 := ⟨k - 1, by omega⟩
    simp only [slices_Reverse_int_int.l0]
    rw [if_neg (by omega)]
    congr 1
    apply List.ext_getElem (by rw [hx, List.length_reverse])
    intro j h1 h2
    rw [hj j h1, if_pos (by omega), List.getD_eq_getElem?_getD, List.getElem?_eq_getElem h2]
    rfl
  | succ d ih =>
    intro i k x hi hi2 hx hj hk
    obtain ⟨k, rfl⟩ : ∃ m, k = m + 1 := ⟨k - 1, by omega⟩
    by_cases hlt : (i : Int) < (l.length : Int) - 1 - i
    · simp only [slices_Reverse_int_int.l0]
      rw [if_pos hlt, if_pos (by omega), if_pos (by omega), if_pos (by omega), if_pos (by omega), wrap_id (by omega) (by omega), wrap_id (by omega) (by omega)]
      have e1 : (((l.length : Int) - 1 - i)).toNat = l.length - 1 - i := by omega
      have e2 : ((i : Int)).toNat = i := by omega
      have := ih (i + 1) k ((x.set i (rd x ((l.length : Int) - 1 - i))).set (l.length - 1 - i) (rd x (i : Int))) (by omega) (by omega) (by simp [hx]) ?_ (by omega)
      · rw [e1, e2, show (l.length : Int) - 1 - (i : Int) - 1 = (l.length : Int) - 1 - ((i + 1 : Nat) : Int) from by omega]
        exact_mod_cast this
      · intro j h
        simp only [List.length_set] at h
        have hr1 : rd x ((l.length : Int) - 1 - i) = l.getD (l.length - 1 - i) 0 := by
          have e3 : (l.length : Int) - 1 - (i : Int) = ((l.length - 1 - i : Nat) : Int) := by omega
          rw [e3, rd_nat x _ (by omega), hj _ (by omega), if_neg (by omega)]
        have hr2 : rd x (i : Int) = l.getD i 0 := by
          rw [rd_nat x _ (by omega), hj _ (by omega), if_neg (by omega)]
        have hrev : ∀ q, q < l.length → l.reverse.getD q 0 = l.getD (l.length - 1 - q) 0 := by
          intro q hq
          rw [List.getD_eq_getElem?_getD, List.getD_eq_getElem?_getD, List.getElem?_reverse (by omega)]
        rw [List.getElem_set, List.getElem_set]
        by_cases a1 : l.length - 1 - i = j
        · rw [if_pos a1, if_pos (by omega), hr2, hrev j (by omega), show l.length - 1 - j = i from by omega]
        · rw [if_neg a1]
          by_cases a2 : i = j
          · rw [if_pos a2, if_pos (by omega), hr1, hrev j (by omega), show l.length - 1 - j = l.length - 1 - i from by omega]
          · rw [if_neg a2, hj j (by omega)]
            by_cases a3 : j < i ∨ l.length - i ≤ j
            · rw [if_pos a3, if_pos (by omega)]
            · rw [if_neg a3, if_neg (by omega)]
    · simp only [slices_Reverse_int_int.l0]
      rw [if_neg hlt]
      congr 1
      apply List.ext_getElem (by rw [hx, List.length_reverse])
      intro j h1 h2
      rw [hj j h1]
      by_cases a3 : j < i ∨ l.length - i ≤ j
      · rw [if_pos a3, List.getD_eq_getElem?_getD, List.getElem?_eq_getElem h2]
        rfl
      · rw [if_neg a3, List.getElem_reverse, List.getD_eq_getElem?_getD, List.getElem?_eq_getElem (by omega)]
        have : j = l.length - 1 - j := by omega
        simp only [Option.getD_some]
        congr 1
theorem reverseI (l : List Int) (hb : l.length ≤ 35184372088832) (k : Nat) (hk : l.length + 2 ≤ k) : slices_Reverse_int_int.f k l = some l.reverse := by
  unfold slices_Reverse_int_int.f
  rw [wrap_id (by omega) (by omega)]
  have := reverse_l0 l hb l.length 0 k l (by omega) (by omega) rfl (fun j h => by
    rw [if_neg (by omega), List.getD_eq_getElem?_getD, List.getElem?_eq_getElem h]
    rfl) (by omega)
  simpa using this
end Go.Proofs.Ytmljdibhdnckpaa.L
