/- The result of a pole, as the program and the reference tell it; for poles. -/
import Derived.Test.YtgjamcfnpofbhaaLibWay
import Derived.Test.YtgjamcfnpofbhaaQx21
import Derived.Test.YtgjamcfnpofbhaaQx31
namespace Go.Proofs.Ytgjamcfnpofbhaa.L
open Go.RowKit Go.Proofs.Ytgjamcfnpofbhaa.Q Go.Proofs.YtgjamcfnpofbhaaW.PrintWords Go.Proofs.YtgjamcfnpofbhaaW.PrintLast
set_option linter.unusedVariables false
set_option linter.unusedSimpArgs false
/-- The wire at the bottom. -/
def pend (a : Int) : List Int → Int → Int
  | [], w => w
  | r :: rs, w => pend a rs (nextP a w r).1
theorem pend_get (a : Int) : ∀ (l : List Int) (w : Int), (w :: (pdown a l w).1)[l.length]? = some (pend a l w)
  | [], w => rfl
  | r :: rs, w => by
    rw [List.length_cons, List.getElem?_cons_succ]
    exact pend_get a rs (nextP a w r).1
theorem pend_rd (a : Int) (l : List Int) (w : Int) (i : Int) (hi : i = (l.length : Int)) : rd (w :: (pdown a l w).1) i = pend a l w := by
  unfold rd
  rw [hi, show ((l.length : Int)).toNat = l.length by omega, List.getD_eq_getElem?_getD, pend_get]
  rfl
/-- A function's values from i on. -/
def vals (f : Int → Int) : Nat → Int → List Int
  | 0, _ => []
  | d + 1, i => f i :: vals f d (i + 1)
theorem vals_length (f : Int → Int) : ∀ (d : Nat) (i : Int), (vals f d i).length = d
  | 0, _ => rfl
  | d + 1, i => by rw [vals, List.length_cons, vals_length f d]
theorem vals_get (f : Int → Int) : ∀ (d : Nat) (i : Int) (j : Nat), j < d → (vals f d i)[j]? = some (f (i + j))
  | 0, _, _, h => by omega
  | d + 1, i, 0, _ => by simp [vals]
  | d + 1, i, j + 1, h => by
    rw [vals, List.getElem?_cons_succ, vals_get f d (i + 1) j (by omega)]
    congr 2
    omega
def resE (a : Int) (l : List Int) : List Int := vals (pend a l) a.toNat 0
def resW (a : Int) (l : List Int) : List Int := vals (fun w => (pdown a l w).2) a.toNat 0
theorem result_l0 (a : Int) (l : List Int) (ha : 3 ≤ a ∧ a ≤ 8) (hb : l.length ≤ 60) (hl : ∀ r ∈ l, 0 ≤ r ∧ r ≤ a - 1) (d : Nat) :
    ∀ (i : Int) (k : Nat) (E W : List Int), 0 ≤ i → i + d = a → E.length ≤ i.toNat → W.length ≤ i.toNat → l.length + d + 3 ≤ k →
      spec_poResult.l0 k i a l E W = some (E ++ vals (pend a l) d i, W ++ vals (fun w => (pdown a l w).2) d i) ∧ impl_poleResult.l0 k a i a l E W = some (E ++ vals (pend a l) d i, W ++ vals (fun w => (pdown a l w).2) d i) := by
  induction d with
  | zero =>
    intro i k E W h0 hi hE hW hk
    obtain ⟨k, rfl⟩ : ∃ m, k = m + 1 := ⟨k - 1, by omega⟩
    simp only [spec_poResult.l0, impl_poleResult.l0]
    rw [if_neg (by omega), if_neg (by omega)]
    simp [vals]
  | succ d ih =>
    intro i k E W h0 hi hE hW hk
    obtain ⟨k, rfl⟩ : ∃ m, k = m + 1 := ⟨k - 1, by omega⟩
    obtain ⟨e1, e2⟩ := poDown a l i ha hb hl (by omega) k (by omega)
    have hlen : (i :: (pdown a l i).1).length = l.length + 1 := by rw [List.length_cons, pdown_length]
    have hw1 : wrap64 (((i :: (pdown a l i).1).length : Int) - 1) = (l.length : Int) := by rw [hlen]; rw [wrap_id (by omega) (by omega)]; omega
    obtain ⟨i1, i2⟩ := ih (i + 1) k (E ++ [pend a l i]) (W ++ [(pdown a l i).2]) (by omega) (by omega) (by simp; omega) (by simp; omega) (by omega)
    constructor
    · simp only [spec_poResult.l0]
      rw [if_pos (by omega), e1, Option.bind_some]
      simp only []
      rw [if_pos (by omega), if_pos (by rw [hlen]; omega), if_pos (by omega), if_pos (by omega), wrap_id (by omega) (by omega), pend_rd a l i _ rfl, i1]
      simp [vals]
    · simp only [impl_poleResult.l0]
      rw [if_pos (by omega), e2, Option.bind_some]
      simp only []
      rw [hw1, if_pos (by omega), if_pos (by rw [hlen]; omega), Option.bind_some, if_pos (by simp; omega), Option.bind_some, if_pos (by simp; omega), wrap_id (by omega) (by omega), pend_rd a l i _ rfl, i2]
      simp [vals]
theorem result_at (a : Int) (l : List Int) (ha : 3 ≤ a ∧ a ≤ 8) (hb : l.length ≤ 60) (hl : ∀ r ∈ l, 0 ≤ r ∧ r ≤ a - 1) (k : Nat) (hk : l.length + 20 ≤ k) :
    spec_poResult.f k a l = some (resE a l, resW a l) ∧ impl_poleResult.f k a l = some (resE a l, resW a l) := by
  unfold spec_poResult.f impl_poleResult.f resE resW
  have := result_l0 a l ha hb hl a.toNat 0 k [] [] (by omega) (by omega) (by simp) (by simp) (by omega)
  simpa using this
end Go.Proofs.Ytgjamcfnpofbhaa.L
