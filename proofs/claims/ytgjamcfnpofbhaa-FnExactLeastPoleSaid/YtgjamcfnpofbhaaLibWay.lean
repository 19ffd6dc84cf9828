/- Going down a pole: the wires and the winds, as the program and the reference tell them; for poles. -/
import Derived.Test.YtgjamcfnpofbhaaLibAll
import Derived.Test.YtgjamcfnpofbhaaQx20
import Derived.Test.YtgjamcfnpofbhaaQx31
namespace Go.Proofs.Ytgjamcfnpofbhaa.L
open Go.RowKit Go.Proofs.Ytgjamcfnpofbhaa.Q Go.Proofs.YtgjamcfnpofbhaaW.PrintWords Go.Proofs.YtgjamcfnpofbhaaW.PrintLast
set_option linter.unusedVariables false
set_option linter.unusedSimpArgs false
/-- The wire behind a rung, and the wind. -/
def nextP (a w r : Int) : Int × Int := (spec_poOver.f a w r).getD (0, 0)
theorem over_all : ∀ a ∈ List.range 6, ∀ w ∈ List.range (a + 3), ∀ r ∈ List.range (a + 3), spec_poOver.f (((a : Nat) : Int) + 3) (w : Nat) (r : Nat) = some (nextP (((a : Nat) : Int) + 3) (w : Nat) (r : Nat)) ∧ impl_round.f 1 (((a : Nat) : Int) + 3) (w : Nat) (r : Nat) = some (nextP (((a : Nat) : Int) + 3) (w : Nat) (r : Nat)) ∧ 0 ≤ (nextP (((a : Nat) : Int) + 3) (w : Nat) (r : Nat)).1 ∧ (nextP (((a : Nat) : Int) + 3) (w : Nat) (r : Nat)).1 ≤ ((a : Nat) : Int) + 2 ∧ -1 ≤ (nextP (((a : Nat) : Int) + 3) (w : Nat) (r : Nat)).2 ∧ (nextP (((a : Nat) : Int) + 3) (w : Nat) (r : Nat)).2 ≤ 1 := by decide +kernel
theorem over_at (a w r : Int) (ha : 3 ≤ a ∧ a ≤ 8) (hw : 0 ≤ w ∧ w ≤ a - 1) (hr : 0 ≤ r ∧ r ≤ a - 1) :
    spec_poOver.f a w r = some (nextP a w r) ∧ (∀ k, 1 ≤ k → impl_round.f k a w r = some (nextP a w r)) ∧ (0 ≤ (nextP a w r).1 ∧ (nextP a w r).1 ≤ a - 1) ∧ -1 ≤ (nextP a w r).2 ∧ (nextP a w r).2 ≤ 1 := by
  obtain ⟨a', rfl⟩ : ∃ x : Nat, a = x + 3 := ⟨(a - 3).toNat, by omega⟩
  obtain ⟨w', rfl⟩ : ∃ x : Nat, w = x := ⟨w.toNat, by omega⟩
  obtain ⟨r', rfl⟩ : ∃ x : Nat, r = x := ⟨r.toNat, by omega⟩
  obtain ⟨h1, h2, h3, h4, h5, h6⟩ := over_all a' (List.mem_range.2 (by omega)) w' (List.mem_range.2 (by omega)) r' (List.mem_range.2 (by omega))
  refine ⟨h1, fun k hk => ?_, ⟨h3, by omega⟩, h5, h6⟩
  exact at_rounds (fun k => impl_round.mono _ _ _ k) hk h2
/-- The wires behind the rungs, and the winds together. -/
def pdown (a : Int) : List Int → Int → List Int × Int
  | [], _ => ([], 0)
  | r :: rs, w => ((nextP a w r).1 :: (pdown a rs (nextP a w r).1).1, (nextP a w r).2 + (pdown a rs (nextP a w r).1).2)
theorem pdown_length (a : Int) : ∀ (l : List Int) (w : Int), (pdown a l w).1.length = l.length
  | [], _ => rfl
  | r :: rs, w => by simp [pdown, pdown_length a rs]
theorem poDown_l0 (a : Int) (l : List Int) (b : List Int) (ha : 3 ≤ a ∧ a ≤ 8) (hb : l.length ≤ 60) (hl : ∀ r ∈ l, 0 ≤ r ∧ r ≤ a - 1) (d : Nat) :
    ∀ (i k : Nat) (w : Int) (acc : List Int) (x : Int), i + d = l.length → acc.length ≤ 100 + i → (0 ≤ w ∧ w ≤ a - 1) → (-(i : Int) ≤ x ∧ x ≤ i) → d + 1 < k →
      spec_poDown.l0 k w acc x l (l.length : Int) (i : Int) a b = some (acc ++ (pdown a (l.drop i) w).1, x + (pdown a (l.drop i) w).2) ∧ impl_poleWay.l0 k w acc x l (l.length : Int) (i : Int) a b = some (acc ++ (pdown a (l.drop i) w).1, x + (pdown a (l.drop i) w).2) := by
  induction d with
  | zero =>
    intro i k w acc x hi hacc hw hx hk
    obtain ⟨k, rfl⟩ : ∃ m, k = m + 1 := ⟨k - 1, by omega⟩
    simp only [spec_poDown.l0, impl_poleWay.l0]
    rw [if_neg (by omega), if_neg (by omega), show i = l.length from by omega, List.drop_length]
    simp [pdown]
  | succ d ih =>
    intro i k w acc x hi hacc hw hx hk
    obtain ⟨k, rfl⟩ : ∃ m, k = m + 1 := ⟨k - 1, by omega⟩
    obtain ⟨e1, e2, e3, e4, e5⟩ := over_at a w l[i] ha hw (hl _ (List.getElem_mem _))
    simp only [spec_poDown.l0, impl_poleWay.l0]
    rw [if_pos (by omega), if_pos (by omega), if_pos (by omega), rd_nat l i (by omega), e1, Option.bind_some, if_pos (by omega), wrap_id (by omega) (by omega), wrap_id (by omega) (by omega),
      if_pos (by omega), if_pos (by omega), if_pos (by omega), e2 k (by omega), Option.bind_some, if_pos (by omega), wrap_id (by omega) (by omega)]
    have := ih (i + 1) k (nextP a w l[i]).1 (acc ++ [(nextP a w l[i]).1]) (x + (nextP a w l[i]).2) (by omega) (by simp; omega) e3 (by omega) (by omega)
    rw [List.drop_eq_getElem_cons (by omega)]
    simp only [pdown]
    rw [List.append_assoc, List.singleton_append, Int.add_assoc] at this
    exact_mod_cast this
/-- All wires on which one is, and the winds. -/
theorem poDown (a : Int) (l : List Int) (w : Int) (ha : 3 ≤ a ∧ a ≤ 8) (hb : l.length ≤ 60) (hl : ∀ r ∈ l, 0 ≤ r ∧ r ≤ a - 1) (hw : 0 ≤ w ∧ w ≤ a - 1) (k : Nat) (hk : l.length + 2 ≤ k) :
    spec_poDown.f k a l w = some (w :: (pdown a l w).1, (pdown a l w).2) ∧ impl_poleWay.f k a l w = some (w :: (pdown a l w).1, (pdown a l w).2) := by
  unfold spec_poDown.f impl_poleWay.f
  have := poDown_l0 a l l ha hb hl l.length 0 k w [w] 0 (by omega) (by simp) hw (by omega) (by omega)
  simpa using this
end Go.Proofs.Ytgjamcfnpofbhaa.L
