/- One turned order and then another one, as the program and the reference tell it; for lists within the bounds that each theorem names. -/
import Derived.Test.YtgjamcfnpofbhaaLibA
import Derived.Test.YtgjamcfnpofbhaaQx14
namespace Go.Proofs.Ytgjamcfnpofbhaa.L
open Go.RowKit Go.Proofs.Ytgjamcfnpofbhaa.Q Go.Proofs.YtgjamcfnpofbhaaW.PrintWords Go.Proofs.YtgjamcfnpofbhaaW.PrintLast
set_option linter.unusedVariables false
set_option linter.unusedSimpArgs false
/-- A function's values from i on. -/
def upto (f : Nat → Int) : Nat → Nat → List Int
  | 0, _ => []
  | d + 1, i => f i :: upto f d (i + 1)
theorem upto_length (f : Nat → Int) : ∀ (d i : Nat), (upto f d i).length = d
  | 0, _ => rfl
  | d + 1, i => by rw [upto, List.length_cons, upto_length f d]
theorem upto_get (f : Nat → Int) : ∀ (d i j : Nat), j < d → (upto f d i).getD j 0 = f (i + j)
  | 0, _, _, h => by omega
  | d + 1, i, 0, _ => by simp [upto]
  | d + 1, i, j + 1, h => by
    rw [upto, List.getD_cons_succ, upto_get f d (i + 1) j (by omega)]
    congr 1
    omega
theorem upto_congr {f g : Nat → Int} : ∀ (d i : Nat), (∀ j, i ≤ j → j < i + d → f j = g j) → upto f d i = upto g d i
  | 0, _, _ => rfl
  | d + 1, i, h => by rw [upto, upto, h i (by omega) (by omega), upto_congr d (i + 1) (fun j h1 h2 => h j (by omega) (by omega))]
theorem eq_upto (l : List Int) : l = upto (fun j => l.getD j 0) l.length 0 := by
  refine List.ext_getElem? fun j => ?_
  have e := upto_get (fun j => l.getD j 0) l.length 0 j
  have n := upto_length (fun j => l.getD j 0) l.length 0
  generalize hu : upto (fun j => l.getD j 0) l.length 0 = u at e n ⊢
  by_cases c : j < l.length
  · have e := e c
    rw [List.getD_eq_getElem?_getD, List.getElem?_eq_getElem (by omega), Nat.zero_add] at e
    simp only [Option.getD_some] at e
    rw [List.getElem?_eq_getElem c, List.getElem?_eq_getElem (by omega), e, List.getD_eq_getElem?_getD, List.getElem?_eq_getElem c]
    rfl
  · rw [List.getElem?_eq_none (by omega), List.getElem?_eq_none (by omega)]
theorem rd_get (l : List Int) (i : Nat) : rd l (i : Int) = l.getD i 0 := by simp [rd]
theorem thn_i (e f p w : List Int) (M : Int) (he : ∀ j : Nat, j < e.length → 0 ≤ e.getD j 0 ∧ e.getD j 0 < (p.length : Int)) (hf : f.length = e.length) (hw : w.length = p.length) (hM : M ≤ 1000000000000) (hb : ∀ j, -M ≤ f.getD j 0 ∧ f.getD j 0 ≤ M) (hwb : ∀ k, -M ≤ w.getD k 0 ∧ w.getD k 0 ≤ M) (hn : e.length ≤ 8) : ∀ (d i k : Nat) (a b : List Int), i + d = e.length → d < k → a.length ≤ i → b.length ≤ i →
    impl_thenTurned.l0 k e (e.length : Int) (i : Int) e f p w a b = some (a ++ upto (fun j => p.getD (e.getD j 0).toNat 0) d i, b ++ upto (fun j => f.getD j 0 + w.getD (e.getD j 0).toNat 0) d i)
  | 0, i, k, a, b, h, hk, ha, hb' => by
    obtain ⟨k, rfl⟩ : ∃ m, k = m + 1 := ⟨k - 1, by omega⟩
    simp only [impl_thenTurned.l0, upto, List.append_nil]
    rw [if_neg (by omega)]
  | d + 1, i, k, a, b, h, hk, ha, hb' => by
    obtain ⟨k, rfl⟩ : ∃ m, k = m + 1 := ⟨k - 1, by omega⟩
    have h1 := he i (by omega)
    have h2 := hb i
    obtain ⟨q, hq⟩ : ∃ q : Nat, e.getD i 0 = q := ⟨(e.getD i 0).toNat, by omega⟩
    have h3 := hwb q
    have ih := thn_i e f p w M he hf hw hM hb hwb hn d (i + 1) k (a ++ [p.getD q 0]) (b ++ [f.getD i 0 + w.getD q 0]) (by omega) (by omega) (by simp; omega) (by simp; omega)
    simp only [impl_thenTurned.l0]
    rw [if_pos (by omega), if_pos (by omega), if_pos (by omega), show rd e (i : Int) = (q : Int) by rw [rd_get, hq], if_pos (by omega), if_pos (by omega), Option.bind_some, if_pos (by simp; omega), if_pos (by omega), if_pos (by omega), Option.bind_some, if_pos (by simp; omega)]
    rw [rd_get, rd_get, rd_get, wrap_id (n := f.getD i 0 + w.getD q 0) (by omega) (by omega), wrap_id (n := (i : Int) + 1) (by omega) (by omega)]
    rw [upto, upto, hq, Int.toNat_natCast]
    rw [show ((i : Int) + 1) = ((i + 1 : Nat) : Int) by omega, ih]
    simp
theorem thn_at (e f p w : List Int) (M : Int) (he : ∀ j : Nat, j < e.length → 0 ≤ e.getD j 0 ∧ e.getD j 0 < (p.length : Int)) (hf : f.length = e.length) (hw : w.length = p.length) (hM : M ≤ 1000000000000) (hb : ∀ j, -M ≤ f.getD j 0 ∧ f.getD j 0 ≤ M) (hwb : ∀ k, -M ≤ w.getD k 0 ∧ w.getD k 0 ≤ M) (hn : e.length ≤ 8) (k : Nat) (hk : 20 ≤ k) :
    impl_thenTurned.f k e f p w = some (upto (fun j => p.getD (e.getD j 0).toNat 0) e.length 0, upto (fun j => f.getD j 0 + w.getD (e.getD j 0).toNat 0) e.length 0) := by
  unfold impl_thenTurned.f
  have := thn_i e f p w M he hf hw hM hb hwb hn e.length 0 k [] [] (by omega) (by omega) (by simp) (by simp)
  simpa using this
theorem getD_of_mem {P : Int → Prop} (l : List Int) (h : ∀ x ∈ l, P x) (j : Nat) (hj : j < l.length) : P (l.getD j 0) := by
  rw [List.getD_eq_getElem?_getD, List.getElem?_eq_getElem hj]; exact h _ (List.getElem_mem hj)
theorem getD_bound (l : List Int) (M : Int) (h : ∀ x ∈ l, -M ≤ x ∧ x ≤ M) (hM : 0 ≤ M) (k : Nat) : -M ≤ l.getD k 0 ∧ l.getD k 0 ≤ M := by
  by_cases c : k < l.length
  · exact getD_of_mem l h k c
  · rw [List.getD_eq_getElem?_getD, List.getElem?_eq_none (by omega)]; simp; omega
end Go.Proofs.Ytgjamcfnpofbhaa.L
