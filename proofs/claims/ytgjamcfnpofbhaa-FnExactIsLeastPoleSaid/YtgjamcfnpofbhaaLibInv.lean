/- Inversions of turned orders, as the program and the reference count them; for turned orders. -/
import Derived.Test.YtgjamcfnpofbhaaLibPlace
import Derived.Test.YtgjamcfnpofbhaaQx22
namespace Go.Proofs.Ytgjamcfnpofbhaa.L
open Go.RowKit Go.Proofs.Ytgjamcfnpofbhaa.Q Go.Proofs.YtgjamcfnpofbhaaW.PrintWords Go.Proofs.YtgjamcfnpofbhaaW.PrintLast
set_option linter.unusedVariables false
set_option linter.unusedSimpArgs false
/-- How many of the d numbers from j on have a lesser place than i, m more. -/
def invC (p w : List Int) (i : Int) : Nat → Int → Int → Int
  | 0, _, m => m
  | d + 1, j, m => invC p w i d (j + 1) (if placeV p w j < placeV p w i then wrap64 (m + 1) else m)
def invO (p w : List Int) (c : Nat) : Nat → Int → Int → Int
  | 0, _, m => m
  | d + 1, i, m => invO p w c d (i + 1) (invC p w i c (i + 1) m)
theorem invC_add (p w : List Int) (i : Int) : ∀ (d e : Nat) (j m : Int), invC p w i (d + e) j m = invC p w i e (j + d) (invC p w i d j m)
  | 0, e, j, m => by simp [invC]
  | d + 1, e, j, m => by
    rw [show d + 1 + e = (d + e) + 1 from by omega]
    simp only [invC]
    rw [invC_add p w i d e]
    congr 1
    omega
theorem invC_none (p w : List Int) (h : isTur p w = true) (i : Int) (hi : 0 ≤ i ∧ i ≤ 100) : ∀ (d : Nat) (j m : Int), i + 42 * (p.length : Int) ≤ j → j + d ≤ 100000 → invC p w i d j m = m
  | 0, _, _, _, _ => rfl
  | d + 1, j, m, hj, hd => by
    simp only [invC]
    have a := place_at p w h i (by omega)
    have b := place_at p w h j (by omega)
    rw [if_neg (by omega)]
    exact invC_none p w h i hi d (j + 1) m (by omega) (by omega)
theorem invC_same (p w : List Int) (h : isTur p w = true) (i m : Int) (hi : 0 ≤ i ∧ i ≤ 100) : invC p w i (p.length * 244) (i + 1) m = invC p w i (p.length * 43) (i + 1) m := by
  obtain ⟨f1, f2, f3, f4, f5, f6, f7⟩ := isTur_facts h
  rw [show p.length * 244 = p.length * 43 + p.length * 201 from by omega, invC_add]
  exact invC_none p w h i hi _ _ _ (by omega) (by omega)
theorem invO_same (p w : List Int) (h : isTur p w = true) : ∀ (d : Nat) (i m : Int), 0 ≤ i → i + d ≤ 100 → invO p w (p.length * 244) d i m = invO p w (p.length * 43) d i m
  | 0, _, _, _, _ => rfl
  | d + 1, i, m, hi, hd => by
    simp only [invO]
    rw [invC_same p w h i m (by omega)]
    exact invO_same p w h d (i + 1) _ (by omega) (by omega)
theorem inv_g1 (p w : List Int) (h : isTur p w = true) (i : Int) (hi : 0 ≤ i ∧ i ≤ 100) : ∀ (d : Nat) (j m : Int), 0 ≤ j → j + d ≤ 100000 → impl_poleInversions.g1 p w i d j m = some (invC p w i d j m)
  | 0, _, _, _, _ => rfl
  | d + 1, j, m, hj, hd => by
    simp only [impl_poleInversions.g1, invC]
    rw [place_same, place_same, (place_at p w h i (by omega)).1, (place_at p w h j (by omega)).1, Option.bind_some, Option.bind_some]
    exact inv_g1 p w h i hi d (j + 1) _ (by omega) (by omega)
theorem inv_g0 (p w : List Int) (h : isTur p w = true) : ∀ (d : Nat) (i m : Int), 0 ≤ i → i + d ≤ 100 → impl_poleInversions.g0 p w d i m = some (invO p w (p.length * 244) d i m)
  | 0, _, _, _, _ => rfl
  | d + 1, i, m, hi, hd => by
    obtain ⟨f1, f2, f3, f4, f5, f6, f7⟩ := isTur_facts h
    simp only [impl_poleInversions.g0, invO]
    rw [inv_g1 p w h i (by omega) _ _ _ (by omega) (by omega), Option.bind_some]
    exact inv_g0 p w h d (i + 1) _ (by omega) (by omega)
theorem inv_l1 (p w : List Int) (h : isTur p w = true) (i : Int) (hi : 0 ≤ i ∧ i ≤ 100) (k : Nat) : ∀ (d : Nat) (j m : Int), j + d = i + (p.length : Int) * 43 + 1 → 0 ≤ j → spec_poInversions.l1 (k + d + 1) (p.length : Int) m i j p w = spec_poInversions.l0 k (p.length : Int) (invC p w i d j m) (i + 1) p w
  | 0, j, m, hj, h0 => by
    obtain ⟨f1, f2, f3, f4, f5, f6, f7⟩ := isTur_facts h
    simp only [spec_poInversions.l1, invC]
    rw [wrap_id (n := (p.length : Int) * 43) (by omega) (by omega), wrap_id (n := i + (p.length : Int) * 43) (by omega) (by omega), if_neg (by omega), wrap_id (by omega) (by omega)]
  | d + 1, j, m, hj, h0 => by
    obtain ⟨f1, f2, f3, f4, f5, f6, f7⟩ := isTur_facts h
    rw [show k + (d + 1) + 1 = (k + d + 1) + 1 from by omega]
    have IH := fun m' => inv_l1 p w h i hi k d (j + 1) m' (by omega) (by omega)
    generalize k + d + 1 = kk at IH ⊢
    simp only [spec_poInversions.l1, invC]
    rw [wrap_id (n := (p.length : Int) * 43) (by omega) (by omega), wrap_id (n := i + (p.length : Int) * 43) (by omega) (by omega), if_pos (by omega), (place_at p w h j (by omega)).1, (place_at p w h i (by omega)).1, Option.bind_some, Option.bind_some, wrap_id (n := j + 1) (by omega) (by omega)]
    by_cases hc : placeV p w j < placeV p w i
    · rw [if_pos hc, if_pos hc]
      exact IH _
    · rw [if_neg hc, if_neg hc]
      exact IH _
theorem inv_l0 (p w : List Int) (h : isTur p w = true) (k : Nat) : ∀ (d : Nat) (i m : Int), i + d = (p.length : Int) → 0 ≤ i → spec_poInversions.l0 (k + d * (p.length * 43 + 2) + 1) (p.length : Int) m i p w = some (invO p w (p.length * 43) d i m)
  | 0, i, m, hi, h0 => by
    simp only [spec_poInversions.l0, invO]
    rw [if_neg (by omega)]
  | d + 1, i, m, hi, h0 => by
    obtain ⟨f1, f2, f3, f4, f5, f6, f7⟩ := isTur_facts h
    have hx : (d + 1) * (p.length * 43 + 2) = d * (p.length * 43 + 2) + (p.length * 43 + 2) := Nat.succ_mul _ _
    rw [hx, show k + (d * (p.length * 43 + 2) + (p.length * 43 + 2)) + 1 = ((k + d * (p.length * 43 + 2) + 1) + p.length * 43 + 1) + 1 from by omega]
    have IH := fun m' => inv_l0 p w h k d (i + 1) m' (by omega) (by omega)
    generalize k + d * (p.length * 43 + 2) + 1 = kk at IH ⊢
    simp only [spec_poInversions.l0, invO]
    rw [if_pos (by omega), wrap_id (by omega) (by omega), inv_l1 p w h i (by omega) _ _ _ _ (by omega) (by omega)]
    exact IH _
/-- How many inversions there are. -/
def invV (p w : List Int) : Int := invO p w (p.length * 43) p.length 0 0
theorem poInversions (p w : List Int) (h : isTur p w = true) (k : Nat) (hk : 3000 ≤ k) : spec_poInversions.f k p w = some (invV p w) := by
  obtain ⟨f1, f2, f3, f4, f5, f6, f7⟩ := isTur_facts h
  unfold spec_poInversions.f invV
  have hx : p.length * (p.length * 43 + 2) ≤ 8 * (8 * 43 + 2) := Nat.mul_le_mul f3 (by omega)
  obtain ⟨k', rfl⟩ : ∃ k', k = k' + p.length * (p.length * 43 + 2) + 1 := ⟨k - p.length * (p.length * 43 + 2) - 1, by omega⟩
  exact inv_l0 p w h k' p.length 0 0 (by omega) (by omega)
theorem poleInversions (p w : List Int) (h : isTur p w = true) : impl_poleInversions.f p w = some (invV p w) := by
  obtain ⟨f1, f2, f3, f4, f5, f6, f7⟩ := isTur_facts h
  unfold impl_poleInversions.f invV
  rw [if_pos (by omega), inv_g0 p w h _ _ _ (by omega) (by omega), invO_same p w h _ _ _ (by omega) (by omega)]
end Go.Proofs.Ytgjamcfnpofbhaa.L
