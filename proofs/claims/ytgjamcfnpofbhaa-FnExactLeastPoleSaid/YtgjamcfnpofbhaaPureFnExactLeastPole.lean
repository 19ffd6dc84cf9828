/- FnExactLeastPole: for all arguments that fit into memory the law's plain form answers true. -/
import Derived.Test.YtgjamcfnpofbhaaLibPlace
import Derived.Test.YtgjamcfnpofbhaaQx22
import Derived.Test.YtgjamcfnpofbhaaLibResult
import Derived.Test.YtgjamcfnpofbhaaLibIsTurned
import Derived.Test.YtgjamcfnpofbhaaQx1
import Derived.Test.YtgjamcfnpofbhaaQx14
import Derived.Test.YtgjamcfnpofbhaaQx26
import Derived.Test.YtgjamcfnpofbhaaQx27
import Derived.Test.YtgjamcfnpofbhaaQx28
import Derived.Test.YtgjamcfnpofbhaaQx29
import Derived.Test.YtgjamcfnpofbhaaQx35
import Derived.Test.YtgjamcfnpofbhaaLibPole
import Derived.Test.YtgjamcfnpofbhaaLibTurned
import Derived.Test.YtgjamcfnpofbhaaLibA
import Derived.Test.YtgjamcfnpofbhaaQx36
/- Inversions of turned orders, as the program and the reference count them; for turned orders. -/
namespace Go.Proofs.Ytgjamcfnpofbhaa.L
open Go.RowKit Go.Proofs.Ytgjamcfnpofbhaa.Q Go.Proofs.YtgjamcfnpofbhaaW.PrintWords Go.Proofs.YtgjamcfnpofbhaaW.PrintLast
set_option linter.unusedVariables false
set_option linter.unusedSimpArgs false
/-- How many of the d numbers from j on have a lesser place than i, m more. -/
def invC (p w : List Int) (i : Int) : Nat → Int → Int → Int
  | 0, _, m => m
  | d + 1, j, m => invC p w i d (j + 1) (if placeV p w j < placeV p w i then wrap64 (m + 1) else m)
def invO (p w : List Int) (c : Nat) : Nat → Int → Int → Int
  | 0, _, m => m
  | d + 1, i, m => invO p w c d (i + 1) (invC p w i c (i + 1) m)
theorem invC_add (p w : List Int) (i : Int) : ∀ (d e : Nat) (j m : Int), invC p w i (d + e) j m = invC p w i e (j + d) (invC p w i d j m)
  | 0, e, j, m => by simp [invC]
  | d + 1, e, j, m => by
    rw [show d + 1 + e = (d + e) + 1 from by omega]
    simp only [invC]
    rw [invC_add p w i d e]
    congr 1
    omega
theorem invC_none (p w : List Int) (h : isTur p w = true) (i : Int) (hi : 0 ≤ i ∧ i ≤ 100) : ∀ (d : Nat) (j m : Int), i + 42 * (p.length : Int) ≤ j → j + d ≤ 100000 → invC p w i d j m = m
  | 0, _, _, _, _ => rfl
  | d + 1, j, m, hj, hd => by
    simp only [invC]
    have a := place_at p w h i (by omega)
    have b := place_at p w h j (by omega)
    rw [if_neg (by omega)]
    exact invC_none p w h i hi d (j + 1) m (by omega) (by omega)
theorem invC_same (p w : List Int) (h : isTur p w = true) (i m : Int) (hi : 0 ≤ i ∧ i ≤ 100) : invC p w i (p.length * 244) (i + 1) m = invC p w i (p.length * 43) (i + 1) m := by
  obtain ⟨f1, f2, f3, f4, f5, f6, f7⟩ := isTur_facts h
  rw [show p.length * 244 = p.length * 43 + p.length * 201 from by omega, invC_add]
  exact invC_none p w h i hi _ _ _ (by omega) (by omega)
theorem invO_same (p w : List Int) (h : isTur p w = true) : ∀ (d : Nat) (i m : Int), 0 ≤ i → i + d ≤ 100 → invO p w (p.length * 244) d i m = invO p w (p.length * 43) d i m
  | 0, _, _, _, _ => rfl
  | d + 1, i, m, hi, hd => by
    simp only [invO]
    rw [invC_same p w h i m (by omega)]
    exact invO_same p w h d (i + 1) _ (by omega) (by omega)
theorem inv_g1 (p w : List Int) (h : isTur p w = true) (i : Int) (hi : 0 ≤ i ∧ i ≤ 100) : ∀ (d : Nat) (j m : Int), 0 ≤ j → j + d ≤ 100000 → impl_poleInversions.g1 p w i d j m = some (invC p w i d j m)
  | 0, _, _, _, _ => rfl
  | d + 1, j, m, hj, hd => by
    simp only [impl_poleInversions.g1, invC]
    rw [place_same, place_same, (place_at p w h i (by omega)).1, (place_at p w h j (by omega)).1, Option.bind_some, Option.bind_some]
    exact inv_g1 p w h i hi d (j + 1) _ (by omega) (by omega)
theorem inv_g0 (p w : List Int) (h : isTur p w = true) : ∀ (d : Nat) (i m : Int), 0 ≤ i → i + d ≤ 100 → impl_poleInversions.g0 p w d i m = some (invO p w (p.length * 244) d i m)
  | 0, _, _, _, _ => rfl
  | d + 1, i, m, hi, hd => by
    obtain ⟨f1, f2, f3, f4, f5, f6, f7⟩ := isTur_facts h
    simp only [impl_poleInversions.g0, invO]
    rw [inv_g1 p w h i (by omega) _ _ _ (by omega) (by omega), Option.bind_some]
    exact inv_g0 p w h d (i + 1) _ (by omega) (by omega)
theorem inv_l1 (p w : List Int) (h : isTur p w = true) (i : Int) (hi : 0 ≤ i ∧ i ≤ 100) (k : Nat) : ∀ (d : Nat) (j m : Int), j + d = i + (p.length : Int) * 43 + 1 → 0 ≤ j → spec_poInversions.l1 (k + d + 1) (p.length : Int) m i j p w = spec_poInversions.l0 k (p.length : Int) (invC p w i d j m) (i + 1) p w
  | 0, j, m, hj, h0 => by
    obtain ⟨f1, f2, f3, f4, f5, f6, f7⟩ := isTur_facts h
    simp only [spec_poInversions.l1, invC]
    rw [wrap_id (n := (p.length : Int) * 43) (by omega) (by omega), wrap_id (n := i + (p.length : Int) * 43) (by omega) (by omega), if_neg (by omega), wrap_id (by omega) (by omega)]
  | d + 1, j, m, hj, h0 => by
    obtain ⟨f1, f2, f3, f4, f5, f6, f7⟩ := isTur_facts h
    rw [show k + (d + 1) + 1 = (k + d + 1) + 1 from by omega]
    have IH := fun m' => inv_l1 p w h i hi k d (j + 1) m' (by omega) (by omega)
    generalize k + d + 1 = kk at IH ⊢
    simp only [spec_poInversions.l1, invC]
    rw [wrap_id (n := (p.length : Int) * 43) (by omega) (by omega), wrap_id (n := i + (p.length : Int) * 43) (by omega) (by omega), if_pos (by omega), (place_at p w h j (by omega)).1, (place_at p w h i (by omega)).1, Option.bind_some, Option.bind_some, wrap_id (n := j + 1) (by omega) (by omega)]
    by_cases hc : placeV p w j < placeV p w i
    · rw [if_pos hc, if_pos hc]
      exact IH _
    · rw [if_neg hc, if_neg hc]
      exact IH _
theorem inv_l0 (p w : List Int) (h : isTur p w = true) (k : Nat) : ∀ (d : Nat) (i m : Int), i + d = (p.length : Int) → 0 ≤ i → spec_poInversions.l0 (k + d * (p.length * 43 + 2) + 1) (p.length : Int) m i p w = some (invO p w (p.length * 43) d i m)
  | 0, i, m, hi, h0 => by
    simp only [spec_poInversions.l0, invO]
    rw [if_neg (by omega)]
  | d + 1, i, m, hi, h0 => by
    obtain ⟨f1, f2, f3, f4, f5, f6, f7⟩ := isTur_facts h
    have hx : (d + 1) * (p.length * 43 + 2) = d * (p.length * 43 + 2) + (p.length * 43 + 2) := Nat.succ_mul _ _
    rw [hx, show k + (d * (p.length * 43 + 2) + (p.length * 43 + 2)) + 1 = ((k + d * (p.length * 43 + 2) + 1) + p.length * 43 + 1) + 1 from by omega]
    have IH := fun m' => inv_l0 p w h k d (i + 1) m' (by omega) (by omega)
    generalize k + d * (p.length * 43 + 2) + 1 = kk at IH ⊢
    simp only [spec_poInversions.l0, invO]
    rw [if_pos (by omega), wrap_id (by omega) (by omega), inv_l1 p w h i (by omega) _ _ _ _ (by omega) (by omega)]
    exact IH _
/-- How many inversions there are. -/
def invV (p w : List Int) : Int := invO p w (p.length * 43) p.length 0 0
theorem poInversions (p w : List Int) (h : isTur p w = true) (k : Nat) (hk : 3000 ≤ k) : spec_poInversions.f k p w = some (invV p w) := by
  obtain ⟨f1, f2, f3, f4, f5, f6, f7⟩ := isTur_facts h
  unfold spec_poInversions.f invV
  have hx : p.length * (p.length * 43 + 2) ≤ 8 * (8 * 43 + 2) := Nat.mul_le_mul f3 (by omega)
  obtain ⟨k', rfl⟩ : ∃ k', k = k' + p.length * (p.length * 43 + 2) + 1 := ⟨k - p.length * (p.length * 43 + 2) - 1, by omega⟩
  exact inv_l0 p w h k' p.length 0 0 (by omega) (by omega)
theorem poleInversions (p w : List Int) (h : isTur p w = true) : impl_poleInversions.f p w = some (invV p w) := by
  obtain ⟨f1, f2, f3, f4, f5, f6, f7⟩ := isTur_facts h
  unfold impl_poleInversions.f invV
  rw [if_pos (by omega), inv_g0 p w h _ _ _ (by omega) (by omega), invO_same p w h _ _ _ (by omega) (by omega)]
end Go.Proofs.Ytgjamcfnpofbhaa.L
/- LeastPole: the program's function and the reference's answer the same, for structs that fit into memory: a rung laid on top swaps two places, the inversions fall by one, so both end. -/
namespace Go.Proofs.Ytgjamcfnpofbhaa.L
open Go.RowKit Go.Proofs.Ytgjamcfnpofbhaa.Q Go.Proofs.YtgjamcfnpofbhaaW.PrintWords Go.Proofs.YtgjamcfnpofbhaaW.PrintLast
set_option linter.unusedVariables false
set_option linter.unusedSimpArgs false
theorem sum_set' : ∀ (l : List Int) (i : Nat) (v : Int), i < l.length → (l.set i v).sum = l.sum - l.getD i 0 + v
  | [], i, v, h => by simp at h
  | x :: l, 0, v, h => by simp; omega
  | x :: l, i + 1, v, h => by
    have := sum_set' l i v (by simpa using h)
    simp only [List.set_cons_succ, List.sum_cons, List.getD_cons_succ]
    omega
theorem getD_set' (l : List Int) (i j : Nat) (v : Int) (h : i < l.length) : (l.set i v).getD j 0 = if i = j then v else l.getD j 0 := by
  simp only [List.getD_eq_getElem?_getD, List.getElem?_set]
  by_cases e : i = j
  · subst e; simp [h]
  · simp [e]
def nx (n r : Nat) : Nat := if r + 1 = n then 0 else r + 1
def swp (l : List Int) (i j : Nat) : List Int := (l.set i (l.getD j 0)).set j (l.getD i 0)
def fixW (y : List Int) (r : Nat) : List Int := (y.set 0 (y.getD 0 0 - 1)).set r ((y.set 0 (y.getD 0 0 - 1)).getD r 0 + 1)
def topE (p : List Int) (r : Nat) : List Int := swp p r (nx p.length r)
def topW (w : List Int) (r : Nat) : List Int := if nx w.length r = 0 then fixW (swp w r (nx w.length r)) r else swp w r (nx w.length r)
theorem swp_length (l : List Int) (i j : Nat) : (swp l i j).length = l.length := by simp [swp]
theorem topE_length (l : List Int) (r : Nat) : (topE l r).length = l.length := by simp [topE, swp]
theorem topW_length (l : List Int) (r : Nat) : (topW l r).length = l.length := by unfold topW; split <;> simp [fixW, swp]
theorem nx_lt (n r : Nat) (hn : 3 ≤ n) (hr : r < n) : nx n r < n ∧ nx n r ≠ r := by unfold nx; split <;> omega
theorem swp_get (l : List Int) (i j k : Nat) (hi : i < l.length) (hj : j < l.length) : (swp l i j).getD k 0 = if j = k then l.getD i 0 else if i = k then l.getD j 0 else l.getD k 0 := by
  unfold swp
  rw [getD_set' _ _ _ _ (by simpa using hj), getD_set' _ _ _ _ hi]
theorem topE_get (p : List Int) (r k : Nat) (hn : 3 ≤ p.length) (hr : r < p.length) : (topE p r).getD k 0 = if nx p.length r = k then p.getD r 0 else if r = k then p.getD (nx p.length r) 0 else p.getD k 0 :=
  swp_get _ _ _ _ hr (nx_lt _ _ hn hr).1
theorem topW_get (w : List Int) (r k : Nat) (hn : 3 ≤ w.length) (hr : r < w.length) : (topW w r).getD k 0 = if nx w.length r = 0 then (if 0 = k then w.getD r 0 - 1 else if r = k then w.getD 0 0 + 1 else w.getD k 0) else (if nx w.length r = k then w.getD r 0 else if r = k then w.getD (nx w.length r) 0 else w.getD k 0) := by
  obtain ⟨h1, h2⟩ := nx_lt w.length r hn hr
  unfold topW
  by_cases h : nx w.length r = 0
  · rw [if_pos h, if_pos h]
    unfold fixW
    rw [getD_set' _ _ _ _ (by simp [swp]; omega), getD_set' _ _ _ _ (by simp [swp]; omega), getD_set' _ _ _ _ (by simp [swp]; omega), swp_get _ _ _ _ hr h1, swp_get _ _ _ _ hr h1, swp_get _ _ _ _ hr h1, h]
    rw [if_pos rfl, if_neg (show ¬ 0 = r by omega), if_neg (show ¬ 0 = r by omega), if_pos rfl]
    by_cases k0 : 0 = k
    · subst k0; rw [if_neg (by omega), if_pos rfl, if_pos rfl]
    · rw [if_neg k0, if_neg k0]
      by_cases kr : r = k
      · rw [if_pos kr, if_pos kr, if_neg k0]
      · rw [if_neg kr, if_neg kr, if_neg k0, if_neg kr]
  · rw [if_neg h, if_neg h, swp_get _ _ _ _ hr h1]
theorem fix_rd (l : List Int) (i : Nat) : rd l (i : Int) = l.getD i 0 := by simp [rd]
theorem own (l : List Int) (h : l.length ≤ 8) : spec_l1Own.f l = some l := by
  unfold spec_l1Own.f
  rw [Option.bind_some, if_pos (by simp; omega)]; rfl
theorem nx_mod (n r : Nat) (hn : 3 ≤ n ∧ n ≤ 8) (hr : r < n) : Int.tmod (wrap64 ((r : Int) + 1)) (n : Int) = ((nx n r : Nat) : Int) := by
  rw [wrap_id (by omega) (by omega), Int.tmod_eq_emod_of_nonneg (by omega)]
  unfold nx
  by_cases h : r + 1 = n
  · rw [if_pos h, show (r : Int) + 1 = (n : Int) by omega, Int.emod_self]; rfl
  · rw [if_neg h, Int.emod_eq_of_lt (by omega) (by omega)]; rfl
theorem wget (w : List Int) (hw : ∀ x ∈ w, (-20 : Int) ≤ x ∧ x ≤ 20) (k : Nat) : -20 ≤ w.getD k 0 ∧ w.getD k 0 ≤ 20 := by
  by_cases h : k < w.length
  · rw [List.getD_eq_getElem?_getD, List.getElem?_eq_getElem h]; exact hw _ (List.getElem_mem h)
  · rw [List.getD_eq_getElem?_getD, List.getElem?_eq_none (by omega)]; simp
theorem poTop_at (p w : List Int) (h : isTur p w = true) (r : Nat) (hr : r < p.length) : spec_poTop.f p w (r : Int) = some (topE p r, topW w r) := by
  obtain ⟨f1, f2, f3, f4, f5, f6, f7⟩ := isTur_facts h
  obtain ⟨h1, h2⟩ := nx_lt p.length r f2 hr
  unfold spec_poTop.f
  rw [own p f3, Option.bind_some, own w (by omega), Option.bind_some, nx_mod p.length r ⟨f2, f3⟩ hr]
  rw [if_neg (by omega), if_pos (by omega), if_pos (by omega), if_pos (by omega), if_pos (by omega), if_pos (by omega), if_pos (by omega), Option.bind_some, if_pos (by omega), if_pos (by omega), if_pos (by omega), if_pos (by omega), Option.bind_some]
  simp only [Int.toNat_natCast, fix_rd]
  unfold topE topW
  rw [f4]
  by_cases hz : nx p.length r = 0
  · rw [if_pos (by omega), if_pos hz, if_pos (by omega), Option.bind_some]
    have g0 := wget w f6 r
    have g1 := wget w f6 (nx p.length r)
    have e0 : rd ((w.set r (w.getD (nx p.length r) 0)).set (nx p.length r) (w.getD r 0)) 0 = (swp w r (nx p.length r)).getD 0 0 := rfl
    have e1 : (swp w r (nx p.length r)).getD 0 0 = w.getD r 0 := by rw [swp_get _ _ _ _ (by omega) (by omega), if_pos hz]
    have e2 : ((swp w r (nx p.length r)).set 0 (w.getD r 0 - 1)).getD r 0 = w.getD (nx p.length r) 0 := by
      rw [getD_set' _ _ _ _ (by rw [swp_length]; omega), if_neg (by omega), swp_get _ _ _ _ (by omega) (by omega), if_neg (by omega), if_pos rfl]
    rw [e0, e1, wrap_id (n := w.getD r 0 - 1) (by omega) (by omega)]
    rw [show (w.set r (w.getD (nx p.length r) 0)).set (nx p.length r) (w.getD r 0) = swp w r (nx p.length r) from rfl, show Int.toNat 0 = 0 from rfl, e2, wrap_id (by omega) (by omega)]
    unfold fixW
    rw [e1, e2]
    rfl
  · rw [if_neg (by omega), if_neg hz]
    rfl
/-- The number that stands at j after the swap. -/
def sw (n r : Nat) (j : Int) : Int := if j % (n : Int) = (r : Int) then j + 1 else if j % (n : Int) = ((nx n r : Nat) : Int) then j - 1 else j
theorem nm (n : Nat) (hn : 3 ≤ n ∧ n ≤ 8) (j : Int) : 0 ≤ j % (n : Int) ∧ j % (n : Int) < n := ⟨Int.emod_nonneg _ (by omega), Int.emod_lt_of_pos _ (by omega)⟩
theorem mod_succ (n : Nat) (hn : 3 ≤ n ∧ n ≤ 8) (j : Int) : (j + 1) % (n : Int) = if j % (n : Int) + 1 = n then 0 else j % (n : Int) + 1 := by
  have hc : n = 3 ∨ n = 4 ∨ n = 5 ∨ n = 6 ∨ n = 7 ∨ n = 8 := by omega
  rcases hc with rfl | rfl | rfl | rfl | rfl | rfl <;> split <;> omega
theorem mod_pred (n : Nat) (hn : 3 ≤ n ∧ n ≤ 8) (j : Int) : (j - 1) % (n : Int) = if j % (n : Int) = 0 then (n : Int) - 1 else j % (n : Int) - 1 := by
  have hc : n = 3 ∨ n = 4 ∨ n = 5 ∨ n = 6 ∨ n = 7 ∨ n = 8 := by omega
  rcases hc with rfl | rfl | rfl | rfl | rfl | rfl <;> split <;> omega
theorem place_top (p w : List Int) (h : isTur p w = true) (r : Nat) (hr : r < p.length) (j : Int) : placeV (topE p r) (topW w r) j = placeV p w (sw p.length r j) := by
  obtain ⟨f1, f2, f3, f4, f5, f6, f7⟩ := isTur_facts h
  obtain ⟨h1, h2⟩ := nx_lt p.length r f2 hr
  obtain ⟨m0, m1⟩ := nm p.length ⟨f2, f3⟩ j
  obtain ⟨m, hm⟩ : ∃ m : Nat, j % (p.length : Int) = m := ⟨(j % (p.length : Int)).toNat, by omega⟩
  have ms := mod_succ p.length ⟨f2, f3⟩ j
  have mp := mod_pred p.length ⟨f2, f3⟩ j
  unfold placeV
  rw [topE_length, hm, fix_rd, fix_rd, topE_get p r m f2 hr, topW_get w r m (by omega) (by omega), f4]
  unfold sw
  rw [hm]
  by_cases c1 : m = r
  · subst c1
    rw [if_pos rfl, if_neg h2]
    by_cases c2 : m + 1 = p.length
    · have e : nx p.length m = 0 := by unfold nx; rw [if_pos c2]
      rw [e, if_pos rfl, if_pos rfl, if_neg (by omega), if_pos rfl]
      rw [show (j + 1) % (p.length : Int) = ((0 : Nat) : Int) by rw [ms, hm, if_pos (by omega)]; rfl, fix_rd, fix_rd, Int.mul_add]
      omega
    · have e : nx p.length m = m + 1 := by unfold nx; rw [if_neg c2]
      rw [e, if_pos rfl, if_neg (by omega), if_neg (by omega), if_pos rfl, if_pos rfl]
      rw [show (j + 1) % (p.length : Int) = ((m + 1 : Nat) : Int) by rw [ms, hm, if_neg (by omega)]; rfl, fix_rd, fix_rd]
      omega
  · rw [if_neg (show ¬ (m : Int) = (r : Int) by omega), if_neg (show ¬ r = m by omega)]
    by_cases c3 : nx p.length r = m
    · rw [if_pos c3, if_pos (show (m : Int) = ((nx p.length r : Nat) : Int) by omega)]
      by_cases c2 : r + 1 = p.length
      · have e : nx p.length r = 0 := by unfold nx; rw [if_pos c2]
        rw [if_pos e, if_pos (by omega)]
        rw [show (j - 1) % (p.length : Int) = ((r : Nat) : Int) by rw [mp, hm, if_pos (by omega)]; omega, fix_rd, fix_rd, Int.mul_sub]
        omega
      · have e : nx p.length r = r + 1 := by unfold nx; rw [if_neg c2]
        rw [if_neg (by omega), if_pos c3]
        rw [show (j - 1) % (p.length : Int) = ((r : Nat) : Int) by rw [mp, hm, if_neg (by omega)]; omega, fix_rd, fix_rd]
        omega
    · rw [if_neg c3, if_neg (show ¬ (m : Int) = ((nx p.length r : Nat) : Int) by omega), hm, fix_rd, fix_rd]
      by_cases e : nx p.length r = 0
      · rw [if_pos e, if_neg (by omega), if_neg (by omega)]
      · rw [if_neg e, if_neg c3, if_neg (by omega)]
theorem ordGo_iff (n : Int) : ∀ (l seen : List Int), ordGo n seen l = true ↔ (∀ x ∈ l, 0 ≤ x ∧ x ≤ n - 1) ∧ l.Nodup ∧ ∀ x ∈ l, x ∉ seen
  | [], seen => by simp [ordGo]
  | x :: l, seen => by
    rw [ordGo]
    simp only [Bool.and_eq_true, decide_eq_true_eq, Bool.not_eq_true', decide_eq_false_iff_not, ordGo_iff n l (seen ++ [x]), List.mem_cons, List.nodup_cons, List.mem_append, List.mem_singleton]
    constructor
    · rintro ⟨⟨h1, h2⟩, h3, h4, h5⟩
      refine ⟨?_, ⟨fun hx => h5 x hx (Or.inr (Or.inl rfl)), h4⟩, ?_⟩
      · rintro y (rfl | hy)
        · exact h1
        · exact h3 y hy
      · rintro y (rfl | hy)
        · exact h2
        · exact fun hs => h5 y hy (Or.inl hs)
    · rintro ⟨h1, ⟨h2, h3⟩, h4⟩
      refine ⟨⟨h1 x (Or.inl rfl), h4 x (Or.inl rfl)⟩, fun y hy => h1 y (Or.inr hy), h3, ?_⟩
      rintro y hy (hs | rfl | hs)
      · exact h4 y (Or.inr hy) hs
      · exact h2 hy
      · cases hs
theorem swp_perm (l : List Int) (i j : Nat) (hi : i < l.length) (hj : j < l.length) : (swp l i j).Perm l := by
  unfold swp
  rw [List.getD_eq_getElem?_getD, List.getElem?_eq_getElem hj, List.getD_eq_getElem?_getD, List.getElem?_eq_getElem hi]
  exact List.set_set_perm hi hj
theorem topE_ord (p : List Int) (h : isOrd p = true) (hn : 3 ≤ p.length) (r : Nat) (hr : r < p.length) : isOrd (topE p r) = true := by
  have hp := swp_perm p r (nx p.length r) hr (nx_lt _ _ hn hr).1
  unfold isOrd at h ⊢
  rw [topE_length]
  simp only [Bool.and_eq_true, decide_eq_true_eq] at h ⊢
  refine ⟨h.1, ?_⟩
  rw [ordGo_iff] at h ⊢
  obtain ⟨_, h1, h2, h3⟩ := h
  exact ⟨fun x hx => h1 x (hp.mem_iff.1 hx), hp.nodup_iff.2 h2, by simp⟩
theorem isTur_mk {p w : List Int} (h1 : isOrd p = true) (h2 : 3 ≤ p.length) (h3 : w.length = p.length) (h4 : ∀ x ∈ w, (-20 : Int) ≤ x ∧ x ≤ 20) (h5 : w.sum = 0) : isTur p w = true := by
  unfold isTur
  simp only [Bool.and_eq_true, decide_eq_true_eq, List.all_eq_true]
  exact ⟨⟨⟨⟨h1, h2⟩, h3⟩, h4⟩, h5⟩
theorem pget (p : List Int) (hw : ∀ x ∈ p, 0 ≤ x ∧ x ≤ (p.length : Int) - 1) (k : Nat) (hk : k < p.length) : 0 ≤ p.getD k 0 ∧ p.getD k 0 ≤ (p.length : Int) - 1 := by
  rw [List.getD_eq_getElem?_getD, List.getElem?_eq_getElem hk]; exact hw _ (List.getElem_mem hk)
theorem topW_sum (w : List Int) (r : Nat) (hn : 3 ≤ w.length) (hr : r < w.length) : (topW w r).sum = w.sum := by
  obtain ⟨h1, h2⟩ := nx_lt w.length r hn hr
  have hs : (swp w r (nx w.length r)).sum = w.sum := by
    unfold swp
    rw [sum_set' _ _ _ (by simpa using h1), sum_set' _ _ _ hr, getD_set' _ _ _ _ hr, if_neg (by omega)]
    omega
  unfold topW
  by_cases h : nx w.length r = 0
  · rw [if_pos h]
    unfold fixW
    rw [sum_set' _ _ _ (by simp [swp]; omega), sum_set' _ _ _ (by simp [swp]; omega), hs]
    omega
  · rw [if_neg h, hs]
theorem top_tur (p w : List Int) (h : isTur p w = true) (r : Nat) (hr : r < p.length) (hd : placeV p w ((r : Int) + 1) < placeV p w (r : Int)) : isTur (topE p r) (topW w r) = true := by
  obtain ⟨f1, f2, f3, f4, f5, f6, f7⟩ := isTur_facts h
  obtain ⟨h1, h2⟩ := nx_lt p.length r f2 hr
  refine isTur_mk (topE_ord p f1 f2 r hr) (by rw [topE_length]; exact f2) (by rw [topE_length, topW_length, f4]) ?_ (by rw [topW_sum w r (by omega) (by omega), f7])
  have key : ∀ k, -20 ≤ (topW w r).getD k 0 ∧ (topW w r).getD k 0 ≤ 20 := by
    intro k
    rw [topW_get w r k (by omega) (by omega), f4]
    have a := wget w f6 r
    have b := wget w f6 k
    have c := wget w f6 (nx p.length r)
    have d := wget w f6 0
    by_cases e : nx p.length r = 0
    · rw [if_pos e]
      have hrn : r + 1 = p.length := by unfold nx at e; split at e <;> omega
      have em : ((r : Int) + 1) % (p.length : Int) = ((0 : Nat) : Int) := by rw [show (r : Int) + 1 = (p.length : Int) by omega, Int.emod_self]; rfl
      have em2 : ((r : Int)) % (p.length : Int) = ((r : Nat) : Int) := Int.emod_eq_of_lt (by omega) (by omega)
      unfold placeV at hd
      rw [em, em2, fix_rd, fix_rd, fix_rd, fix_rd] at hd
      have q1 := pget p f5 r hr
      have q2 := pget p f5 0 (by omega)
      have hw0 : w.getD 0 0 + 1 ≤ w.getD r 0 := by
        have hc : p.length = 3 ∨ p.length = 4 ∨ p.length = 5 ∨ p.length = 6 ∨ p.length = 7 ∨ p.length = 8 := by omega
        rcases hc with hc | hc | hc | hc | hc | hc <;> rw [hc] at hd q1 q2 hrn <;> omega
      split
      · omega
      · split <;> omega
    · rw [if_neg e]
      split
      · exact a
      · split
        · exact c
        · exact b
  intro x hx
  obtain ⟨k, hk, rfl⟩ := List.mem_iff_getElem.1 hx
  have := key k
  rwa [List.getD_eq_getElem?_getD, List.getElem?_eq_getElem hk] at this
/-- How many of d numbers from j on have a place below v. -/
def cn (F : Int → Int) (v : Int) : Nat → Int → Int
  | 0, _ => 0
  | d + 1, j => (if F j < v then 1 else 0) + cn F v d (j + 1)
theorem cn_snoc (F : Int → Int) (v : Int) : ∀ (d : Nat) (j : Int), cn F v (d + 1) j = cn F v d j + (if F (j + d) < v then 1 else 0)
  | 0, j => by simp [cn]
  | d + 1, j => by
    rw [cn, cn_snoc F v d (j + 1), cn]
    rw [show j + 1 + (d : Int) = j + ((d + 1 : Nat) : Int) by omega]
    omega
theorem cn_range (F : Int → Int) (v : Int) : ∀ (d : Nat) (j : Int), 0 ≤ cn F v d j ∧ cn F v d j ≤ d
  | 0, j => by simp [cn]
  | d + 1, j => by
    have := cn_range F v d (j + 1)
    rw [cn]
    split <;> omega
theorem cn_shift (F : Int → Int) (v t : Int) (hF : ∀ j, F (j + t) = F j + t) : ∀ (d : Nat) (j : Int), cn F (v + t) d (j + t) = cn F v d j
  | 0, _ => rfl
  | d + 1, j => by
    rw [cn, cn, hF, show j + t + 1 = j + 1 + t by omega, cn_shift F v t hF d (j + 1)]
    congr 1
    by_cases h : F j < v
    · rw [if_pos h, if_pos (by omega)]
    · rw [if_neg h, if_neg (by omega)]
theorem cn_sw (F : Int → Int) (v : Int) (n r : Nat) (hn : 3 ≤ n ∧ n ≤ 8) (hr : r < n) : ∀ (m d : Nat) (a : Int), d ≤ m → (a - 1) % (n : Int) ≠ (r : Int) → (a + d - 1) % (n : Int) ≠ (r : Int) → cn (fun j => F (sw n r j)) v d a = cn F v d a
  | m, 0, a, _, _, _ => rfl
  | 0, d + 1, a, h, _, _ => by omega
  | m + 1, d + 1, a, h, h1, h2 => by
    obtain ⟨k1, k2⟩ := nx_lt n r hn.1 hr
    have ms := mod_succ n hn (a - 1)
    rw [show a - 1 + 1 = a by omega] at ms
    obtain ⟨m0, m1⟩ := nm n hn (a - 1)
    by_cases c : a % (n : Int) = (r : Int)
    · cases d with
      | zero => exact absurd c (by rw [show a = a + ((0 + 1 : Nat) : Int) - 1 by omega]; exact h2)
      | succ d =>
        have ms2 := mod_succ n hn a
        have e1 : (a + 1) % (n : Int) = ((nx n r : Nat) : Int) := by
          rw [ms2, c]; unfold nx; split <;> split <;> omega
        have ih := cn_sw F v n r hn hr m d (a + 1 + 1) (by omega) (by rw [show a + 1 + 1 - 1 = a + 1 by omega, e1]; omega) (by rw [show a + 1 + 1 + (d : Int) - 1 = a + ((d + 1 + 1 : Nat) : Int) - 1 by omega]; exact h2)
        rw [cn, cn, cn, cn, ih]
        have s1 : sw n r a = a + 1 := by unfold sw; rw [if_pos c]
        have s2 : sw n r (a + 1) = a := by unfold sw; rw [if_neg (by omega), if_pos e1]; omega
        rw [s1, s2]
        omega
    · have c2 : a % (n : Int) ≠ ((nx n r : Nat) : Int) := by
        intro e
        apply h1
        rw [e] at ms
        unfold nx at ms k2
        split at ms <;> split at ms <;> omega
      have ih := cn_sw F v n r hn hr m d (a + 1) (by omega) (by rw [show a + 1 - 1 = a by omega]; exact c) (by rw [show a + 1 + (d : Int) - 1 = a + ((d + 1 : Nat) : Int) - 1 by omega]; exact h2)
      rw [cn, cn, ih]
      have s1 : sw n r a = a := by unfold sw; rw [if_neg c, if_neg c2]
      rw [s1]
def sm (g : Nat → Int) : Nat → Nat → Int
  | 0, _ => 0
  | d + 1, i => g i + sm g d (i + 1)
theorem sm_swap (n r : Nat) (hn : 3 ≤ n ∧ n ≤ 8) (hr : r < n) (g g' : Nat → Int) (H : ∀ i, i < n → g' i = if i = r then g (nx n r) else if i = nx n r then g r - 1 else g i) : sm g' n 0 = sm g n 0 - 1 := by
  have hc : n = 3 ∨ n = 4 ∨ n = 5 ∨ n = 6 ∨ n = 7 ∨ n = 8 := by omega
  rcases hc with rfl | rfl | rfl | rfl | rfl | rfl
  · simp only [sm, Nat.zero_add, Nat.reduceAdd]
    rw [H 0 (by decide), H 1 (by decide), H 2 (by decide)]
    have hc : r = 0 ∨ r = 1 ∨ r = 2 := by omega
    rcases hc with rfl | rfl | rfl <;> simp [nx] <;> omega
  · simp only [sm, Nat.zero_add, Nat.reduceAdd]
    rw [H 0 (by decide), H 1 (by decide), H 2 (by decide), H 3 (by decide)]
    have hc : r = 0 ∨ r = 1 ∨ r = 2 ∨ r = 3 := by omega
    rcases hc with rfl | rfl | rfl | rfl <;> simp [nx] <;> omega
  · simp only [sm, Nat.zero_add, Nat.reduceAdd]
    rw [H 0 (by decide), H 1 (by decide), H 2 (by decide), H 3 (by decide), H 4 (by decide)]
    have hc : r = 0 ∨ r = 1 ∨ r = 2 ∨ r = 3 ∨ r = 4 := by omega
    rcases hc with rfl | rfl | rfl | rfl | rfl <;> simp [nx] <;> omega
  · simp only [sm, Nat.zero_add, Nat.reduceAdd]
    rw [H 0 (by decide), H 1 (by decide), H 2 (by decide), H 3 (by decide), H 4 (by decide), H 5 (by decide)]
    have hc : r = 0 ∨ r = 1 ∨ r = 2 ∨ r = 3 ∨ r = 4 ∨ r = 5 := by omega
    rcases hc with rfl | rfl | rfl | rfl | rfl | rfl <;> simp [nx] <;> omega
  · simp only [sm, Nat.zero_add, Nat.reduceAdd]
    rw [H 0 (by decide), H 1 (by decide), H 2 (by decide), H 3 (by decide), H 4 (by decide), H 5 (by decide), H 6 (by decide)]
    have hc : r = 0 ∨ r = 1 ∨ r = 2 ∨ r = 3 ∨ r = 4 ∨ r = 5 ∨ r = 6 := by omega
    rcases hc with rfl | rfl | rfl | rfl | rfl | rfl | rfl <;> simp [nx] <;> omega
  · simp only [sm, Nat.zero_add, Nat.reduceAdd]
    rw [H 0 (by decide), H 1 (by decide), H 2 (by decide), H 3 (by decide), H 4 (by decide), H 5 (by decide), H 6 (by decide), H 7 (by decide)]
    have hc : r = 0 ∨ r = 1 ∨ r = 2 ∨ r = 3 ∨ r = 4 ∨ r = 5 ∨ r = 6 ∨ r = 7 := by omega
    rcases hc with rfl | rfl | rfl | rfl | rfl | rfl | rfl | rfl <;> simp [nx] <;> omega
theorem invC_cn (p w : List Int) (i : Int) : ∀ (d : Nat) (j m : Int), 0 ≤ m → m + d ≤ 1000000 → invC p w i d j m = m + cn (placeV p w) (placeV p w i) d j
  | 0, j, m, _, _ => by simp [invC, cn]
  | d + 1, j, m, h1, h2 => by
    rw [invC, cn]
    by_cases c : placeV p w j < placeV p w i
    · rw [if_pos c, if_pos c, wrap_id (by omega) (by omega), invC_cn p w i d (j + 1) (m + 1) (by omega) (by omega)]; omega
    · rw [if_neg c, if_neg c, invC_cn p w i d (j + 1) m (by omega) (by omega)]; omega
/-- The inversions at i. -/
def cI (F : Int → Int) (M : Nat) (i : Nat) : Int := cn F (F (i : Int)) M ((i : Int) + 1)
theorem invO_sm (p w : List Int) (M : Nat) (hM : M ≤ 1000) : ∀ (d i : Nat) (m : Int), 0 ≤ m → m + d * 1000 ≤ 100000 → invO p w M d (i : Int) m = m + sm (cI (placeV p w) M) d i
  | 0, i, m, _, _ => by simp [invO, sm]
  | d + 1, i, m, h1, h2 => by
    have hr := cn_range (placeV p w) (placeV p w (i : Int)) M ((i : Int) + 1)
    rw [invO, sm, invC_cn p w i M _ m h1 (by omega)]
    rw [show (i : Int) + 1 = ((i + 1 : Nat) : Int) by omega] at hr ⊢
    rw [invO_sm p w M hM d (i + 1) _ (by omega) (by omega)]
    unfold cI
    rw [show ((i + 1 : Nat) : Int) = (i : Int) + 1 by omega]
    omega
theorem inv_sm (p w : List Int) (h : isTur p w = true) : invV p w = sm (cI (placeV p w) (p.length * 43)) p.length 0 := by
  obtain ⟨f1, f2, f3, f4, f5, f6, f7⟩ := isTur_facts h
  unfold invV
  have := invO_sm p w (p.length * 43) (by omega) p.length 0 0 (by omega) (by omega)
  rw [show ((0 : Nat) : Int) = 0 from rfl] at this
  rw [this]; omega
theorem place_shift (p w : List Int) (j : Int) : placeV p w (j + (p.length : Int)) = placeV p w j + (p.length : Int) := by
  unfold placeV
  rw [Int.add_emod_right]; omega
theorem inv_top (p w : List Int) (h : isTur p w = true) (r : Nat) (hr : r < p.length) (hd : placeV p w ((r : Int) + 1) < placeV p w (r : Int)) : invV (topE p r) (topW w r) = invV p w - 1 := by
  obtain ⟨f1, f2, f3, f4, f5, f6, f7⟩ := isTur_facts h
  obtain ⟨h1, h2⟩ := nx_lt p.length r f2 hr
  rw [inv_sm p w h, inv_sm _ _ (top_tur p w h r hr hd), topE_length, show placeV (topE p r) (topW w r) = fun j => placeV p w (sw p.length r j) from funext fun j => place_top p w h r hr j]
  refine sm_swap p.length r ⟨f2, f3⟩ hr _ _ fun i hi => ?_
  have hb : ∀ j : Int, -100 ≤ j → j ≤ 100000 → j - 21 * (p.length : Int) < placeV p w j ∧ placeV p w j < j + 21 * (p.length : Int) := fun j a b => (place_at p w h j (by omega)).2
  have hsh := place_shift p w
  have hM : ∀ x : Int, (x + ((p.length * 43 : Nat) : Int)) % (p.length : Int) = x % (p.length : Int) := fun x => by
    rw [Int.natCast_mul, Int.add_mul_emod_self_left]
  have hsmall : ∀ x : Nat, x < p.length → (x : Int) % (p.length : Int) = (x : Int) := fun x hx => Int.emod_eq_of_lt (by omega) (by omega)
  have hmr : ((r : Int) + 1) % (p.length : Int) = ((nx p.length r : Nat) : Int) := by
    rw [mod_succ p.length ⟨f2, f3⟩, hsmall r hr]; unfold nx; split <;> split <;> omega
  have hswn : ∀ x : Int, x % (p.length : Int) = ((nx p.length r : Nat) : Int) → sw p.length r x = x - 1 := fun x hx => by
    unfold sw; rw [if_neg (by omega), if_pos hx]
  have hswr : ∀ x : Int, x % (p.length : Int) = (r : Int) → sw p.length r x = x + 1 := fun x hx => by
    unfold sw; rw [if_pos hx]
  obtain ⟨M', hM'⟩ : ∃ M', p.length * 43 = M' + 1 := ⟨p.length * 43 - 1, by omega⟩
  have per : cI (placeV p w) (p.length * 43) p.length = cI (placeV p w) (p.length * 43) 0 := by
    unfold cI
    have a := cn_shift (placeV p w) (placeV p w 0) (p.length : Int) hsh (p.length * 43) 1
    have b := hsh 0
    rw [Int.zero_add] at b
    rw [← b, show (1 : Int) + (p.length : Int) = (p.length : Int) + 1 by omega] at a
    rw [a]; rfl
  by_cases c1 : i = r
  · rw [if_pos c1]
    subst c1
    have e0 : cI (placeV p w) (p.length * 43) (nx p.length i) = cn (placeV p w) (placeV p w ((i : Int) + 1)) (p.length * 43) ((i : Int) + 1 + 1) := by
      by_cases q : i + 1 = p.length
      · have e : nx p.length i = 0 := by unfold nx; rw [if_pos q]
        rw [e, ← per]; unfold cI
        rw [show (p.length : Int) = (i : Int) + 1 by omega]
      · have e : nx p.length i = i + 1 := by unfold nx; rw [if_neg q]
        rw [e]; rfl
    rw [e0]
    unfold cI
    show cn (fun j => placeV p w (sw p.length i j)) (placeV p w (sw p.length i (i : Int))) (p.length * 43) ((i : Int) + 1) = _
    rw [hswr (i : Int) (hsmall i hr)]
    have s1 := cn_sw (placeV p w) (placeV p w ((i : Int) + 1)) p.length i ⟨f2, f3⟩ hr (p.length * 43) (p.length * 43) ((i : Int) + 1 + 1) (Nat.le_refl _) (by rw [show (i : Int) + 1 + 1 - 1 = (i : Int) + 1 by omega, hmr]; omega) (by rw [show (i : Int) + 1 + 1 + ((p.length * 43 : Nat) : Int) - 1 = (i : Int) + 1 + ((p.length * 43 : Nat) : Int) by omega, hM, hmr]; omega)
    rw [← s1]
    have s2 := hswn ((i : Int) + 1) hmr
    have s3 := hswn ((i : Int) + 1 + ((p.length * 43 : Nat) : Int)) (by rw [hM, hmr])
    have b1 := hb ((i : Int) + 1) (by omega) (by omega)
    have b2 := hb ((i : Int) + 1 + ((p.length * 43 : Nat) : Int) - 1) (by omega) (by omega)
    rw [hM'] at s3 b2 ⊢
    rw [cn, cn_snoc]
    rw [show (i : Int) + 1 + 1 + (M' : Int) = (i : Int) + 1 + ((M' + 1 : Nat) : Int) by omega, s2, s3, if_neg (by rw [show (i : Int) + 1 - 1 = (i : Int) by omega]; omega), if_neg (by omega)]
    omega
  · rw [if_neg c1]
    by_cases c2 : i = nx p.length r
    · rw [if_pos c2]
      have hi2 : (i : Int) % (p.length : Int) = ((nx p.length r : Nat) : Int) := by rw [hsmall i hi, c2]
      have e0 : cI (placeV p w) (p.length * 43) r = cn (placeV p w) (placeV p w ((i : Int) - 1)) (p.length * 43) (i : Int) ∧ placeV p w (i : Int) < placeV p w ((i : Int) - 1) := by
        by_cases q : r + 1 = p.length
        · have e : nx p.length r = 0 := by unfold nx; rw [if_pos q]
          have b := hsh (-1)
          have b0 := hsh 0
          have a := cn_shift (placeV p w) (placeV p w (-1)) (p.length : Int) hsh (p.length * 43) 0
          have er : (-1 : Int) + (p.length : Int) = (r : Int) := by omega
          rw [er] at b
          rw [Int.zero_add] at b0 a
          rw [c2, e]
          refine ⟨?_, ?_⟩
          · unfold cI
            rw [show (r : Int) + 1 = (p.length : Int) by omega, b, a]; rfl
          · rw [show (r : Int) + 1 = (p.length : Int) by omega, b0, b] at hd
            rw [show (((0 : Nat) : Int) - 1) = -1 from rfl, show ((0 : Nat) : Int) = 0 from rfl]
            omega
        · have e : nx p.length r = r + 1 := by unfold nx; rw [if_neg q]
          rw [c2, e]
          refine ⟨?_, ?_⟩
          · unfold cI
            rw [show ((r + 1 : Nat) : Int) - 1 = (r : Int) by omega, show ((r + 1 : Nat) : Int) = (r : Int) + 1 by omega]
          · rw [show ((r + 1 : Nat) : Int) - 1 = (r : Int) by omega, show ((r + 1 : Nat) : Int) = (r : Int) + 1 by omega]; exact hd
      rw [e0.1]
      unfold cI
      show cn (fun j => placeV p w (sw p.length r j)) (placeV p w (sw p.length r (i : Int))) (p.length * 43) ((i : Int) + 1) = _
      rw [hswn (i : Int) hi2]
      rw [cn_sw (placeV p w) (placeV p w ((i : Int) - 1)) p.length r ⟨f2, f3⟩ hr (p.length * 43) (p.length * 43) ((i : Int) + 1) (Nat.le_refl _) (by rw [show (i : Int) + 1 - 1 = (i : Int) by omega, hi2]; omega) (by rw [show (i : Int) + 1 + ((p.length * 43 : Nat) : Int) - 1 = (i : Int) + ((p.length * 43 : Nat) : Int) by omega, hM, hi2]; omega)]
      have b1 := hb ((i : Int) - 1) (by omega) (by omega)
      have b2 := hb ((i : Int) + ((p.length * 43 : Nat) : Int)) (by omega) (by omega)
      rw [hM'] at b2 ⊢
      rw [cn_snoc, cn, if_pos e0.2, show (i : Int) + 1 + (M' : Int) = (i : Int) + ((M' + 1 : Nat) : Int) by omega, if_neg (by omega)]
      omega
    · rw [if_neg c2]
      unfold cI
      have s : sw p.length r (i : Int) = (i : Int) := by unfold sw; rw [hsmall i hi, if_neg (by omega), if_neg (by omega)]
      show cn (fun j => placeV p w (sw p.length r j)) (placeV p w (sw p.length r (i : Int))) (p.length * 43) ((i : Int) + 1) = _
      rw [s]
      exact cn_sw (placeV p w) _ p.length r ⟨f2, f3⟩ hr (p.length * 43) (p.length * 43) ((i : Int) + 1) (Nat.le_refl _) (by rw [show (i : Int) + 1 - 1 = (i : Int) by omega, hsmall i hi]; omega) (by rw [show (i : Int) + 1 + ((p.length * 43 : Nat) : Int) - 1 = (i : Int) + ((p.length * 43 : Nat) : Int) by omega, hM, hsmall i hi]; omega)
/-- The descents among d numbers from i on. -/
def desc (p w : List Int) : Nat → Int → List Int → List Int
  | 0, _, acc => acc
  | d + 1, i, acc => desc p w d (i + 1) (if placeV p w (i + 1) < placeV p w i then acc ++ [i] else acc)
theorem desc_g (p w : List Int) (h : isTur p w = true) : ∀ (d : Nat) (i : Int) (acc : List Int), 0 ≤ i → i + d ≤ 100 → impl_poleDescents.g p w d i acc = some (desc p w d i acc)
  | 0, _, _, _, _ => rfl
  | d + 1, i, acc, hi, hd => by
    simp only [impl_poleDescents.g, desc]
    rw [place_same, place_same, (place_at p w h i (by omega)).1, (place_at p w h (i + 1) (by omega)).1, Option.bind_some, Option.bind_some]
    exact desc_g p w h d (i + 1) _ (by omega) (by omega)
theorem desc_l0 (p w : List Int) (h : isTur p w = true) : ∀ (d k : Nat) (i : Int) (acc : List Int), 0 ≤ i → i + d = (p.length : Int) → acc.length ≤ i → d < k → spec_poDescents.l0 k acc (p.length : Int) i p w = some (desc p w d i acc)
  | 0, k, i, acc, h0, hi, ha, hk => by
    obtain ⟨k, rfl⟩ : ∃ m, k = m + 1 := ⟨k - 1, by omega⟩
    simp only [spec_poDescents.l0, desc]
    rw [if_neg (by omega)]
  | d + 1, k, i, acc, h0, hi, ha, hk => by
    obtain ⟨f1, f2, f3, f4, f5, f6, f7⟩ := isTur_facts h
    obtain ⟨k, rfl⟩ : ∃ m, k = m + 1 := ⟨k - 1, by omega⟩
    simp only [spec_poDescents.l0, desc]
    rw [if_pos (by omega), wrap_id (by omega) (by omega), (place_at p w h i (by omega)).1, (place_at p w h (i + 1) (by omega)).1, Option.bind_some, Option.bind_some]
    by_cases hc : placeV p w (i + 1) < placeV p w i
    · rw [if_pos hc, if_pos hc, if_pos (by omega)]
      exact desc_l0 p w h d k (i + 1) _ (by omega) (by omega) (by simp; omega) (by omega)
    · rw [if_neg hc, if_neg hc]
      exact desc_l0 p w h d k (i + 1) _ (by omega) (by omega) (by omega) (by omega)
/-- All descents. -/
def descV (p w : List Int) : List Int := desc p w p.length 0 []
theorem poDescents (p w : List Int) (h : isTur p w = true) (k : Nat) (hk : 20 ≤ k) : spec_poDescents.f k p w = some (descV p w) := by
  obtain ⟨f1, f2, f3, f4, f5, f6, f7⟩ := isTur_facts h
  exact desc_l0 p w h p.length k 0 [] (by omega) (by omega) (by simp) (by omega)
theorem poleDescents (p w : List Int) (h : isTur p w = true) : impl_poleDescents.f p w = some (descV p w) := by
  obtain ⟨f1, f2, f3, f4, f5, f6, f7⟩ := isTur_facts h
  unfold impl_poleDescents.f descV
  rw [if_pos (by omega), desc_g p w h _ _ _ (by omega) (by omega)]
theorem desc_mem (p w : List Int) : ∀ (d : Nat) (i : Int) (acc : List Int) (x : Int), x ∈ desc p w d i acc → x ∈ acc ∨ (i ≤ x ∧ x < i + d ∧ placeV p w (x + 1) < placeV p w x)
  | 0, _, acc, x, h => Or.inl h
  | d + 1, i, acc, x, h => by
    rw [desc] at h
    rcases desc_mem p w d (i + 1) _ x h with h1 | h1
    · split at h1
      · next c =>
        rcases List.mem_append.1 h1 with h2 | h2
        · exact Or.inl h2
        · have := List.mem_singleton.1 h2
          subst this
          exact Or.inr ⟨by omega, by omega, c⟩
      · exact Or.inl h1
    · exact Or.inr ⟨by omega, by omega, h1.2.2⟩
theorem eq_vals (l : List Int) (f : Int → Int) (n : Nat) (hl : l.length = n) (h : ∀ j : Nat, j < n → l.getD j 0 = f (j : Int)) : l = vals f n 0 := by
  refine List.ext_getElem? fun j => ?_
  by_cases c : j < n
  · rw [vals_get f n 0 j c, Int.zero_add, ← h j c, List.getD_eq_getElem?_getD, List.getElem?_eq_getElem (by omega)]; rfl
  · rw [List.getElem?_eq_none (by omega), List.getElem?_eq_none (by rw [vals_length]; omega)]
theorem then_l0 (e f p w : List Int) (he : ∀ j : Nat, j < e.length → 0 ≤ e.getD j 0 ∧ e.getD j 0 < (p.length : Int)) (hf : f.length = e.length) (hw : w.length = p.length) (hb : ∀ j, -1 ≤ f.getD j 0 ∧ f.getD j 0 ≤ 1) (hwb : ∀ k, -20 ≤ w.getD k 0 ∧ w.getD k 0 ≤ 20) (hn : e.length ≤ 8) : ∀ (d i k : Nat) (a b : List Int), i + d = e.length → d < k → a.length ≤ i → b.length ≤ i →
    impl_thenTurned.l0 k e (e.length : Int) (i : Int) e f p w a b = some (a ++ vals (fun j => rd p (rd e j)) d (i : Int), b ++ vals (fun j => rd f j + rd w (rd e j)) d (i : Int))
  | 0, i, k, a, b, h, hk, ha, hb' => by
    obtain ⟨k, rfl⟩ : ∃ m, k = m + 1 := ⟨k - 1, by omega⟩
    simp only [impl_thenTurned.l0, vals, List.append_nil]
    rw [if_neg (by omega)]
  | d + 1, i, k, a, b, h, hk, ha, hb' => by
    obtain ⟨k, rfl⟩ : ∃ m, k = m + 1 := ⟨k - 1, by omega⟩
    have h1 := he i (by omega)
    have h2 := hb i
    obtain ⟨q, hq⟩ : ∃ q : Nat, e.getD i 0 = q := ⟨(e.getD i 0).toNat, by omega⟩
    have h3 := hwb q
    have ih := then_l0 e f p w he hf hw hb hwb hn d (i + 1) k (a ++ [rd p (rd e (i : Int))]) (b ++ [rd f (i : Int) + rd w (rd e (i : Int))]) (by omega) (by omega) (by simp; omega) (by simp; omega)
    simp only [impl_thenTurned.l0]
    rw [if_pos (by omega), if_pos (by omega), if_pos (by omega), show rd e (i : Int) = (q : Int) by rw [fix_rd, hq], if_pos (by omega), if_pos (by omega), Option.bind_some, if_pos (by simp; omega), if_pos (by omega), if_pos (by omega), Option.bind_some, if_pos (by simp; omega)]
    rw [show rd e (i : Int) = (q : Int) by rw [fix_rd, hq]] at ih
    rw [wrap_id (n := rd f (i : Int) + rd w (q : Int)) (by rw [fix_rd, fix_rd]; omega) (by rw [fix_rd, fix_rd]; omega), wrap_id (n := (i : Int) + 1) (by omega) (by omega)]
    rw [vals, vals, show rd e (i : Int) = (q : Int) by rw [fix_rd, hq]]
    rw [show ((i : Int) + 1) = ((i + 1 : Nat) : Int) by omega, ih]
    simp
theorem res_facts : ∀ m ∈ List.range 6, ∀ r ∈ List.range (m + 3), ∀ j ∈ List.range (m + 3), (resE (((m + 3 : Nat) : Int)) [((r : Nat) : Int)]).getD j 0 = (if j = r then ((nx (m + 3) r : Nat) : Int) else if j = nx (m + 3) r then (r : Int) else (j : Int)) ∧
    (resW (((m + 3 : Nat) : Int)) [((r : Nat) : Int)]).getD j 0 = (if nx (m + 3) r = 0 then (if j = r then 1 else if j = 0 then -1 else 0) else 0) := by decide +kernel
theorem res_at (n : Nat) (hn : 3 ≤ n ∧ n ≤ 8) (r : Nat) (hr : r < n) (j : Nat) (hj : j < n) : (resE (n : Int) [(r : Int)]).getD j 0 = (if j = r then ((nx n r : Nat) : Int) else if j = nx n r then (r : Int) else (j : Int)) ∧ (resW (n : Int) [(r : Int)]).getD j 0 = (if nx n r = 0 then (if j = r then 1 else if j = 0 then -1 else 0) else 0) := by
  have := res_facts (n - 3) (List.mem_range.2 (by omega)) r (List.mem_range.2 (by omega)) j (List.mem_range.2 (by omega))
  rwa [show n - 3 + 3 = n by omega] at this
theorem then_at (p w : List Int) (h : isTur p w = true) (r : Nat) (hr : r < p.length) (k : Nat) (hk : 20 ≤ k) : impl_thenTurned.f k (resE (p.length : Int) [(r : Int)]) (resW (p.length : Int) [(r : Int)]) p w = some (topE p r, topW w r) := by
  obtain ⟨f1, f2, f3, f4, f5, f6, f7⟩ := isTur_facts h
  obtain ⟨h1, h2⟩ := nx_lt p.length r f2 hr
  have R := res_at p.length ⟨f2, f3⟩ r hr
  have le : (resE (p.length : Int) [(r : Int)]).length = p.length := by rw [resE, vals_length]; omega
  have lw : (resW (p.length : Int) [(r : Int)]).length = p.length := by rw [resW, vals_length]; omega
  generalize resE (p.length : Int) [(r : Int)] = e at R le ⊢
  generalize resW (p.length : Int) [(r : Int)] = f at R lw ⊢
  unfold impl_thenTurned.f
  have := then_l0 e f p w (fun j hj => by
    rw [(R j (by omega)).1]; split
    · omega
    · split <;> omega) (by omega) f4 (fun j => by
    by_cases c : j < p.length
    · rw [(R j c).2]; split
      · split
        · omega
        · split <;> omega
      · omega
    · rw [List.getD_eq_getElem?_getD, List.getElem?_eq_none (by omega)]; simp) (wget w f6) (by omega) p.length 0 k [] [] (by omega) (by omega) (by simp) (by simp)
  rw [show ((0 : Nat) : Int) = 0 from rfl, List.nil_append, List.nil_append] at this
  rw [this]
  have e1 : topE p r = vals (fun j => rd p (rd e j)) p.length 0 := eq_vals _ _ _ (topE_length p r) fun j hj => by
    rw [fix_rd, (R j hj).1, topE_get p r j f2 hr]
    by_cases c1 : j = r
    · rw [if_neg (by omega), if_pos c1.symm, if_pos c1, fix_rd]
    · rw [if_neg c1]
      by_cases c2 : j = nx p.length r
      · rw [if_pos c2.symm, if_pos c2, fix_rd]
      · rw [if_neg (by omega), if_neg (by omega), if_neg c2, fix_rd]
  have e2 : topW w r = vals (fun j => rd f j + rd w (rd e j)) p.length 0 := eq_vals _ _ _ (by rw [topW_length, f4]) fun j hj => by
    rw [fix_rd, fix_rd, (R j hj).1, (R j hj).2, topW_get w r j (by omega) (by omega), f4]
    by_cases z : nx p.length r = 0
    · rw [if_pos z, if_pos z]
      by_cases c1 : j = r
      · rw [if_neg (by omega), if_pos c1.symm, if_pos c1, if_pos c1, fix_rd, z]; omega
      · by_cases c2 : j = 0
        · rw [if_pos c2.symm, if_neg c1, if_pos c2, if_neg c1, if_pos (by omega), fix_rd]; omega
        · rw [if_neg (by omega), if_neg (by omega), if_neg c1, if_neg c2, if_neg c1, if_neg (by omega), fix_rd]; omega
    · rw [if_neg z, if_neg z]
      by_cases c1 : j = r
      · rw [if_neg (by omega), if_pos c1.symm, if_pos c1, fix_rd]; omega
      · rw [if_neg c1]
        by_cases c2 : j = nx p.length r
        · rw [if_pos c2.symm, if_pos c2, fix_rd]; omega
        · rw [if_neg (by omega), if_neg (by omega), if_neg c2, fix_rd]; omega
  rw [← e1, ← e2]
theorem inv_pos (p w : List Int) (h : isTur p w = true) : 0 ≤ invV p w := by
  rw [inv_sm p w h]
  generalize p.length * 43 = M
  generalize 0 = i
  generalize p.length = d
  induction d generalizing i with
  | zero => simp [sm]
  | succ d ih =>
    have := cn_range (placeV p w) (placeV p w (i : Int)) M ((i : Int) + 1)
    have := ih (i + 1)
    rw [sm]
    unfold cI at *
    omega
/-- The rungs that bring it home, always the first descent. -/
def lrun : Nat → List Int → List Int → List Int → List Int
  | 0, _, _, acc => acc
  | m + 1, p, w, acc => match descV p w with
    | [] => acc
    | r :: _ => lrun m (topE p r.toNat) (topW w r.toNat) (acc ++ [r])
theorem lrun_length : ∀ (m : Nat) (p w acc : List Int), (lrun m p w acc).length ≤ acc.length + m
  | 0, _, _, _ => Nat.le_refl _
  | m + 1, p, w, acc => by
    rw [lrun]
    split
    · omega
    · have := lrun_length m (topE p (by assumption : Int).toNat) (topW w (by assumption : Int).toNat) acc
      rename_i r _ _
      have := lrun_length m (topE p r.toNat) (topW w r.toNat) (acc ++ [r])
      simp at this
      omega
theorem desc_head (p w : List Int) (h : isTur p w = true) (r : Int) (rs : List Int) (e : descV p w = r :: rs) : 0 ≤ r ∧ r.toNat < p.length ∧ placeV p w ((r.toNat : Int) + 1) < placeV p w (r.toNat : Int) := by
  have := desc_mem p w p.length 0 [] r (by unfold descV at e; rw [e]; exact List.mem_cons_self)
  rcases this with h1 | ⟨h1, h2, h3⟩
  · cases h1
  · refine ⟨h1, by omega, ?_⟩
    rw [Int.toNat_of_nonneg h1]; exact h3
theorem desc_zero (p w : List Int) (h : isTur p w = true) (hi : invV p w ≤ 0) : descV p w = [] := by
  match hd : descV p w with
  | [] => rfl
  | r :: rs =>
    obtain ⟨h1, h2, h3⟩ := desc_head p w h r rs hd
    have t1 := top_tur p w h r.toNat h2 h3
    have t2 := inv_top p w h r.toNat h2 h3
    have t3 := inv_pos _ _ t1
    omega
theorem spec_run (a : Int) : ∀ (m : Nat) (i : Int) (p w acc : List Int) (k : Nat), isTur p w = true → invV p w ≤ m → 0 ≤ i → i + m ≤ 60 → acc.length + m ≤ 60 → m + 50 ≤ k → spec_LeastPole.l0 k i p w a acc = some (a, lrun m p w acc, true)
  | 0, i, p, w, acc, k, h, hi, h0, hm, ha, hk => by
    obtain ⟨k, rfl⟩ : ∃ q, k = q + 1 := ⟨k - 1, by omega⟩
    simp only [spec_LeastPole.l0]
    rw [if_pos (by omega), poDescents p w h k (by omega), Option.bind_some, desc_zero p w h (by omega), if_pos (by simp)]
    rfl
  | m + 1, i, p, w, acc, k, h, hi, h0, hm, ha, hk => by
    obtain ⟨k, rfl⟩ : ∃ q, k = q + 1 := ⟨k - 1, by omega⟩
    have ih := fun i p w acc => spec_run a m i p w acc k
    simp only [spec_LeastPole.l0]
    rw [if_pos (by omega), poDescents p w h k (by omega), Option.bind_some, lrun]
    cases hd : descV p w with
    | nil => rw [if_pos (by simp)]
    | cons r rs =>
      obtain ⟨h1, h2, h3⟩ := desc_head p w h r rs hd
      have t1 := top_tur p w h r.toNat h2 h3
      have t2 := inv_top p w h r.toNat h2 h3
      have e := poTop_at p w h r.toNat h2
      rw [Int.toNat_of_nonneg h1] at e
      have g1 : ¬ (((r :: rs).length : Nat) : Int) = 0 := by rw [List.length_cons]; omega
      have g2 : 0 < (((r :: rs).length : Nat) : Int) := by rw [List.length_cons]; omega
      rw [if_neg g1, if_pos g2, if_pos (by omega), show rd (r :: rs) 0 = r from rfl, e, Option.bind_some, wrap_id (by omega) (by omega)]
      exact ih (i + 1) (topE p r.toNat) (topW w r.toNat) (acc ++ [r]) t1 (by omega) (by omega) (by omega) (by rw [List.length_append, List.length_singleton]; omega) (by omega)
theorem impl_run : ∀ (m : Nat) (p w acc : List Int) (k : Nat), isTur p w = true → invV p w ≤ m → acc.length + m ≤ 60 → m + 50 ≤ k → impl_LeastPole.l0 k (descV p w) p w (p.length : Int) acc = some ((p.length : Int), lrun m p w acc, true)
  | 0, p, w, acc, k, h, hi, ha, hk => by
    obtain ⟨k, rfl⟩ : ∃ q, k = q + 1 := ⟨k - 1, by omega⟩
    simp only [impl_LeastPole.l0]
    rw [desc_zero p w h (by omega), if_neg (by simp)]
    rfl
  | m + 1, p, w, acc, k, h, hi, ha, hk => by
    obtain ⟨f1, f2, f3, f4, f5, f6, f7⟩ := isTur_facts h
    obtain ⟨k, rfl⟩ : ∃ q, k = q + 1 := ⟨k - 1, by omega⟩
    have ih := fun p w acc => impl_run m p w acc k
    simp only [impl_LeastPole.l0]
    rw [lrun]
    cases hd : descV p w with
    | nil => rw [if_neg (by simp)]
    | cons r rs =>
      obtain ⟨h1, h2, h3⟩ := desc_head p w h r rs hd
      have t1 := top_tur p w h r.toNat h2 h3
      have t2 := inv_top p w h r.toNat h2 h3
      have e := then_at p w h r.toNat h2 k (by omega)
      rw [Int.toNat_of_nonneg h1] at e
      have g1 : (((r :: rs).length : Nat) : Int) > 0 := by rw [List.length_cons]; omega
      have g2 : 1 ≤ (((r :: rs).length : Nat) : Int) := by rw [List.length_cons]; omega
      have hr : ∀ x ∈ [r], 0 ≤ x ∧ x ≤ (p.length : Int) - 1 := by
        intro x hx
        rw [List.mem_singleton.1 hx]; omega
      have er := (result_at (p.length : Int) [r] ⟨by omega, by omega⟩ (by rw [List.length_singleton]; omega) hr k (by rw [List.length_singleton]; omega)).2
      rw [if_pos g1, if_pos g2, show (r :: rs).take 1 = [r] from rfl, er, Option.bind_some, if_pos g1, if_pos (by omega)]
      dsimp only
      rw [e, Option.bind_some]
      dsimp only
      rw [poleDescents _ _ t1, Option.bind_some, show rd (r :: rs) 0 = r from rfl]
      have q := ih (topE p r.toNat) (topW w r.toNat) (acc ++ [r]) t1 (by omega) (by rw [List.length_append, List.length_singleton]; omega) (by omega)
      rw [topE_length] at q
      exact q
theorem core_LeastPole (p w : List Int) (hb : p.length ≤ 35184372088832) (hp : ∀ x ∈ p, (Lit.int .i64 x).wf = true) (hc : w.length ≤ 35184372088832) (hw : ∀ x ∈ w, (Lit.int .i64 x).wf = true) :
    ∃ K b m ok, m.length ≤ 35184372088832 ∧ (∀ k, K ≤ k → spec_LeastPole.f k p w = some (b, m, ok)) ∧ (∀ k, K ≤ k → impl_LeastPole.f k p w = some (b, m, ok)) := by
  by_cases h : isTur p w = true
  · obtain ⟨f1, f2, f3, f4, f5, f6, f7⟩ := isTur_facts h
    by_cases hi : invV p w ≤ 60
    · refine ⟨w.length + 4000, (p.length : Int), lrun 60 p w [], true, by have := lrun_length 60 p w []; simp at this; omega, fun k hk => ?_, fun k hk => ?_⟩
      · unfold spec_LeastPole.f
        rw [poTurned p w hc k (by omega), Option.bind_some, if_pos h, poInversions p w h k (by omega), Option.bind_some, decide_eq_false (by omega)]
        obtain ⟨k, rfl⟩ : ∃ q, k = q + 1 := ⟨k - 1, by omega⟩
        simp only [spec_LeastPole.j0]
        rw [if_neg (by simp)]
        exact spec_run _ 60 0 p w [] k h (by omega) (by omega) (by omega) (by simp) (by omega)
      · unfold impl_LeastPole.f
        rw [isTurned p w hc k (by omega), Option.bind_some, if_pos h, poleInversions p w h, Option.bind_some, decide_eq_false (by omega)]
        obtain ⟨k, rfl⟩ : ∃ q, k = q + 1 := ⟨k - 1, by omega⟩
        simp only [impl_LeastPole.j0]
        rw [if_neg (by simp), poleDescents p w h, Option.bind_some]
        exact impl_run 60 p w [] k h (by omega) (by simp) (by omega)
    · refine ⟨w.length + 4000, 0, [], false, by simp, fun k hk => ?_, fun k hk => ?_⟩
      · unfold spec_LeastPole.f
        rw [poTurned p w hc k (by omega), Option.bind_some, if_pos h, poInversions p w h k (by omega), Option.bind_some, decide_eq_true (by omega)]
        obtain ⟨k, rfl⟩ : ∃ q, k = q + 1 := ⟨k - 1, by omega⟩
        simp only [spec_LeastPole.j0, if_true]
      · unfold impl_LeastPole.f
        rw [isTurned p w hc k (by omega), Option.bind_some, if_pos h, poleInversions p w h, Option.bind_some, decide_eq_true (by omega)]
        obtain ⟨k, rfl⟩ : ∃ q, k = q + 1 := ⟨k - 1, by omega⟩
        simp only [impl_LeastPole.j0, if_true]
  · refine ⟨w.length + 4000, 0, [], false, by simp, fun k hk => ?_, fun k hk => ?_⟩
    · unfold spec_LeastPole.f
      rw [poTurned p w hc k (by omega), Option.bind_some, if_neg h]
      obtain ⟨k, rfl⟩ : ∃ q, k = q + 1 := ⟨k - 1, by omega⟩
      simp only [spec_LeastPole.j0, if_true]
    · unfold impl_LeastPole.f
      rw [isTurned p w hc k (by omega), Option.bind_some, if_neg h]
      obtain ⟨k, rfl⟩ : ∃ q, k = q + 1 := ⟨k - 1, by omega⟩
      simp only [impl_LeastPole.j0, if_true]
end Go.Proofs.Ytgjamcfnpofbhaa.L
namespace Go.Proofs.Ytgjamcfnpofbhaa.Pure
open Go.RowKit Go.Proofs.Ytgjamcfnpofbhaa.Q Go.Proofs.YtgjamcfnpofbhaaW.PrintWords Go.Proofs.YtgjamcfnpofbhaaW.PrintLast Go.Proofs.Ytgjamcfnpofbhaa.L
set_option linter.unusedVariables false
set_option linter.unusedSimpArgs false
set_option maxHeartbeats 1000000 in
theorem FnExactLeastPole (a0_0 : List Int) (a0_1 : List Int) (hla0_0 : a0_0.length ≤ 9223372036854775807) (hwa0_0 : ∀ x ∈ a0_0, (Lit.int .i64 x).wf = true) (hla0_1 : a0_1.length ≤ 9223372036854775807) (hwa0_1 : ∀ x ∈ a0_1, (Lit.int .i64 x).wf = true) : ∃ k, laws_FnExactLeastPole.f k a0_0 a0_1 = some true := by
  have hsz := szTurned a0_0 a0_1 hla0_0 hla0_1
  by_cases hs : (1048576 : Int) < (a0_0.length : Int) + (a0_1.length : Int)
  · rw [if_pos hs] at hsz
    refine ⟨0, ?_⟩; unfold laws_FnExactLeastPole.f
    simp [hsz]
  · rw [if_neg hs] at hsz
    have hneg : ¬ ((1048576 : Int) - ((a0_0.length : Int) + (a0_1.length : Int)) < 0) := by omega
    have hba0_0 : a0_0.length ≤ 35184372088832 := by omega
    have hba0_1 : a0_1.length ≤ 35184372088832 := by omega
    obtain ⟨K, r0_0, r0_1, r1, hbr0_1, hS, hI⟩ := core_LeastPole a0_0 a0_1 hba0_0 hwa0_0 hba0_1 hwa0_1
    obtain ⟨n, hn⟩ : ∃ n, n = K + a0_0.length + a0_1.length + r0_1.length + 1 := ⟨_, rfl⟩
    refine ⟨n + 4, ?_⟩
    have hS' : ∀ j, spec_LeastPole.f (n + j) a0_0 a0_1 = _ := fun j => hS (n + j) (by omega)
    have hI' : ∀ j, impl_LeastPole.f (n + j) a0_0 a0_1 = _ := fun j => hI (n + j) (by omega)
    have to1 : ∀ j, laws_toTurned.f (n + j) a0_0 a0_1 = _ := fun j => toTurned a0_0 a0_1 hba0_0 hba0_1 (n + j) (by omega)
    have eq1 : ∀ j, laws_eqTurned.f (n + j) a0_0 a0_1 a0_0 a0_1 = some true := fun j => by rw [eqTurned_self a0_0 a0_1 (by omega) (by omega) (n + j) (by omega)]
    have eq2 : ∀ j, laws_eqPole.f (n + j) r0_0 r0_1 r0_0 r0_1 = some true := fun j => by rw [eqPole_self r0_0 r0_1 (by omega) (n + j) (by omega)]
    have mk1 : ∀ j, laws_markTurned.f (n + j) a0_0 a0_1 1 = _ := fun j => markTurned a0_0 a0_1 1 (by omega) (by omega) (by omega) (by omega) (n + j) (by omega)
    have mk2 : ∀ j, laws_markPole.f (n + j) r0_0 r0_1 1 = _ := fun j => markPole r0_0 r0_1 1 (by omega) (by omega) (by omega) (n + j) (by omega)
    have hd2 : ∀ j, laws_heldPole.f (n + j) r0_0 (marks r0_1.length 1) 1 = _ := fun j => heldPole r0_0 r0_1.length 1 (by omega) (by omega) (by omega) (n + j) (by omega)
    simp only [laws_FnExactLeastPole.f, hsz, hneg, hS', hI', to1, eq1, eq2, mk1, mk2, hd2, Option.bind_some]
    simp
    try omega
end Go.Proofs.Ytgjamcfnpofbhaa.Pure
