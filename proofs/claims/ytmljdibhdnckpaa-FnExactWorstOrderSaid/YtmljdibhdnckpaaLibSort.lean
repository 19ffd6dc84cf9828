/- Sorted lists and rungs that compare: the orders backwards tell for all lists whether rungs sort; for rungs that lie between the wires. -/
import Derived.Test.YtmljdibhdnckpaaLibRun
namespace Go.Proofs.Ytmljdibhdnckpaa.L
open Go.RowKit Go.Proofs.Ytmljdibhdnckpaa.Q Go.Proofs.YtmljdibhdnckpaaW.PrintWords Go.Proofs.YtmljdibhdnckpaaW.PrintLast
set_option linter.unusedVariables false
set_option linter.unusedSimpArgs false
/-- One after the other not less. -/
def srtB : List Int → Bool
  | a :: b :: l => decide (a ≤ b) && srtB (b :: l)
  | _ => true
theorem srtB_iff : ∀ v : List Int, srtB v = true ↔ ∀ i, i + 1 < v.length → v.getD i 0 ≤ v.getD (i + 1) 0
  | [] => by simp [srtB]
  | [a] => by simp [srtB]
  | a :: b :: l => by
    have ih := srtB_iff (b :: l)
    rw [srtB, Bool.and_eq_true, decide_eq_true_eq, ih]
    constructor
    · rintro ⟨h0, h⟩ i hi
      cases i with
      | zero => simpa using h0
      | succ i =>
        have := h i (by simp at hi ⊢; omega)
        simpa using this
    · intro h
      refine ⟨by simpa using h 0 (by simp), fun i hi => ?_⟩
      have := h (i + 1) (by simp at hi ⊢; omega)
      simpa using this
/-- How many of the first p are not less than t. -/
def cnt (t : Int) (v : List Int) : Nat → Int
  | 0 => 0
  | p + 1 => cnt t v p + (if t ≤ v.getD p 0 then 1 else 0)
theorem cmpx_get (v : List Int) (r : Nat) (h : r + 1 < v.length) (i : Nat) : (cmpx v (r : Int)).getD i 0 = if i = r then min (v.getD r 0) (v.getD (r + 1) 0) else if i = r + 1 then max (v.getD r 0) (v.getD (r + 1) 0) else v.getD i 0 := by
  have e1 : rd v (r : Int) = v.getD r 0 := rfl
  have e2 : rd v ((r : Int) + 1) = v.getD (r + 1) 0 := rfl
  have e3 : ((r : Int) + 1).toNat = r + 1 := rfl
  have e4 : ((r : Int)).toNat = r := rfl
  unfold cmpx
  rw [e1, e2, e3, e4]
  generalize hx : v.getD r 0 = x
  generalize hy : v.getD (r + 1) 0 = y
  by_cases hgt : x > y
  · rw [if_pos hgt]
    rw [List.getD_eq_getElem?_getD, List.getElem?_set, List.getElem?_set, List.length_set]
    by_cases h1 : i = r
    · subst h1
      rw [if_neg (by omega), if_pos rfl, if_pos (by omega), if_pos rfl]
      simp only [Option.getD_some]
      omega
    · by_cases h2 : i = r + 1
      · subst h2
        rw [if_pos rfl, if_pos h, if_neg (by omega), if_pos rfl]
        simp only [Option.getD_some]
        omega
      · rw [if_neg (by omega), if_neg (by omega), if_neg h1, if_neg h2, List.getD_eq_getElem?_getD]
  · rw [if_neg hgt]
    by_cases h1 : i = r
    · subst h1
      rw [if_pos rfl, hx]
      omega
    · by_cases h2 : i = r + 1
      · subst h2
        rw [if_neg (by omega), if_pos rfl, hy]
        omega
      · rw [if_neg h1, if_neg h2]
theorem cnt_cmpx (t : Int) (v : List Int) (r : Nat) (h : r + 1 < v.length) : ∀ p, cnt t (cmpx v (r : Int)) p = if p = r + 1 then max (cnt t v r) (cnt t v (r + 2) - 1) else cnt t v p
  | 0 => by rw [if_neg (by omega)]; rfl
  | p + 1 => by
    have ih := cnt_cmpx t v r h p
    have hr2 : cnt t v (r + 2) = cnt t v r + (if t ≤ v.getD r 0 then 1 else 0) + (if t ≤ v.getD (r + 1) 0 then 1 else 0) := rfl
    rw [cnt, ih, cmpx_get v r h]
    by_cases h1 : p = r
    · subst h1
      rw [if_neg (by omega), if_pos rfl, if_pos rfl, hr2]
      split <;> split <;> split <;> omega
    · by_cases h2 : p = r + 1
      · subst h2
        rw [if_pos (show r + 1 = r + 1 from rfl), if_neg (show ¬ r + 1 = r by omega), if_neg (show ¬ r + 1 + 1 = r + 1 by omega)]
        have hr3 : cnt t v (r + 1 + 1) = cnt t v (r + 2) := rfl
        rw [hr3, hr2]
        rw [if_pos (show r + 1 = r + 1 from rfl)]
        split <;> split <;> split <;> omega
      · rw [if_neg (show ¬ p = r + 1 from h2), if_neg (show ¬ p = r from h1), if_neg (show ¬ p + 1 = r + 1 by omega)]
        rw [if_neg (show ¬ p = r + 1 from h2)]
        rfl
theorem rung_nat {r : Int} {n : Nat} (h : 0 ≤ r ∧ r ≤ (n : Int) - 2) : ∃ q : Nat, r = (q : Int) ∧ q + 1 < n := ⟨r.toNat, by omega, by omega⟩
theorem cnt_mono (t u : Int) (n : Nat) : ∀ (rs v w : List Int), v.length = n → w.length = n → (∀ r ∈ rs, 0 ≤ r ∧ r ≤ (n : Int) - 2) → (∀ p, p ≤ n → cnt t v p ≤ cnt u w p) → ∀ p, p ≤ n → cnt t (runV rs v) p ≤ cnt u (runV rs w) p
  | [], v, w, _, _, _, h => h
  | r :: rs, v, w, hv, hw, hr, h => by
    obtain ⟨q, rfl, hq⟩ := rung_nat (hr r List.mem_cons_self)
    refine cnt_mono t u n rs _ _ (by rw [cmpx_length, hv]) (by rw [cmpx_length, hw]) (fun x hx => hr x (List.mem_cons_of_mem _ hx)) (fun p hp => ?_)
    rw [cnt_cmpx t v q (by omega), cnt_cmpx u w q (by omega)]
    have h1 := h q (by omega)
    have h2 := h (q + 2) (by omega)
    have h3 := h p hp
    split <;> omega
theorem cnt_run (t : Int) (n : Nat) : ∀ (rs v : List Int), v.length = n → (∀ r ∈ rs, 0 ≤ r ∧ r ≤ (n : Int) - 2) → cnt t (runV rs v) n = cnt t v n
  | [], v, _, _ => rfl
  | r :: rs, v, hv, hr => by
    obtain ⟨q, rfl, hq⟩ := rung_nat (hr r List.mem_cons_self)
    rw [runV, cnt_run t n rs _ (by rw [cmpx_length, hv]) (fun x hx => hr x (List.mem_cons_of_mem _ hx)), cnt_cmpx t v q (by omega), if_neg (by omega)]
theorem cnt_bd (t : Int) (v : List Int) (p : Nat) : ∀ d : Nat, cnt t v p ≤ cnt t v (p + d) ∧ cnt t v (p + d) ≤ cnt t v p + d
  | 0 => by simp
  | d + 1 => by
    have ih := cnt_bd t v p d
    have e : cnt t v (p + (d + 1)) = cnt t v (p + d) + (if t ≤ v.getD (p + d) 0 then 1 else 0) := rfl
    rw [e]
    split <;> omega
theorem cnt_le (t : Int) (v : List Int) {p q : Nat} (h : p ≤ q) : cnt t v p ≤ cnt t v q ∧ cnt t v q ≤ cnt t v p + (q - p : Nat) := by
  have := cnt_bd t v p (q - p)
  rwa [show p + (q - p) = q from by omega] at this
theorem cnt_range (t : Int) (v : List Int) (p : Nat) : 0 ≤ cnt t v p ∧ cnt t v p ≤ p := by
  have := cnt_bd t v 0 p
  rw [Nat.zero_add] at this
  have e : cnt t v 0 = 0 := rfl
  omega
theorem cnt_hit (t : Int) (v : List Int) (i : Nat) : cnt t v (i + 1) = cnt t v i + (if t ≤ v.getD i 0 then 1 else 0) := rfl
theorem cnt_some (t : Int) (v : List Int) : ∀ p, 0 < cnt t v p → ∃ j, j < p ∧ t ≤ v.getD j 0
  | 0, h => by simp [cnt] at h
  | p + 1, h => by
    rw [cnt_hit] at h
    by_cases h2 : t ≤ v.getD p 0
    · exact ⟨p, by omega, h2⟩
    · rw [if_neg h2] at h
      obtain ⟨j, hj, h3⟩ := cnt_some t v p (by omega)
      exact ⟨j, by omega, h3⟩
theorem srt_le {v : List Int} (h : ∀ i, i + 1 < v.length → v.getD i 0 ≤ v.getD (i + 1) 0) (i : Nat) : ∀ d, i + d < v.length → v.getD i 0 ≤ v.getD (i + d) 0
  | 0, _ => Int.le_refl _
  | d + 1, hd => Int.le_trans (srt_le h i d (by omega)) (h (i + d) (by omega))
theorem srt_cnt {v : List Int} (h : ∀ i, i + 1 < v.length → v.getD i 0 ≤ v.getD (i + 1) 0) (t : Int) (p : Nat) (hc : 0 < cnt t v p) : ∀ d, p + d ≤ v.length → cnt t v (p + d) = cnt t v p + d
  | 0, _ => by simp
  | d + 1, hd => by
    have ih := srt_cnt h t p hc d (by omega)
    obtain ⟨j, hj, hjt⟩ := cnt_some t v p hc
    have h2 := srt_le h j (p + d - j) (by omega)
    rw [show j + (p + d - j) = p + d from by omega] at h2
    rw [show p + (d + 1) = (p + d) + 1 from by omega, cnt_hit, if_pos (by omega), ih]
    omega
/-- The order backwards. -/
def down (n : Nat) : List Int := (List.range n).map fun (i : Nat) => (n : Int) - 1 - i
theorem down_length (n : Nat) : (down n).length = n := by simp [down]
theorem down_get (n i : Nat) (h : i < n) : (down n).getD i 0 = (n : Int) - 1 - i := by
  rw [List.getD_eq_getElem?_getD, List.getElem?_eq_getElem (by rw [down_length]; exact h)]
  simp [down]
theorem cnt_down (t : Int) (n : Nat) : ∀ p, p ≤ n → cnt t (down n) p = min (p : Int) (max 0 ((n : Int) - t))
  | 0, _ => by rw [cnt]; omega
  | p + 1, hp => by
    rw [cnt_hit, cnt_down t n p (by omega), down_get n p (by omega)]
    split <;> omega
/-- Ones, and then noughts. -/
def oneso (a n : Nat) : List Int := (List.range n).map fun i => if i < a then 1 else 0
theorem oneso_length (a n : Nat) : (oneso a n).length = n := by simp [oneso]
theorem oneso_get (a n i : Nat) (h : i < n) : (oneso a n).getD i 0 = if i < a then 1 else 0 := by
  rw [List.getD_eq_getElem?_getD, List.getElem?_eq_getElem (by rw [oneso_length]; exact h)]
  simp [oneso]
theorem cnt_oneso (a n : Nat) : ∀ p, p ≤ n → cnt 1 (oneso a n) p = min (p : Int) (a : Int)
  | 0, _ => by rw [cnt]; omega
  | p + 1, hp => by
    rw [cnt_hit, cnt_oneso a n p (by omega), oneso_get a n p (by omega)]
    split <;> split <;> omega
/-- Rungs that sort the order backwards sort all. -/
theorem down_all (n : Nat) (rs : List Int) (hr : ∀ r ∈ rs, 0 ≤ r ∧ r ≤ (n : Int) - 2) (hd : srtB (runV rs (down n)) = true) (v : List Int) (hv : v.length = n) : srtB (runV rs v) = true := by
  rw [srtB_iff] at hd ⊢
  have hl : (runV rs v).length = n := by rw [runV_length, hv]
  have hl2 : (runV rs (down n)).length = n := by rw [runV_length, down_length]
  intro i hi
  by_cases hle : (runV rs v).getD i 0 ≤ (runV rs v).getD (i + 1) 0
  · exact hle
  exfalso
  generalize ht : (runV rs v).getD i 0 = t at hle
  have ha := cnt_range t v n
  generalize hA : cnt t v n = A at ha
  have hm := cnt_mono t ((n : Int) - A) n rs v (down n) hv (down_length n) hr (fun p hp => by
    rw [cnt_down _ n p hp]
    have h1 := cnt_range t v p
    have h2 := (cnt_le t v hp).1
    omega)
  have ho := cnt_run t n rs v hv hr
  have ho2 := cnt_run ((n : Int) - A) n rs (down n) (down_length n) hr
  rw [cnt_down _ n n (Nat.le_refl _)] at ho2
  have hz : cnt ((n : Int) - A) (runV rs (down n)) (n - A.toNat) = 0 := by
    have h0 := cnt_range ((n : Int) - A) (runV rs (down n)) (n - A.toNat)
    by_cases hp : 0 < cnt ((n : Int) - A) (runV rs (down n)) (n - A.toNat)
    · have := srt_cnt hd ((n : Int) - A) (n - A.toNat) hp A.toNat (by omega)
      rw [show n - A.toNat + A.toNat = n from by omega] at this
      omega
    · omega
  have hz2 := hm (n - A.toNat) (by omega)
  have h0 := cnt_range t (runV rs v) (n - A.toNat)
  have h1 := cnt_hit t (runV rs v) i
  rw [ht, if_pos (Int.le_refl _)] at h1
  have h2 := cnt_hit t (runV rs v) (i + 1)
  rw [if_neg (by omega)] at h2
  have h3 := cnt_range t (runV rs v) i
  by_cases hin : i + 1 ≤ n - A.toNat
  · have := (cnt_le t (runV rs v) hin).1
    omega
  · have h4 := (cnt_le t (runV rs v) (p := n - A.toNat) (q := i + 1) (by omega)).2
    have h5 := (cnt_le t (runV rs v) (p := i + 2) (q := n) (by omega)).2
    have h6 : cnt t (runV rs v) (i + 1 + 1) = cnt t (runV rs v) (i + 2) := rfl
    omega
/-- Rungs that sort all noughts behind ones sort the order backwards. -/
theorem all_down (n : Nat) (rs : List Int) (hr : ∀ r ∈ rs, 0 ≤ r ∧ r ≤ (n : Int) - 2) (hd : ∀ a, a ≤ n → srtB (runV rs (oneso a n)) = true) : srtB (runV rs (down n)) = true := by
  rw [srtB_iff]
  have hl2 : (runV rs (down n)).length = n := by rw [runV_length, down_length]
  intro i hi
  by_cases hle : (runV rs (down n)).getD i 0 ≤ (runV rs (down n)).getD (i + 1) 0
  · exact hle
  exfalso
  generalize ht : (runV rs (down n)).getD i 0 = t at hle
  obtain ⟨a, ha, han⟩ : ∃ a : Nat, (a : Int) = min (n : Int) (max 0 ((n : Int) - t)) ∧ a ≤ n := ⟨(min (n : Int) (max 0 ((n : Int) - t))).toNat, by omega, by omega⟩
  have hs := hd a han
  rw [srtB_iff] at hs
  have e : ∀ p, p ≤ n → cnt t (down n) p = cnt 1 (oneso a n) p := fun p hp => by
    rw [cnt_down t n p hp, cnt_oneso a n p hp]
    omega
  have m1 := cnt_mono t 1 n rs (down n) (oneso a n) (down_length n) (oneso_length a n) hr (fun p hp => Int.le_of_eq (e p hp))
  have m2 := cnt_mono 1 t n rs (oneso a n) (down n) (oneso_length a n) (down_length n) hr (fun p hp => Int.le_of_eq (e p hp).symm)
  have h1 := cnt_hit t (runV rs (down n)) i
  have h2 := cnt_hit t (runV rs (down n)) (i + 1)
  have g1 := cnt_hit 1 (runV rs (oneso a n)) i
  have g2 := cnt_hit 1 (runV rs (oneso a n)) (i + 1)
  rw [ht, if_pos (Int.le_refl _)] at h1
  rw [if_neg (by omega)] at h2
  have a0 := m1 i (by omega)
  have a1 := m1 (i + 1) (by omega)
  have a2 := m1 (i + 1 + 1) (by omega)
  have b0 := m2 i (by omega)
  have b1 := m2 (i + 1) (by omega)
  have b2 := m2 (i + 1 + 1) (by omega)
  have hs' := hs i (by rw [runV_length, oneso_length]; omega)
  split at g1 <;> split at g2 <;> omega
end Go.Proofs.Ytmljdibhdnckpaa.L
