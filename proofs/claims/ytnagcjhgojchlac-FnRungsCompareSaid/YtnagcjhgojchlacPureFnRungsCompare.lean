/- FnRungsCompare: for all codes that fit into memory the law's plain form answers true. -/
import Derived.Test.YtnagcjhgojchlacQm5
import Derived.Test.YtnagcjhgojchlacQm2
import Derived.Test.YtnagcjhgojchlacQm6
import Derived.Test.YtnagcjhgojchlacQm7
import Derived.Test.YtnagcjhgojchlacQm12
import Derived.Test.YtnagcjhgojchlacQm9
import Derived.Test.YtnagcjhgojchlacQm13
import Derived.Test.YtnagcjhgojchlacQm10
import Derived.Test.YtnagcjhgojchlacQm8
import Derived.Test.YtnagcjhgojchlacQm11
import Derived.IntWalk
import Derived.Test.YtnagcjhgojchlacQm0
import Derived.Test.YtnagcjhgojchlacQm1
import Derived.Test.YtnagcjhgojchlacQm3
import Derived.Test.YtnagcjhgojchlacQm4
namespace Go.Proofs.Ytnagcjhgojchlac.L
open Go.RowKit Go.Proofs.Ytnagcjhgojchlac.Q Go.Proofs.YtnagcjhgojchlacW.PrintWords Go.Proofs.YtnagcjhgojchlacW.PrintLast
set_option linter.unusedVariables false
set_option linter.unusedSimpArgs false

theorem wrap_id {n : Int} (h1 : -9223372036854775808 ≤ n) (h2 : n ≤ 9223372036854775807) : wrap64 n = n := by unfold wrap64; omega
theorem rd_nat (l : List Int) (i : Nat) (h : i < l.length) : rd l (i : Int) = l[i] := by
  unfold rd
  rw [Int.toNat_natCast, List.getD_eq_getElem?_getD, List.getElem?_eq_getElem h]
  rfl
end Go.Proofs.Ytnagcjhgojchlac.L
namespace Go.Proofs.Ytnagcjhgojchlac.L
open Go.RowKit Go.Proofs.Ytnagcjhgojchlac.Q Go.Proofs.YtnagcjhgojchlacW.PrintWords Go.Proofs.YtnagcjhgojchlacW.PrintLast
set_option linter.unusedVariables false
set_option linter.unusedSimpArgs false
/-- One rung that compares. -/
def cmpx (v : List Int) (r : Int) : List Int := if rd v r > rd v (r + 1) then (v.set r.toNat (rd v (r + 1))).set (r + 1).toNat (rd v r) else v
/-- All rungs, from the top. -/
def runV : List Int → List Int → List Int
  | [], v => v
  | r :: rs, v => runV rs (cmpx v r)
/-- The indices of the rungs with exchanges, counted from i. -/
def usedV : List Int → List Int → Int → List Int
  | [], _, _ => []
  | r :: rs, v, i => (if rd v r > rd v (r + 1) then [i] else []) ++ usedV rs (cmpx v r) (i + 1)
theorem cmpx_length (v : List Int) (r : Int) : (cmpx v r).length = v.length := by
  unfold cmpx
  split <;> simp
theorem runV_length : ∀ (rs v : List Int), (runV rs v).length = v.length
  | [], _ => rfl
  | r :: rs, v => by rw [runV, runV_length rs, cmpx_length]
theorem usedV_length : ∀ (rs v : List Int) (i : Int), (usedV rs v i).length ≤ rs.length
  | [], _, _ => by simp [usedV]
  | r :: rs, v, i => by
    have := usedV_length rs (cmpx v r) (i + 1)
    simp only [usedV, List.length_append, List.length_cons]
    split <;> simp <;> omega
theorem compare_l0 (rs : List Int) (n : Nat) (hb : rs.length ≤ 35184372088832) (hn : n ≤ 35184372088832) (hr : ∀ r ∈ rs, 0 ≤ r ∧ r ≤ (n : Int) - 2) (d : Nat) : ∀ (i k : Nat) (v : List Int), i + d = rs.length → v.length = n → d < k → impl_compare.l0 k v rs (rs.length : Int) (i : Int) = some (runV (rs.drop i) v) := by
  induction d with
  | zero =>
    intro i k v hi hv hk
    obtain ⟨k, rfl⟩ : ∃ m, k = m + 1 := ⟨k - 1, by omega⟩
    simp only [impl_compare.l0]
    rw [if_neg (by omega), show i = rs.length from by omega, List.drop_length]
    rfl
  | succ d ih =>
    intro i k v hi hv hk
    obtain ⟨k, rfl⟩ : ∃ m, k = m + 1 := ⟨k - 1, by omega⟩
    have hx := hr rs[i] (List.getElem_mem _)
    have IH := ih (i + 1) k (cmpx v rs[i]) (by omega) (by rw [cmpx_length]; exact hv) (by omega)
    simp only [impl_compare.l0, impl_sorted_1.f]
    rw [if_pos (by omega), if_pos (by omega), if_pos (by omega), rd_nat rs i (by omega), wrap_id (n := rs[i] + 1) (by omega) (by omega), if_pos (by omega), if_pos (by omega), if_pos (by omega), if_pos (by omega), wrap_id (n := (i : Int) + 1) (by omega) (by omega), List.drop_eq_getElem_cons (by omega), runV]
    unfold cmpx at IH ⊢
    by_cases h : rd v rs[i] > rd v (rs[i] + 1)
    · rw [if_pos h] at IH
      rw [if_pos h, if_pos h, Option.bind_some]
      exact_mod_cast IH
    · rw [if_neg h] at IH
      rw [if_neg h, if_neg h]
      exact_mod_cast IH
theorem sorted (rs v : List Int) (hb : rs.length ≤ 35184372088832) (hv : v.length ≤ 35184372088832 / 4) (hr : ∀ r ∈ rs, 0 ≤ r ∧ r ≤ (v.length : Int) - 2) (k : Nat) (hk : rs.length + 1 ≤ k) : impl_sorted.f k rs v = some (runV rs v) := by
  unfold impl_sorted.f impl_compare.f slices_Clone_int_int.f
  rw [if_pos (by omega), Option.bind_some]
  have := compare_l0 rs v.length hb (by omega) hr rs.length 0 k v (by omega) rfl (by omega)
  rw [List.drop_zero] at this
  have e : impl_compare.l0 k v rs (rs.length : Int) 0 = some (runV rs v) := this
  rw [e]
  rfl
theorem soRun_l0 (rs : List Int) (n : Nat) (hb : rs.length ≤ 8796093022208) (hn : n ≤ 35184372088832) (hr : ∀ r ∈ rs, 0 ≤ r ∧ r ≤ (n : Int) - 2) (d : Nat) : ∀ (i k : Nat) (v u : List Int), i + d = rs.length → v.length = n → u.length ≤ i → d < k → spec_soRun.l0 k v u rs (rs.length : Int) (i : Int) = some (runV (rs.drop i) v, u ++ usedV (rs.drop i) v (i : Int)) := by
  induction d with
  | zero =>
    intro i k v u hi hv hu hk
    obtain ⟨k, rfl⟩ : ∃ m, k = m + 1 := ⟨k - 1, by omega⟩
    simp only [spec_soRun.l0]
    rw [if_neg (by omega), show i = rs.length from by omega, List.drop_length]
    simp [runV, usedV]
  | succ d ih =>
    intro i k v u hi hv hu hk
    obtain ⟨k, rfl⟩ : ∃ m, k = m + 1 := ⟨k - 1, by omega⟩
    have hx := hr rs[i] (List.getElem_mem _)
    simp only [spec_soRun.l0]
    rw [if_pos (by omega), if_pos (by omega), if_pos (by omega), rd_nat rs i (by omega), wrap_id (n := rs[i] + 1) (by omega) (by omega), if_pos (by omega), if_pos (by omega), if_pos (by omega), if_pos (by omega), wrap_id (n := (i : Int) + 1) (by omega) (by omega), List.drop_eq_getElem_cons (by omega), runV, usedV]
    by_cases h : rd v rs[i] > rd v (rs[i] + 1)
    · have IH := ih (i + 1) k (cmpx v rs[i]) (u ++ [(i : Int)]) (by omega) (by rw [cmpx_length]; exact hv) (by simp; omega) (by omega)
      rw [if_pos h, if_pos h, if_pos (by omega)]
      rw [show cmpx v rs[i] = (v.set (rs[i]).toNat (rd v (rs[i] + 1))).set (rs[i] + 1).toNat (rd v rs[i]) from by unfold cmpx; rw [if_pos h]] at IH ⊢
      rw [List.append_assoc] at IH
      exact_mod_cast IH
    · have IH := ih (i + 1) k (cmpx v rs[i]) u (by omega) (by rw [cmpx_length]; exact hv) (by omega) (by omega)
      rw [if_neg h, if_neg h, List.nil_append]
      rw [show cmpx v rs[i] = v from by unfold cmpx; rw [if_neg h]] at IH ⊢
      exact_mod_cast IH
theorem soRun (rs v : List Int) (hb : rs.length ≤ 8796093022208) (hv : v.length ≤ 35184372088832 / 4) (hr : ∀ r ∈ rs, 0 ≤ r ∧ r ≤ (v.length : Int) - 2) (k : Nat) (hk : rs.length + 1 ≤ k) : spec_soRun.f k rs v = some (runV rs v, usedV rs v 0) := by
  unfold spec_soRun.f spec_l1Own.f
  have := soRun_l0 rs v.length hb (by omega) hr rs.length 0 k v [] (by omega) rfl (by simp) (by omega)
  rw [List.drop_zero, List.nil_append] at this
  have e : spec_soRun.l0 k v [] rs (rs.length : Int) 0 = some (runV rs v, usedV rs v 0) := this
  rw [Option.bind_some, if_pos (by simp; omega), Option.bind_some, List.nil_append]
  exact e
end Go.Proofs.Ytnagcjhgojchlac.L
namespace Go.Proofs.Ytnagcjhgojchlac.L
open Go.RowKit Go.Proofs.Ytnagcjhgojchlac.Q Go.Proofs.YtnagcjhgojchlacW.PrintWords Go.Proofs.YtnagcjhgojchlacW.PrintLast
set_option linter.unusedVariables false
set_option linter.unusedSimpArgs false
/-- A comparison is told in Nat. -/
theorem cmpx_nat (v : List Int) (q : Nat) : cmpx v (q : Int) = if v.getD q 0 > v.getD (q + 1) 0 then (v.set q (v.getD (q + 1) 0)).set (q + 1) (v.getD q 0) else v := by
  unfold cmpx
  rw [show (q : Int) + 1 = ((q + 1 : Nat) : Int) by omega]
  unfold rd
  simp only [Int.toNat_natCast]
theorem cmpx_perm (v : List Int) (q : Nat) (h : q + 1 < v.length) : (cmpx v (q : Int)).Perm v := by
  rw [cmpx_nat]
  split
  · rw [List.getD_eq_getElem?_getD, List.getElem?_eq_getElem h, List.getD_eq_getElem?_getD, List.getElem?_eq_getElem (show q < v.length by omega)]
    exact List.set_set_perm (by omega) h
  · exact List.Perm.refl _
theorem run_perm (n : Nat) : ∀ (rs v : List Int), v.length = n → (∀ r ∈ rs, 0 ≤ r ∧ r ≤ (n : Int) - 2) → (runV rs v).Perm v
  | [], v, _, _ => List.Perm.refl _
  | r :: rs, v, hv, hr => by
    have h := hr r List.mem_cons_self
    obtain ⟨q, rfl⟩ : ∃ q : Nat, r = (q : Int) := ⟨r.toNat, by omega⟩
    rw [runV]
    exact (run_perm n rs _ (by rw [cmpx_length]; exact hv) (fun x hx => hr x (List.mem_cons_of_mem _ hx))).trans (cmpx_perm v q (by omega))
/-- The pairs that stand the wrong way round. -/
def invL : List Int → Nat
  | [] => 0
  | x :: v => v.countP (fun y => decide (y < x)) + invL v
theorem inv_cmpx : ∀ (v : List Int) (q : Nat), q + 1 < v.length → invL (cmpx v (q : Int)) + (if v.getD q 0 > v.getD (q + 1) 0 then 1 else 0) = invL v
  | [], q, h => by simp at h
  | [x], q, h => by simp at h
  | x :: y :: v, 0, h => by
    rw [cmpx_nat]
    show invL (if x > y then [y, x] ++ v else x :: y :: v) + (if x > y then 1 else 0) = _
    by_cases c : x > y
    · rw [if_pos c, if_pos c]
      show (List.countP _ (x :: v)) + ((List.countP _ v) + invL v) + 1 = (List.countP _ (y :: v)) + ((List.countP _ v) + invL v)
      rw [List.countP_cons_of_neg (by simp; omega), List.countP_cons_of_pos (by simp; omega)]
      omega
    · rw [if_neg c, if_neg c]; rfl
  | x :: y :: v, q + 1, h => by
    have ih := inv_cmpx (y :: v) q (by simpa using h)
    have hp := cmpx_perm (y :: v) q (by simpa using h)
    have e : cmpx (x :: y :: v) ((q + 1 : Nat) : Int) = x :: cmpx (y :: v) (q : Int) := by
      rw [cmpx_nat, cmpx_nat]
      simp only [List.getD_cons_succ]
      by_cases c : (y :: v).getD q 0 > v.getD q 0
      · rw [if_pos c, if_pos c]; rfl
      · rw [if_neg c, if_neg c]
    rw [e]
    simp only [List.getD_cons_succ] at ih ⊢
    show (List.countP _ (cmpx (y :: v) (q : Int))) + invL (cmpx (y :: v) (q : Int)) + _ = (List.countP _ (y :: v)) + invL (y :: v)
    rw [hp.countP_eq]
    omega
theorem used_len : ∀ (rs v : List Int) (i : Int), (usedV rs v i).length ≤ rs.length
  | [], _, _ => Nat.le_refl _
  | r :: rs, v, i => by
    have := used_len rs (cmpx v r) (i + 1)
    rw [usedV, List.length_append, List.length_cons]
    split <;> simp <;> omega
/-- Each exchange rights one pair. -/
theorem inv_run (n : Nat) : ∀ (rs v : List Int) (i : Int), v.length = n → (∀ r ∈ rs, 0 ≤ r ∧ r ≤ (n : Int) - 2) → invL (runV rs v) + (usedV rs v i).length = invL v
  | [], v, i, _, _ => rfl
  | r :: rs, v, i, hv, hr => by
    have h := hr r List.mem_cons_self
    obtain ⟨q, rfl⟩ : ∃ q : Nat, r = (q : Int) := ⟨r.toNat, by omega⟩
    have a := inv_run n rs (cmpx v (q : Int)) (i + 1) (by rw [cmpx_length]; exact hv) (fun x hx => hr x (List.mem_cons_of_mem _ hx))
    have b := inv_cmpx v q (by omega)
    have e1 : rd v (q : Int) = v.getD q 0 := by simp [rd]
    have e2 : rd v ((q : Int) + 1) = v.getD (q + 1) 0 := by
      rw [show (q : Int) + 1 = ((q + 1 : Nat) : Int) by omega]
      simp only [rd, Int.toNat_natCast]
    rw [runV, usedV, List.length_append, e1, e2]
    by_cases c : v.getD q 0 > v.getD (q + 1) 0
    · rw [if_pos c] at b
      rw [if_pos c]
      simp only [List.length_cons, List.length_nil]
      omega
    · rw [if_neg c] at b
      rw [if_neg c]
      simp only [List.length_nil]
      omega
/-- What is not less than t, marked. -/
def th (t : Int) (v : List Int) : List Int := v.map fun x => if t ≤ x then 1 else 0
theorem th_get (t : Int) (v : List Int) (i : Nat) (h : i < v.length) : (th t v).getD i 0 = if t ≤ v.getD i 0 then 1 else 0 := by
  unfold th
  rw [List.getD_eq_getElem?_getD, List.getElem?_map, List.getElem?_eq_getElem h, List.getD_eq_getElem?_getD, List.getElem?_eq_getElem h]
  rfl
theorem th_set (t : Int) (v : List Int) (i : Nat) (x : Int) : th t (v.set i x) = (th t v).set i (if t ≤ x then 1 else 0) := by
  unfold th
  rw [List.map_set]
theorem th_cmpx (t : Int) (v : List Int) (q : Nat) (h : q + 1 < v.length) : cmpx (th t v) (q : Int) = th t (cmpx v (q : Int)) := by
  rw [cmpx_nat, cmpx_nat, th_get _ _ _ (by omega), th_get _ _ _ h]
  by_cases c : v.getD q 0 > v.getD (q + 1) 0
  · rw [if_pos c, th_set, th_set]
    by_cases c1 : t ≤ v.getD (q + 1) 0
    · rw [if_pos c1, if_pos (show t ≤ v.getD q 0 by omega), if_neg (by omega)]
      refine List.ext_getElem (by simp) fun j hj hj' => ?_
      have a := th_get t v q (by omega)
      have b := th_get t v (q + 1) h
      rw [if_pos (by omega)] at a
      rw [if_pos c1] at b
      rw [List.getElem_set, List.getElem_set]
      by_cases d : q + 1 = j
      · subst d
        rw [List.getD_eq_getElem?_getD, List.getElem?_eq_getElem (by simpa using hj)] at b
        simpa using b
      · rw [if_neg d]
        by_cases d2 : q = j
        · subst d2
          rw [List.getD_eq_getElem?_getD, List.getElem?_eq_getElem (by simpa using hj)] at a
          simpa using a
        · rw [if_neg d2]
    · rw [if_neg c1]
      by_cases c2 : t ≤ v.getD q 0
      · rw [if_pos c2, if_pos (by omega)]
      · rw [if_neg c2, if_neg (by omega)]
        refine List.ext_getElem (by simp) fun j hj hj' => ?_
        have a := th_get t v q (by omega)
        have b := th_get t v (q + 1) h
        rw [if_neg c2] at a
        rw [if_neg c1] at b
        rw [List.getElem_set, List.getElem_set]
        by_cases d : q + 1 = j
        · subst d
          rw [List.getD_eq_getElem?_getD, List.getElem?_eq_getElem (by simpa using hj)] at b
          simpa using b
        · rw [if_neg d]
          by_cases d2 : q = j
          · subst d2
            rw [List.getD_eq_getElem?_getD, List.getElem?_eq_getElem (by simpa using hj)] at a
            simpa using a
          · rw [if_neg d2]
  · rw [if_neg c]
    by_cases c1 : t ≤ v.getD q 0
    · rw [if_pos c1, if_pos (show t ≤ v.getD (q + 1) 0 by omega), if_neg (by omega)]
    · rw [if_neg c1]
      by_cases c2 : t ≤ v.getD (q + 1) 0
      · rw [if_pos c2, if_neg (by omega)]
      · rw [if_neg c2, if_neg (by omega)]
/-- A rung that exchanges numbers exchanges marks, at some mark. -/
theorem used_th (n : Nat) : ∀ (rs v : List Int) (i u : Int), v.length = n → (∀ r ∈ rs, 0 ≤ r ∧ r ≤ (n : Int) - 2) → u ∈ usedV rs v i → ∃ t, u ∈ usedV rs (th t v) i
  | [], _, _, _, _, _, h => by cases h
  | r :: rs, v, i, u, hv, hr, hu => by
    have h := hr r List.mem_cons_self
    obtain ⟨q, rfl⟩ : ∃ q : Nat, r = (q : Int) := ⟨r.toNat, by omega⟩
    have e1 : ∀ v : List Int, rd v (q : Int) = v.getD q 0 := fun v => by simp [rd]
    have e2 : ∀ v : List Int, rd v ((q : Int) + 1) = v.getD (q + 1) 0 := fun v => by
      rw [show (q : Int) + 1 = ((q + 1 : Nat) : Int) by omega]
      simp only [rd, Int.toNat_natCast]
    rw [usedV, e1, e2] at hu
    rcases List.mem_append.1 hu with h1 | h1
    · by_cases c : v.getD q 0 > v.getD (q + 1) 0
      · rw [if_pos c] at h1
        refine ⟨v.getD q 0, ?_⟩
        rw [usedV, e1, e2, th_get _ _ _ (by omega), th_get _ _ _ (by omega), if_pos (show v.getD q 0 ≤ v.getD q 0 by omega), if_neg (show ¬ v.getD q 0 ≤ v.getD (q + 1) 0 by omega), if_pos (by omega)]
        exact List.mem_append.2 (Or.inl h1)
      · rw [if_neg c] at h1
        cases h1
    · obtain ⟨t, ht⟩ := used_th n rs (cmpx v (q : Int)) (i + 1) u (by rw [cmpx_length]; exact hv) (fun x hx => hr x (List.mem_cons_of_mem _ hx)) h1
      refine ⟨t, ?_⟩
      rw [usedV, th_cmpx t v q (by omega)]
      exact List.mem_append.2 (Or.inr ht)
end Go.Proofs.Ytnagcjhgojchlac.L
namespace Go.Proofs.Ytnagcjhgojchlac.L
open Go.RowKit Go.Proofs.Ytnagcjhgojchlac.Q Go.Proofs.YtnagcjhgojchlacW.PrintWords Go.Proofs.YtnagcjhgojchlacW.PrintLast
set_option linter.unusedVariables false
set_option linter.unusedSimpArgs false
/-- One after the other not less. -/
def srtB : List Int → Bool
  | a :: b :: l => decide (a ≤ b) && srtB (b :: l)
  | _ => true
theorem srtB_iff : ∀ v : List Int, srtB v = true ↔ ∀ i, i + 1 < v.length → v.getD i 0 ≤ v.getD (i + 1) 0
  | [] => by simp [srtB]
  | [a] => by simp [srtB]
  | a :: b :: l => by
    have ih := srtB_iff (b :: l)
    rw [srtB, Bool.and_eq_true, decide_eq_true_eq, ih]
    constructor
    · rintro ⟨h0, h⟩ i hi
      cases i with
      | zero => simpa using h0
      | succ i =>
        have := h i (by simp at hi ⊢; omega)
        simpa using this
    · intro h
      refine ⟨by simpa using h 0 (by simp), fun i hi => ?_⟩
      have := h (i + 1) (by simp at hi ⊢; omega)
      simpa using this
/-- How many of the first p are not less than t. -/
def cnt (t : Int) (v : List Int) : Nat → Int
  | 0 => 0
  | p + 1 => cnt t v p + (if t ≤ v.getD p 0 then 1 else 0)
theorem cmpx_get (v : List Int) (r : Nat) (h : r + 1 < v.length) (i : Nat) : (cmpx v (r : Int)).getD i 0 = if i = r then min (v.getD r 0) (v.getD (r + 1) 0) else if i = r + 1 then max (v.getD r 0) (v.getD (r + 1) 0) else v.getD i 0 := by
  have e1 : rd v (r : Int) = v.getD r 0 := rfl
  have e2 : rd v ((r : Int) + 1) = v.getD (r + 1) 0 := rfl
  have e3 : ((r : Int) + 1).toNat = r + 1 := rfl
  have e4 : ((r : Int)).toNat = r := rfl
  unfold cmpx
  rw [e1, e2, e3, e4]
  generalize hx : v.getD r 0 = x
  generalize hy : v.getD (r + 1) 0 = y
  by_cases hgt : x > y
  · rw [if_pos hgt]
    rw [List.getD_eq_getElem?_getD, List.getElem?_set, List.getElem?_set, List.length_set]
    by_cases h1 : i = r
    · subst h1
      rw [if_neg (by omega), if_pos rfl, if_pos (by omega), if_pos rfl]
      simp only [Option.getD_some]
      omega
    · by_cases h2 : i = r + 1
      · subst h2
        rw [if_pos rfl, if_pos h, if_neg (by omega), if_pos rfl]
        simp only [Option.getD_some]
        omega
      · rw [if_neg (by omega), if_neg (by omega), if_neg h1, if_neg h2, List.getD_eq_getElem?_getD]
  · rw [if_neg hgt]
    by_cases h1 : i = r
    · subst h1
      rw [if_pos rfl, hx]
      omega
    · by_cases h2 : i = r + 1
      · subst h2
        rw [if_neg (by omega), if_pos rfl, hy]
        omega
      · rw [if_neg h1, if_neg h2]
theorem cnt_cmpx (t : Int) (v : List Int) (r : Nat) (h : r + 1 < v.length) : ∀ p, cnt t (cmpx v (r : Int)) p = if p = r + 1 then max (cnt t v r) (cnt t v (r + 2) - 1) else cnt t v p
  | 0 => by rw [if_neg (by omega)]; rfl
  | p + 1 => by
    have ih := cnt_cmpx t v r h p
    have hr2 : cnt t v (r + 2) = cnt t v r + (if t ≤ v.getD r 0 then 1 else 0) + (if t ≤ v.getD (r + 1) 0 then 1 else 0) := rfl
    rw [cnt, ih, cmpx_get v r h]
    by_cases h1 : p = r
    · subst h1
      rw [if_neg (by omega), if_pos rfl, if_pos rfl, hr2]
      split <;> split <;> split <;> omega
    · by_cases h2 : p = r + 1
      · subst h2
        rw [if_pos (show r + 1 = r + 1 from rfl), if_neg (show ¬ r + 1 = r by omega), if_neg (show ¬ r + 1 + 1 = r + 1 by omega)]
        have hr3 : cnt t v (r + 1 + 1) = cnt t v (r + 2) := rfl
        rw [hr3, hr2]
        rw [if_pos (show r + 1 = r + 1 from rfl)]
        split <;> split <;> split <;> omega
      · rw [if_neg (show ¬ p = r + 1 from h2), if_neg (show ¬ p = r from h1), if_neg (show ¬ p + 1 = r + 1 by omega)]
        rw [if_neg (show ¬ p = r + 1 from h2)]
        rfl
theorem rung_nat {r : Int} {n : Nat} (h : 0 ≤ r ∧ r ≤ (n : Int) - 2) : ∃ q : Nat, r = (q : Int) ∧ q + 1 < n := ⟨r.toNat, by omega, by omega⟩
theorem cnt_mono (t u : Int) (n : Nat) : ∀ (rs v w : List Int), v.length = n → w.length = n → (∀ r ∈ rs, 0 ≤ r ∧ r ≤ (n : Int) - 2) → (∀ p, p ≤ n → cnt t v p ≤ cnt u w p) → ∀ p, p ≤ n → cnt t (runV rs v) p ≤ cnt u (runV rs w) p
  | [], v, w, _, _, _, h => h
  | r :: rs, v, w, hv, hw, hr, h => by
    obtain ⟨q, rfl, hq⟩ := rung_nat (hr r List.mem_cons_self)
    refine cnt_mono t u n rs _ _ (by rw [cmpx_length, hv]) (by rw [cmpx_length, hw]) (fun x hx => hr x (List.mem_cons_of_mem _ hx)) (fun p hp => ?_)
    rw [cnt_cmpx t v q (by omega), cnt_cmpx u w q (by omega)]
    have h1 := h q (by omega)
    have h2 := h (q + 2) (by omega)
    have h3 := h p hp
    split <;> omega
theorem cnt_run (t : Int) (n : Nat) : ∀ (rs v : List Int), v.length = n → (∀ r ∈ rs, 0 ≤ r ∧ r ≤ (n : Int) - 2) → cnt t (runV rs v) n = cnt t v n
  | [], v, _, _ => rfl
  | r :: rs, v, hv, hr => by
    obtain ⟨q, rfl, hq⟩ := rung_nat (hr r List.mem_cons_self)
    rw [runV, cnt_run t n rs _ (by rw [cmpx_length, hv]) (fun x hx => hr x (List.mem_cons_of_mem _ hx)), cnt_cmpx t v q (by omega), if_neg (by omega)]
theorem cnt_bd (t : Int) (v : List Int) (p : Nat) : ∀ d : Nat, cnt t v p ≤ cnt t v (p + d) ∧ cnt t v (p + d) ≤ cnt t v p + d
  | 0 => by simp
  | d + 1 => by
    have ih := cnt_bd t v p d
    have e : cnt t v (p + (d + 1)) = cnt t v (p + d) + (if t ≤ v.getD (p + d) 0 then 1 else 0) := rfl
    rw [e]
    split <;> omega
theorem cnt_le (t : Int) (v : List Int) {p q : Nat} (h : p ≤ q) : cnt t v p ≤ cnt t v q ∧ cnt t v q ≤ cnt t v p + (q - p : Nat) := by
  have := cnt_bd t v p (q - p)
  rwa [show p + (q - p) = q from by omega] at this
theorem cnt_range (t : Int) (v : List Int) (p : Nat) : 0 ≤ cnt t v p ∧ cnt t v p ≤ p := by
  have := cnt_bd t v 0 p
  rw [Nat.zero_add] at this
  have e : cnt t v 0 = 0 := rfl
  omega
theorem cnt_hit (t : Int) (v : List Int) (i : Nat) : cnt t v (i + 1) = cnt t v i + (if t ≤ v.getD i 0 then 1 else 0) := rfl
theorem cnt_some (t : Int) (v : List Int) : ∀ p, 0 < cnt t v p → ∃ j, j < p ∧ t ≤ v.getD j 0
  | 0, h => by simp [cnt] at h
  | p + 1, h => by
    rw [cnt_hit] at h
    by_cases h2 : t ≤ v.getD p 0
    · exact ⟨p, by omega, h2⟩
    · rw [if_neg h2] at h
      obtain ⟨j, hj, h3⟩ := cnt_some t v p (by omega)
      exact ⟨j, by omega, h3⟩
theorem srt_le {v : List Int} (h : ∀ i, i + 1 < v.length → v.getD i 0 ≤ v.getD (i + 1) 0) (i : Nat) : ∀ d, i + d < v.length → v.getD i 0 ≤ v.getD (i + d) 0
  | 0, _ => Int.le_refl _
  | d + 1, hd => Int.le_trans (srt_le h i d (by omega)) (h (i + d) (by omega))
theorem srt_cnt {v : List Int} (h : ∀ i, i + 1 < v.length → v.getD i 0 ≤ v.getD (i + 1) 0) (t : Int) (p : Nat) (hc : 0 < cnt t v p) : ∀ d, p + d ≤ v.length → cnt t v (p + d) = cnt t v p + d
  | 0, _ => by simp
  | d + 1, hd => by
    have ih := srt_cnt h t p hc d (by omega)
    obtain ⟨j, hj, hjt⟩ := cnt_some t v p hc
    have h2 := srt_le h j (p + d - j) (by omega)
    rw [show j + (p + d - j) = p + d from by omega] at h2
    rw [show p + (d + 1) = (p + d) + 1 from by omega, cnt_hit, if_pos (by omega), ih]
    omega
/-- The order backwards. -/
def down (n : Nat) : List Int := (List.range n).map fun (i : Nat) => (n : Int) - 1 - i
theorem down_length (n : Nat) : (down n).length = n := by simp [down]
theorem down_get (n i : Nat) (h : i < n) : (down n).getD i 0 = (n : Int) - 1 - i := by
  rw [List.getD_eq_getElem?_getD, List.getElem?_eq_getElem (by rw [down_length]; exact h)]
  simp [down]
theorem cnt_down (t : Int) (n : Nat) : ∀ p, p ≤ n → cnt t (down n) p = min (p : Int) (max 0 ((n : Int) - t))
  | 0, _ => by rw [cnt]; omega
  | p + 1, hp => by
    rw [cnt_hit, cnt_down t n p (by omega), down_get n p (by omega)]
    split <;> omega
/-- Ones, and then noughts. -/
def oneso (a n : Nat) : List Int := (List.range n).map fun i => if i < a then 1 else 0
theorem oneso_length (a n : Nat) : (oneso a n).length = n := by simp [oneso]
theorem oneso_get (a n i : Nat) (h : i < n) : (oneso a n).getD i 0 = if i < a then 1 else 0 := by
  rw [List.getD_eq_getElem?_getD, List.getElem?_eq_getElem (by rw [oneso_length]; exact h)]
  simp [oneso]
theorem cnt_oneso (a n : Nat) : ∀ p, p ≤ n → cnt 1 (oneso a n) p = min (p : Int) (a : Int)
  | 0, _ => by rw [cnt]; omega
  | p + 1, hp => by
    rw [cnt_hit, cnt_oneso a n p (by omega), oneso_get a n p (by omega)]
    split <;> split <;> omega
/-- Rungs that sort the order backwards sort all. -/
theorem down_all (n : Nat) (rs : List Int) (hr : ∀ r ∈ rs, 0 ≤ r ∧ r ≤ (n : Int) - 2) (hd : srtB (runV rs (down n)) = true) (v : List Int) (hv : v.length = n) : srtB (runV rs v) = true := by
  rw [srtB_iff] at hd ⊢
  have hl : (runV rs v).length = n := by rw [runV_length, hv]
  have hl2 : (runV rs (down n)).length = n := by rw [runV_length, down_length]
  intro i hi
  by_cases hle : (runV rs v).getD i 0 ≤ (runV rs v).getD (i + 1) 0
  · exact hle
  exfalso
  generalize ht : (runV rs v).getD i 0 = t at hle
  have ha := cnt_range t v n
  generalize hA : cnt t v n = A at ha
  have hm := cnt_mono t ((n : Int) - A) n rs v (down n) hv (down_length n) hr (fun p hp => by
    rw [cnt_down _ n p hp]
    have h1 := cnt_range t v p
    have h2 := (cnt_le t v hp).1
    omega)
  have ho := cnt_run t n rs v hv hr
  have ho2 := cnt_run ((n : Int) - A) n rs (down n) (down_length n) hr
  rw [cnt_down _ n n (Nat.le_refl _)] at ho2
  have hz : cnt ((n : Int) - A) (runV rs (down n)) (n - A.toNat) = 0 := by
    have h0 := cnt_range ((n : Int) - A) (runV rs (down n)) (n - A.toNat)
    by_cases hp : 0 < cnt ((n : Int) - A) (runV rs (down n)) (n - A.toNat)
    · have := srt_cnt hd ((n : Int) - A) (n - A.toNat) hp A.toNat (by omega)
      rw [show n - A.toNat + A.toNat = n from by omega] at this
      omega
    · omega
  have hz2 := hm (n - A.toNat) (by omega)
  have h0 := cnt_range t (runV rs v) (n - A.toNat)
  have h1 := cnt_hit t (runV rs v) i
  rw [ht, if_pos (Int.le_refl _)] at h1
  have h2 := cnt_hit t (runV rs v) (i + 1)
  rw [if_neg (by omega)] at h2
  have h3 := cnt_range t (runV rs v) i
  by_cases hin : i + 1 ≤ n - A.toNat
  · have := (cnt_le t (runV rs v) hin).1
    omega
  · have h4 := (cnt_le t (runV rs v) (p := n - A.toNat) (q := i + 1) (by omega)).2
    have h5 := (cnt_le t (runV rs v) (p := i + 2) (q := n) (by omega)).2
    have h6 : cnt t (runV rs v) (i + 1 + 1) = cnt t (runV rs v) (i + 2) := rfl
    omega
/-- Rungs that sort all noughts behind ones sort the order backwards. -/
theorem all_down (n : Nat) (rs : List Int) (hr : ∀ r ∈ rs, 0 ≤ r ∧ r ≤ (n : Int) - 2) (hd : ∀ a, a ≤ n → srtB (runV rs (oneso a n)) = true) : srtB (runV rs (down n)) = true := by
  rw [srtB_iff]
  have hl2 : (runV rs (down n)).length = n := by rw [runV_length, down_length]
  intro i hi
  by_cases hle : (runV rs (down n)).getD i 0 ≤ (runV rs (down n)).getD (i + 1) 0
  · exact hle
  exfalso
  generalize ht : (runV rs (down n)).getD i 0 = t at hle
  obtain ⟨a, ha, han⟩ : ∃ a : Nat, (a : Int) = min (n : Int) (max 0 ((n : Int) - t)) ∧ a ≤ n := ⟨(min (n : Int) (max 0 ((n : Int) - t))).toNat, by omega, by omega⟩
  have hs := hd a han
  rw [srtB_iff] at hs
  have e : ∀ p, p ≤ n → cnt t (down n) p = cnt 1 (oneso a n) p := fun p hp => by
    rw [cnt_down t n p hp, cnt_oneso a n p hp]
    omega
  have m1 := cnt_mono t 1 n rs (down n) (oneso a n) (down_length n) (oneso_length a n) hr (fun p hp => Int.le_of_eq (e p hp))
  have m2 := cnt_mono 1 t n rs (oneso a n) (down n) (oneso_length a n) (down_length n) hr (fun p hp => Int.le_of_eq (e p hp).symm)
  have h1 := cnt_hit t (runV rs (down n)) i
  have h2 := cnt_hit t (runV rs (down n)) (i + 1)
  have g1 := cnt_hit 1 (runV rs (oneso a n)) i
  have g2 := cnt_hit 1 (runV rs (oneso a n)) (i + 1)
  rw [ht, if_pos (Int.le_refl _)] at h1
  rw [if_neg (by omega)] at h2
  have a0 := m1 i (by omega)
  have a1 := m1 (i + 1) (by omega)
  have a2 := m1 (i + 1 + 1) (by omega)
  have b0 := m2 i (by omega)
  have b1 := m2 (i + 1) (by omega)
  have b2 := m2 (i + 1 + 1) (by omega)
  have hs' := hs i (by rw [runV_length, oneso_length]; omega)
  split at g1 <;> split at g2 <;> omega
end Go.Proofs.Ytnagcjhgojchlac.L
namespace Go.Proofs.Ytnagcjhgojchlac.L
open Go.RowKit Go.Proofs.Ytnagcjhgojchlac.Q Go.Proofs.YtnagcjhgojchlacW.PrintWords Go.Proofs.YtnagcjhgojchlacW.PrintLast
set_option linter.unusedVariables false
set_option linter.unusedSimpArgs false
theorem srt_all : ∀ (v : List Int), srtB v = true → ∀ x w, v = x :: w → ∀ y ∈ w, x ≤ y
  | [], _, x, w, e, y, hy => by cases e
  | [a], _, x, w, e, y, hy => by cases e; cases hy
  | a :: b :: v, h, x, w, e, y, hy => by
    cases e
    simp only [srtB, Bool.and_eq_true, decide_eq_true_eq] at h
    rcases List.mem_cons.1 hy with rfl | hy
    · exact h.1
    · have := srt_all (b :: v) h.2 b v rfl y hy
      omega
theorem srt_tail (a : Int) : ∀ (v : List Int), srtB (a :: v) = true → srtB v = true
  | [], _ => rfl
  | b :: v, h => by
    simp only [srtB, Bool.and_eq_true] at h
    exact h.2
/-- What is sorted has no pair the wrong way round. -/
theorem inv_srt : ∀ v : List Int, srtB v = true → invL v = 0
  | [], _ => rfl
  | x :: v, h => by
    have a := srt_all (x :: v) h x v rfl
    rw [invL, inv_srt v (srt_tail x v h), List.countP_eq_zero.2 (fun y hy => by have := a y hy; simp; omega)]
theorem inv_down : ∀ n ∈ List.range 9, invL (down n) = n * (n - 1) / 2 := by decide +kernel
/-- A ladder that sorts all has at least so many rungs. -/
theorem rungs_least (n : Nat) (hn : n ≤ 8) (rs : List Int) (hr : ∀ r ∈ rs, 0 ≤ r ∧ r ≤ (n : Int) - 2) (hs : srtB (runV rs (down n)) = true) : n * (n - 1) / 2 ≤ rs.length := by
  have a := inv_run n rs (down n) 0 (down_length n) hr
  have b := used_len rs (down n) 0
  rw [inv_srt _ hs, inv_down n (List.mem_range.2 (by omega))] at a
  omega
/-- Each list of marks is a number's bits. -/
theorem marks_bits : ∀ v : List Int, (∀ x ∈ v, x = 0 ∨ x = 1) → ∃ x, x < 2 ^ v.length ∧ v = (List.range v.length).map fun i => ((x / 2 ^ (v.length - 1 - i) % 2 : Nat) : Int)
  | [], _ => ⟨0, by simp, rfl⟩
  | b :: v, h => by
    obtain ⟨x, hx, e⟩ := marks_bits v (fun y hy => h y (List.mem_cons_of_mem _ hy))
    obtain ⟨c, hc, rfl⟩ : ∃ c : Nat, c < 2 ∧ b = (c : Int) := by
      rcases h b List.mem_cons_self with rfl | rfl
      · exact ⟨0, by omega, rfl⟩
      · exact ⟨1, by omega, rfl⟩
    generalize hm : v.length = m at hx e
    have hpos : 0 < 2 ^ m := Nat.pow_pos (by omega)
    refine ⟨2 ^ m * c + x, ?_, ?_⟩
    · rw [List.length_cons, hm, Nat.pow_succ]
      have : 2 ^ m * c ≤ 2 ^ m * 1 := Nat.mul_le_mul_left _ (by omega)
      omega
    · rw [List.length_cons, hm, List.range_succ_eq_map, List.map_cons, List.map_map]
      refine congr (congrArg _ ?_) ?_
      · rw [show m + 1 - 1 - 0 = m by omega, Nat.mul_add_div hpos, Nat.div_eq_of_lt hx, Nat.add_zero, Nat.mod_eq_of_lt hc]
      · refine e.trans (List.map_congr_left fun i hi => ?_)
        have hi := List.mem_range.1 hi
        show ((x / 2 ^ (m - 1 - i) % 2 : Nat) : Int) = (((2 ^ m * c + x) / 2 ^ (m + 1 - 1 - (i + 1)) % 2 : Nat) : Int)
        obtain ⟨d, hd⟩ : ∃ d, m = d + (i + 1) := ⟨m - (i + 1), by omega⟩
        rw [show m - 1 - i = d by omega, show m + 1 - 1 - (i + 1) = d by omega]
        have e2 : 2 ^ m * c = 2 ^ d * (2 * (2 ^ i * c)) := by
          rw [hd, Nat.pow_add, Nat.pow_succ, Nat.mul_assoc, Nat.mul_comm (2 ^ i) 2, Nat.mul_assoc]
        rw [e2, Nat.mul_add_div (Nat.pow_pos (by omega)), Nat.mul_add_mod]
end Go.Proofs.Ytnagcjhgojchlac.L
namespace Go.Proofs.Ytnagcjhgojchlac.L
open Go.RowKit Go.Proofs.Ytnagcjhgojchlac.Q Go.Proofs.YtnagcjhgojchlacW.PrintWords Go.Proofs.YtnagcjhgojchlacW.PrintLast
set_option linter.unusedVariables false
set_option linter.unusedSimpArgs false
theorem l1In (a lo hi : Int) : spec_l1In.f a lo hi = some (decide (lo ≤ a ∧ a ≤ hi)) := by
  unfold spec_l1In.f
  by_cases h : a ≥ lo
  · rw [if_pos h]; congr 1; simp [h]
  · rw [if_neg h]; congr 1; simp; omega
theorem l1All_l0 (l : List Int) (lo hi : Int) (hb : l.length ≤ 35184372088832) (d : Nat) : ∀ (i k : Nat), i + d = l.length → d < k → spec_l1All.l0 k lo hi l (l.length : Int) (i : Int) = some ((l.drop i).all fun r => decide (lo ≤ r ∧ r ≤ hi)) := by
  induction d with
  | zero =>
    intro i k hi' hk
    obtain ⟨k, rfl⟩ : ∃ m, k = m + 1 := ⟨k - 1, by omega⟩
    simp only [spec_l1All.l0]
    rw [if_neg (by omega), show i = l.length from by omega, List.drop_length]
    rfl
  | succ d ih =>
    intro i k hi' hk
    obtain ⟨k, rfl⟩ : ∃ m, k = m + 1 := ⟨k - 1, by omega⟩
    simp only [spec_l1All.l0]
    rw [if_pos (by omega), if_pos (by omega), if_pos (by omega), rd_nat l i (by omega), l1In, Option.bind_some, wrap_id (by omega) (by omega), List.drop_eq_getElem_cons (by omega), List.all_cons]
    by_cases h : lo ≤ l[i] ∧ l[i] ≤ hi
    · rw [decide_eq_true h, if_pos rfl]
      have := ih (i + 1) k (by omega) (by omega)
      rw [Bool.true_and]
      exact_mod_cast this
    · rw [decide_eq_false h, if_neg (by decide)]
      rfl
theorem l1All (l : List Int) (lo hi : Int) (hb : l.length ≤ 35184372088832) (k : Nat) (hk : l.length + 1 ≤ k) : spec_l1All.f k l lo hi = some (l.all fun r => decide (lo ≤ r ∧ r ≤ hi)) := by
  unfold spec_l1All.f
  have := l1All_l0 l lo hi hb l.length 0 k (by omega) (by omega)
  simpa using this
end Go.Proofs.Ytnagcjhgojchlac.L
namespace Go.Proofs.Ytnagcjhgojchlac.L
open Go.RowKit Go.Proofs.Ytnagcjhgojchlac.Q Go.Proofs.YtnagcjhgojchlacW.PrintWords Go.Proofs.YtnagcjhgojchlacW.PrintLast
set_option linter.unusedVariables false
set_option linter.unusedSimpArgs false
/-- Is this a ladder? -/
def isLadder (a : Int) (l : List Int) : Bool := decide (2 ≤ a ∧ a ≤ 8) && decide (l.length ≤ 60) && l.all fun r => decide (0 ≤ r ∧ r ≤ a - 2)
theorem laGood (a : Int) (l : List Int) (hb : l.length ≤ 35184372088832) (k : Nat) (hk : l.length + 1 ≤ k) : spec_laGood.f k a l = some (isLadder a l) := by
  unfold spec_laGood.f isLadder
  rw [l1In, Option.bind_some]
  by_cases h : 2 ≤ a ∧ a ≤ 8
  · rw [decide_eq_true h, if_pos rfl, wrap_id (by omega) (by omega)]
    by_cases h2 : l.length ≤ 60
    · rw [if_pos (by omega), l1All l 0 (a - 2) hb k hk, Option.bind_some, decide_eq_true h2, Bool.true_and, Bool.true_and]
    · rw [if_neg (by omega), decide_eq_false h2, Bool.true_and, Bool.false_and]
  · rw [decide_eq_false h, if_neg (by decide), Bool.false_and, Bool.false_and]
theorem isLadder_eq (a : Int) (l : List Int) : impl_isLadder.f a l = some (isLadder a l) := rfl
theorem isLadder_wires {a : Int} {l : List Int} (h : isLadder a l = true) : 2 ≤ a ∧ a ≤ 8 ∧ l.length ≤ 60 ∧ ∀ r ∈ l, 0 ≤ r ∧ r ≤ a - 2 := by
  unfold isLadder at h
  simp only [Bool.and_eq_true, decide_eq_true_eq, List.all_eq_true] at h
  exact ⟨h.1.1.1, h.1.1.2, h.1.2, h.2⟩
end Go.Proofs.Ytnagcjhgojchlac.L
namespace Go.Proofs.Ytnagcjhgojchlac.L
open Go.RowKit Go.Proofs.Ytnagcjhgojchlac.Q Go.Proofs.YtnagcjhgojchlacW.PrintWords Go.Proofs.YtnagcjhgojchlacW.PrintLast
set_option linter.unusedVariables false
set_option linter.unusedSimpArgs false
theorem rd_getE (l : List Int) (i : Nat) : rd l (i : Int) = l.getD i 0 := by simp [rd]
theorem equal_l0 (a b : List Int) (hl : a.length = b.length) (hb : a.length ≤ 8) : ∀ (d i k : Nat), i + d = a.length → d < k → slices_Equal_int_int.l0 k a b (a.length : Int) (i : Int) = some (decide (∀ j, j < a.length → i ≤ j → a.getD j 0 = b.getD j 0))
  | 0, i, k, h, hk => by
    obtain ⟨k, rfl⟩ : ∃ m, k = m + 1 := ⟨k - 1, by omega⟩
    simp only [slices_Equal_int_int.l0]
    rw [if_neg (by omega)]
    congr 1
    symm
    exact decide_eq_true (fun j h1 h2 => by omega)
  | d + 1, i, k, h, hk => by
    obtain ⟨k, rfl⟩ : ∃ m, k = m + 1 := ⟨k - 1, by omega⟩
    simp only [slices_Equal_int_int.l0]
    rw [if_pos (by omega), if_pos (by omega), if_pos (by omega), if_pos (by omega), rd_getE, rd_getE]
    by_cases e : a.getD i 0 = b.getD i 0
    · rw [if_pos e, wrap_id (by omega) (by omega), show ((i : Int) + 1) = ((i + 1 : Nat) : Int) by omega, equal_l0 a b hl hb d (i + 1) k (by omega) (by omega)]
      congr 1
      rw [decide_eq_decide]
      constructor
      · intro H j h1 h2
        by_cases c : j = i
        · subst c; exact e
        · exact H j h1 (by omega)
      · exact fun H j h1 h2 => H j h1 (by omega)
    · rw [if_neg e]
      congr 1
      symm
      exact decide_eq_false (fun H => e (H i (by omega) (by omega)))
theorem equalL (a b : List Int) (hl : a.length = b.length) (hb : a.length ≤ 8) (k : Nat) (hk : 20 ≤ k) : slices_Equal_int_int.f k a b = some (decide (∀ j, j < a.length → a.getD j 0 = b.getD j 0)) := by
  unfold slices_Equal_int_int.f
  rw [if_pos (by omega)]
  have := equal_l0 a b hl hb a.length 0 k (by omega) (by omega)
  simpa using this
end Go.Proofs.Ytnagcjhgojchlac.L
namespace Go.Proofs.Ytnagcjhgojchlac.L
open Go.RowKit Go.Proofs.Ytnagcjhgojchlac.Q Go.Proofs.YtnagcjhgojchlacW.PrintWords Go.Proofs.YtnagcjhgojchlacW.PrintLast
set_option linter.unusedVariables false
set_option linter.unusedSimpArgs false
/-- Noughts and ones alone. -/
def Z1 (v : List Int) : Prop := ∀ x ∈ v, x = 0 ∨ x = 1
theorem z1_rd {v : List Int} (h : Z1 v) (r : Int) : rd v r = 0 ∨ rd v r = 1 := by
  unfold rd
  rw [List.getD_eq_getElem?_getD]
  by_cases c : r.toNat < v.length
  · rw [List.getElem?_eq_getElem c]; exact h _ (List.getElem_mem c)
  · rw [List.getElem?_eq_none (by omega)]; left; rfl
theorem z1_set {v : List Int} (h : Z1 v) (i : Nat) {y : Int} (hy : y = 0 ∨ y = 1) : Z1 (v.set i y) := fun x hx => by
  rcases List.mem_or_eq_of_mem_set hx with h1 | h1
  · exact h x h1
  · rw [h1]; exact hy
theorem z1_cmpx {v : List Int} (h : Z1 v) (r : Int) : Z1 (cmpx v r) := by
  unfold cmpx
  split
  · exact z1_set (z1_set h _ (z1_rd h _)) _ (z1_rd h _)
  · exact h
theorem z1_run : ∀ (rs : List Int) {v : List Int}, Z1 v → Z1 (runV rs v)
  | [], _, h => h
  | r :: rs, _, h => z1_run rs (z1_cmpx h r)
theorem z1_bits (n x : Nat) : Z1 (bitsV n x) := fun y hy => by
  unfold bitsV at hy
  obtain ⟨i, _, rfl⟩ := List.mem_map.1 hy
  have := Nat.mod_two_eq_zero_or_one (x / 2 ^ (n - 1 - i))
  omega
theorem z1_sum : ∀ {v : List Int}, Z1 v → 0 ≤ v.sum ∧ v.sum ≤ (v.length : Int)
  | [], _ => by simp
  | x :: v, h => by
    have h1 := h x List.mem_cons_self
    have h2 := z1_sum (v := v) (fun y hy => h y (List.mem_cons_of_mem _ hy))
    simp only [List.sum_cons, List.length_cons]
    omega
theorem perm_sum {a b : List Int} (h : a.Perm b) : a.sum = b.sum := by
  induction h with
  | nil => rfl
  | cons x _ ih => simp [ih]
  | swap x y l => simp; omega
  | trans _ _ h1 h2 => exact h1.trans h2
theorem z1_sorted : ∀ {v : List Int}, Z1 v → v.Pairwise (fun a b => decide (a ≤ b) = true) → ∀ i : Nat, i < v.length → v.getD i 0 = if (v.length : Int) - v.sum ≤ (i : Int) then 1 else 0
  | [], _, _, i, hi => by simp at hi
  | x :: v, h, hs, i, hi => by
    have h1 := h x List.mem_cons_self
    have hz : Z1 v := fun y hy => h y (List.mem_cons_of_mem _ hy)
    have h2 := z1_sum hz
    obtain ⟨h3, h4⟩ := List.pairwise_cons.1 hs
    have ih := z1_sorted hz h4
    have hlen : ((x :: v).length : Int) - (x :: v).sum = (v.length : Int) + 1 - (x + v.sum) := by simp only [List.length_cons, List.sum_cons]; omega
    rw [hlen]
    cases i with
    | zero =>
      show x = _
      rcases h1 with rfl | rfl
      · rw [if_neg (by omega)]
      · by_cases c : (v.length : Int) = v.sum
        · rw [if_pos (by omega)]
        · exfalso
          have : ∀ {u : List Int}, (∀ y ∈ u, decide ((1 : Int) ≤ y) = true) → Z1 u → u.sum = (u.length : Int) := by
            intro u
            induction u with
            | nil => intro _ _; rfl
            | cons y u ih =>
              intro ha hb
              have a1 := ha y List.mem_cons_self
              have b1 := hb y List.mem_cons_self
              have := ih (fun z hz => ha z (List.mem_cons_of_mem _ hz)) (fun z hz => hb z (List.mem_cons_of_mem _ hz))
              simp only [decide_eq_true_eq] at a1
              simp only [List.sum_cons, List.length_cons]
              omega
          exact c (this h3 hz).symm
    | succ i =>
      have hi' : i < v.length := by simpa using hi
      rw [List.getD_cons_succ, ih i hi']
      rcases h1 with rfl | rfl
      · by_cases c : (v.length : Int) - v.sum ≤ (i : Int)
        · rw [if_pos c, if_pos (by omega)]
        · rw [if_neg c, if_neg (by omega)]
      · have : ∀ {u : List Int}, (∀ y ∈ u, decide ((1 : Int) ≤ y) = true) → Z1 u → u.sum = (u.length : Int) := by
          intro u
          induction u with
          | nil => intro _ _; rfl
          | cons y u ih =>
            intro ha hb
            have a1 := ha y List.mem_cons_self
            have b1 := hb y List.mem_cons_self
            have := ih (fun z hz => ha z (List.mem_cons_of_mem _ hz)) (fun z hz => hb z (List.mem_cons_of_mem _ hz))
            simp only [decide_eq_true_eq] at a1
            simp only [List.sum_cons, List.length_cons]
            omega
        have := this h3 hz
        rw [if_pos (by omega), if_pos (by omega)]
/-- The sorted noughts and ones. -/
theorem srt_get {v : List Int} (h : Z1 v) (i : Nat) (hi : i < v.length) : (srtL v).getD i 0 = if (v.length : Int) - v.sum ≤ (i : Int) then 1 else 0 := by
  have hp := List.mergeSort_perm v (fun x y => decide (x ≤ y))
  have hs := List.pairwise_mergeSort (le := fun (x y : Int) => decide (x ≤ y)) (fun a b c h1 h2 => by simp only [decide_eq_true_eq] at *; omega) (fun a b => by simp only [Bool.or_eq_true, decide_eq_true_eq]; omega) v
  have := z1_sorted (v := srtL v) (fun x hx => h x (hp.mem_iff.1 hx)) hs i (by rw [srtL_length]; exact hi)
  rw [srtL_length, show (srtL v).sum = v.sum from perm_sum hp] at this
  exact this
/-- Do the first kk stand as in the sorted list? -/
def okV (l : List Int) (kk : Nat) (v : List Int) : Bool := decide (∀ j, j < kk → (runV l v).getD j 0 = (srtL v).getD j 0)
theorem sf_step (n : Nat) (hn : 2 ≤ n ∧ n ≤ 8) (kk : Nat) (hk : kk ≤ n) (l : List Int) (hb : l.length ≤ 60) (hr : ∀ r ∈ l, 0 ≤ r ∧ r ≤ (n : Int) - 2) (x k : Nat) (hK : 100 ≤ k) (so : Bool) : impl_SortsFirst.step k l kk so (bitsV n x) = some (so && okV l kk (bitsV n x)) := by
  have hl := bitsV_length n x
  have hr' : ∀ r ∈ l, 0 ≤ r ∧ r ≤ ((bitsV n x).length : Int) - 2 := by rw [hl]; exact hr
  have ho : (runV l (bitsV n x)).length = n := by rw [runV_length, hl]
  have hq : (srtL (bitsV n x)).length = n := by rw [srtL_length, hl]
  unfold impl_SortsFirst.step
  rw [if_pos (by omega)]
  cases so with
  | true =>
    rw [if_pos rfl, sorted l (bitsV n x) (by omega) (by omega) hr' k (by omega), Option.bind_some, if_pos (by omega), equalL _ _ (by rw [List.length_take, List.length_take]; omega) (by rw [List.length_take]; omega) k (by omega)]
    congr 1
    rw [Bool.true_and]
    unfold okV
    rw [decide_eq_decide, List.length_take, ho, show min kk n = kk by omega]
    have e : ∀ (v : List Int) (j : Nat), j < kk → (v.take kk).getD j 0 = v.getD j 0 := fun v j hj => by
      rw [List.getD_eq_getElem?_getD, List.getD_eq_getElem?_getD, List.getElem?_take_of_lt hj]
    exact ⟨fun H j hj => by have := H j hj; rwa [e _ j hj, e _ j hj] at this, fun H j hj => by rw [e _ j hj, e _ j hj]; exact H j hj⟩
  | false => rfl
theorem sf_fold_false (n : Nat) (hn : 2 ≤ n ∧ n ≤ 8) (kk : Nat) (hk : kk ≤ n) (l : List Int) (hb : l.length ≤ 60) (hr : ∀ r ∈ l, 0 ≤ r ∧ r ≤ (n : Int) - 2) (k : Nat) (hK : 100 ≤ k) : ∀ d x, bitsFold (impl_SortsFirst.step k l kk) n d x false = some false
  | 0, _ => rfl
  | d + 1, x => by
    rw [bitsFold, sf_step n hn kk hk l hb hr x k hK, Option.bind_some]
    exact sf_fold_false n hn kk hk l hb hr k hK d (x + 1)
end Go.Proofs.Ytnagcjhgojchlac.L
namespace Go.Proofs.Ytnagcjhgojchlac.L
open Go.RowKit Go.Proofs.Ytnagcjhgojchlac.Q Go.Proofs.YtnagcjhgojchlacW.PrintWords Go.Proofs.YtnagcjhgojchlacW.PrintLast
set_option linter.unusedVariables false
set_option linter.unusedSimpArgs false
theorem reverse_l0 (l : List Int) (hb : l.length ≤ 35184372088832) (d : Nat) : ∀ (i k : Nat) (x : List Int), l.length ≤ 2 * i + d → 2 * i ≤ l.length + 1 → x.length = l.length →
    (∀ j (h : j < x.length), x[j] = if j < i ∨ l.length - i ≤ j then l.reverse.getD j 0 else l.getD j 0) → d < k → slices_Reverse_int_int.l0 k x (i : Int) ((l.length : Int) - 1 - i) = some l.reverse := by
  induction d with
  | zero =>
    intro i k x hi hi2 hx hj hk
    obtain ⟨k, rfl⟩ : ∃ m, k = m + 1 := ⟨k - 1, by omega⟩
    simp only [slices_Reverse_int_int.l0]
    rw [if_neg (by omega)]
    congr 1
    apply List.ext_getElem (by rw [hx, List.length_reverse])
    intro j h1 h2
    rw [hj j h1, if_pos (by omega), List.getD_eq_getElem?_getD, List.getElem?_eq_getElem h2]
    rfl
  | succ d ih =>
    intro i k x hi hi2 hx hj hk
    obtain ⟨k, rfl⟩ : ∃ m, k = m + 1 := ⟨k - 1, by omega⟩
    by_cases hlt : (i : Int) < (l.length : Int) - 1 - i
    · simp only [slices_Reverse_int_int.l0]
      rw [if_pos hlt, if_pos (by omega), if_pos (by omega), if_pos (by omega), if_pos (by omega), wrap_id (by omega) (by omega), wrap_id (by omega) (by omega)]
      have e1 : (((l.length : Int) - 1 - i)).toNat = l.length - 1 - i := by omega
      have e2 : ((i : Int)).toNat = i := by omega
      have := ih (i + 1) k ((x.set i (rd x ((l.length : Int) - 1 - i))).set (l.length - 1 - i) (rd x (i : Int))) (by omega) (by omega) (by simp [hx]) ?_ (by omega)
      · rw [e1, e2, show (l.length : Int) - 1 - (i : Int) - 1 = (l.length : Int) - 1 - ((i + 1 : Nat) : Int) from by omega]
        exact_mod_cast this
      · intro j h
        simp only [List.length_set] at h
        have hr1 : rd x ((l.length : Int) - 1 - i) = l.getD (l.length - 1 - i) 0 := by
          have e3 : (l.length : Int) - 1 - (i : Int) = ((l.length - 1 - i : Nat) : Int) := by omega
          rw [e3, rd_nat x _ (by omega), hj _ (by omega), if_neg (by omega)]
        have hr2 : rd x (i : Int) = l.getD i 0 := by
          rw [rd_nat x _ (by omega), hj _ (by omega), if_neg (by omega)]
        have hrev : ∀ q, q < l.length → l.reverse.getD q 0 = l.getD (l.length - 1 - q) 0 := by
          intro q hq
          rw [List.getD_eq_getElem?_getD, List.getD_eq_getElem?_getD, List.getElem?_reverse (by omega)]
        rw [List.getElem_set, List.getElem_set]
        by_cases a1 : l.length - 1 - i = j
        · rw [if_pos a1, if_pos (by omega), hr2, hrev j (by omega), show l.length - 1 - j = i from by omega]
        · rw [if_neg a1]
          by_cases a2 : i = j
          · rw [if_pos a2, if_pos (by omega), hr1, hrev j (by omega), show l.length - 1 - j = l.length - 1 - i from by omega]
          · rw [if_neg a2, hj j (by omega)]
            by_cases a3 : j < i ∨ l.length - i ≤ j
            · rw [if_pos a3, if_pos (by omega)]
            · rw [if_neg a3, if_neg (by omega)]
    · simp only [slices_Reverse_int_int.l0]
      rw [if_neg hlt]
      congr 1
      apply List.ext_getElem (by rw [hx, List.length_reverse])
      intro j h1 h2
      rw [hj j h1]
      by_cases a3 : j < i ∨ l.length - i ≤ j
      · rw [if_pos a3, List.getD_eq_getElem?_getD, List.getElem?_eq_getElem h2]
        rfl
      · rw [if_neg a3, List.getElem_reverse, List.getD_eq_getElem?_getD, List.getElem?_eq_getElem (by omega)]
        have : j = l.length - 1 - j := by omega
        simp only [Option.getD_some]
        congr 1
theorem reverseI (l : List Int) (hb : l.length ≤ 35184372088832) (k : Nat) (hk : l.length + 2 ≤ k) : slices_Reverse_int_int.f k l = some l.reverse := by
  unfold slices_Reverse_int_int.f
  rw [wrap_id (by omega) (by omega)]
  have := reverse_l0 l hb l.length 0 k l (by omega) (by omega) rfl (fun j h => by
    rw [if_neg (by omega), List.getD_eq_getElem?_getD, List.getElem?_eq_getElem h]
    rfl) (by omega)
  simpa using this
end Go.Proofs.Ytnagcjhgojchlac.L
namespace Go.Proofs.Ytnagcjhgojchlac.L
open Go.RowKit Go.Proofs.Ytnagcjhgojchlac.Q Go.Proofs.YtnagcjhgojchlacW.PrintWords Go.Proofs.YtnagcjhgojchlacW.PrintLast
set_option linter.unusedVariables false
set_option linter.unusedSimpArgs false
theorem lift_k {α : Type} {f : Nat → Option α} (h : ∀ k, LeO (f k) (f (k + 1))) {K : Nat} {r : α} (hk : f K = some r) : ∀ k, K ≤ k → f k = some r := by
  intro k hle
  induction hle with
  | refl => exact hk
  | step _ ih => exact h _ _ ih
theorem less_eq (a b : Int) : cmp_Less_int.f a b = some (decide (a < b)) := by
  simp [cmp_Less_int.f, cmp_isNaN_int.f]
theorem isSorted_l0 (v : List Int) (hb : v.length ≤ 35184372088832) : ∀ (i k : Nat), i < v.length → i < k → slices_IsSorted_int_int.l0 k v (i : Int) = some (decide (∀ j, j < i → v.getD j 0 ≤ v.getD (j + 1) 0))
  | 0, k, hi, hk => by
    obtain ⟨k, rfl⟩ : ∃ m, k = m + 1 := ⟨k - 1, by omega⟩
    simp only [slices_IsSorted_int_int.l0]
    rw [if_neg (by omega), decide_eq_true (by intro j hj; omega)]
  | i + 1, k, hi, hk => by
    obtain ⟨k, rfl⟩ : ∃ m, k = m + 1 := ⟨k - 1, by omega⟩
    have ih := isSorted_l0 v hb i k (by omega) (by omega)
    simp only [slices_IsSorted_int_int.l0]
    have e : (((i + 1 : Nat) : Int)) - 1 = (i : Int) := by omega
    rw [e, wrap_id (n := (i : Int)) (by omega) (by omega), if_pos (by omega), if_pos (by omega), if_pos (by omega), if_pos (by omega), if_pos (by omega), less_eq, Option.bind_some]
    have e1 : rd v (((i + 1 : Nat)) : Int) = v.getD (i + 1) 0 := rfl
    have e2 : rd v (i : Int) = v.getD i 0 := rfl
    rw [e1, e2]
    by_cases h : v.getD (i + 1) 0 < v.getD i 0
    · rw [decide_eq_true h, if_pos rfl, decide_eq_false]
      intro h2
      have := h2 i (by omega)
      omega
    · rw [decide_eq_false h, if_neg (by decide), ih]
      congr 1
      apply decide_eq_decide.2
      constructor
      · intro h2 j hj
        by_cases hji : j = i
        · subst hji; omega
        · exact h2 j (by omega)
      · intro h2 j hj
        exact h2 j (by omega)
theorem isSorted (v : List Int) (hb : v.length ≤ 35184372088832) (k : Nat) (hk : v.length + 1 ≤ k) : slices_IsSorted_int_int.f k v = some (srtB v) := by
  unfold slices_IsSorted_int_int.f
  rw [wrap_id (by omega) (by omega)]
  by_cases h0 : v.length = 0
  · obtain rfl := List.eq_nil_of_length_eq_zero h0
    obtain ⟨k, rfl⟩ : ∃ m, k = m + 1 := ⟨k - 1, by omega⟩
    simp [slices_IsSorted_int_int.l0, srtB]
  · rw [show (v.length : Int) - 1 = ((v.length - 1 : Nat) : Int) from by omega, isSorted_l0 v hb _ k (by omega) (by omega)]
    congr 1
    rw [Bool.eq_iff_iff, decide_eq_true_eq, srtB_iff]
    exact ⟨fun h i hi => h i (by omega), fun h i hi => h i (by omega)⟩
theorem soSorted_l0 (v : List Int) (hb : v.length ≤ 35184372088832) (d : Nat) : ∀ (i k : Nat), i + d = v.length → 1 ≤ i → d < k → (∀ j, j + 1 < i → v.getD j 0 ≤ v.getD (j + 1) 0) → spec_soSorted.l0 k v (i : Int) = some (srtB v) := by
  induction d with
  | zero =>
    intro i k hi h1 hk hs
    obtain ⟨k, rfl⟩ : ∃ m, k = m + 1 := ⟨k - 1, by omega⟩
    simp only [spec_soSorted.l0]
    rw [if_neg (by omega), (srtB_iff v).2 (fun j hj => hs j (by omega))]
  | succ d ih =>
    intro i k hi h1 hk hs
    obtain ⟨k, rfl⟩ : ∃ m, k = m + 1 := ⟨k - 1, by omega⟩
    simp only [spec_soSorted.l0]
    rw [if_pos (by omega), wrap_id (n := (i : Int) - 1) (by omega) (by omega), if_pos (by omega), if_pos (by omega), if_pos (by omega), show (i : Int) - 1 = ((i - 1 : Nat) : Int) from by omega]
    have e1 : rd v (((i - 1 : Nat)) : Int) = v.getD (i - 1) 0 := rfl
    have e2 : rd v (i : Int) = v.getD i 0 := rfl
    rw [e1, e2]
    by_cases h : v.getD (i - 1) 0 > v.getD i 0
    · rw [if_pos h]
      congr 1
      cases hv : srtB v with
      | false => rfl
      | true =>
        have := (srtB_iff v).1 hv (i - 1) (by omega)
        rw [show i - 1 + 1 = i from by omega] at this
        omega
    · rw [if_neg h, wrap_id (by omega) (by omega)]
      have := ih (i + 1) k (by omega) (by omega) (by omega) (fun j hj => by
        by_cases hji : j + 1 = i
        · rw [show j = i - 1 from by omega, show i - 1 + 1 = i from by omega]
          omega
        · exact hs j (by omega))
      exact_mod_cast this
theorem soSorted (rs v : List Int) (hb : rs.length ≤ 8796093022208) (hv : v.length ≤ 35184372088832 / 4) (hr : ∀ r ∈ rs, 0 ≤ r ∧ r ≤ (v.length : Int) - 2) (k : Nat) (hk : rs.length + v.length + 2 ≤ k) : spec_soSorted.f k rs v = some (srtB (runV rs v)) := by
  unfold spec_soSorted.f
  rw [soRun rs v hb hv hr k (by omega), Option.bind_some]
  have hl := runV_length rs v
  by_cases h0 : v.length = 0
  · obtain ⟨k, rfl⟩ : ∃ m, k = m + 1 := ⟨k - 1, by omega⟩
    have h1 : runV rs v = [] := List.eq_nil_of_length_eq_zero (by omega)
    simp [h1, spec_soSorted.l0, srtB]
  · exact_mod_cast soSorted_l0 (runV rs v) (by omega) (v.length - 1) 1 k (by omega) (by omega) (by omega) (fun j hj => by omega)
/-- The noughts and ones of a number, the greatest place first. -/
def bitsL (n x : Nat) : List Int := (List.range n).map fun i => ((x / 2 ^ (n - 1 - i) % 2 : Nat) : Int)
theorem bitsL_length (n x : Nat) : (bitsL n x).length = n := by simp [bitsL]
theorem soBits_fin : ∀ n ∈ List.range 9, ∀ x ∈ List.range (2 ^ n), spec_soBits.f 12 (n : Int) (x : Int) = some (bitsL n x) := by decide +kernel
theorem soBits (n x : Nat) (hn : n ≤ 8) (hx : x < 2 ^ n) (k : Nat) (hk : 12 ≤ k) : spec_soBits.f k (n : Int) (x : Int) = some (bitsL n x) :=
  lift_k (f := fun k => spec_soBits.f k (n : Int) (x : Int)) (fun k => spec_soBits.mono _ _ k) (soBits_fin n (List.mem_range.2 (by omega)) x (List.mem_range.2 hx)) k hk
theorem shl_fin : ∀ n ∈ List.range 9, shl .i64 1 (n : Int) = ((2 ^ n : Nat) : Int) := by decide +kernel
theorem ones_fin : ∀ n ∈ List.range 9, ∀ a ∈ List.range (n + 1), oneso a n = bitsL n (2 ^ n - 2 ^ (n - a)) := by decide +kernel
theorem pow_le (n : Nat) (hn : n ≤ 8) : 2 ^ n ≤ 256 := Nat.pow_le_pow_right (n := 2) (by omega) hn
theorem soAll_l0 (n : Nat) (hn : n ≤ 8) (rs : List Int) (hb : rs.length ≤ 60) (hr : ∀ r ∈ rs, 0 ≤ r ∧ r ≤ (n : Int) - 2) (d : Nat) : ∀ (x k : Nat), x + d = 2 ^ n → d + 80 ≤ k → (∀ y, y < x → srtB (runV rs (bitsL n y)) = true) → spec_soAll.l0 k (n : Int) rs (x : Int) = some (srtB (runV rs (down n))) := by
  have hp := pow_le n hn
  have hsh := shl_fin n (List.mem_range.2 (by omega))
  induction d with
  | zero =>
    intro x k hx hk hs
    obtain ⟨k, rfl⟩ : ∃ m, k = m + 1 := ⟨k - 1, by omega⟩
    simp only [spec_soAll.l0]
    rw [if_pos (by omega), hsh, if_neg (by omega)]
    congr 1
    symm
    refine all_down n rs hr (fun a ha => ?_)
    rw [ones_fin n (List.mem_range.2 (by omega)) a (List.mem_range.2 (by omega))]
    have : 0 < 2 ^ (n - a) := Nat.pow_pos (by omega)
    have h2 : 0 < 2 ^ n := Nat.pow_pos (by omega)
    exact hs _ (by omega)
  | succ d ih =>
    intro x k hx hk hs
    obtain ⟨k, rfl⟩ : ∃ m, k = m + 1 := ⟨k - 1, by omega⟩
    simp only [spec_soAll.l0]
    rw [if_pos (by omega), hsh, if_pos (by omega), soBits n x hn (by omega) k (by omega), Option.bind_some, soSorted rs (bitsL n x) (by omega) (by rw [bitsL_length]; omega) (by rw [bitsL_length]; exact hr) k (by rw [bitsL_length]; omega), Option.bind_some]
    cases hq : srtB (runV rs (bitsL n x)) with
    | true =>
      rw [if_pos rfl, wrap_id (by omega) (by omega)]
      have := ih (x + 1) k (by omega) (by omega) (fun y hy => by
        by_cases hyx : y = x
        · rw [hyx, hq]
        · exact hs y (by omega))
      exact_mod_cast this
    | false =>
      rw [if_neg (by decide)]
      congr 1
      cases hd : srtB (runV rs (down n)) with
      | false => rfl
      | true => rw [← hq, down_all n rs hr hd _ (bitsL_length n x)]
theorem soAll (n : Nat) (hn : n ≤ 8) (rs : List Int) (hb : rs.length ≤ 60) (hr : ∀ r ∈ rs, 0 ≤ r ∧ r ≤ (n : Int) - 2) (k : Nat) (hk : 400 ≤ k) : spec_soAll.f k (n : Int) rs = some (srtB (runV rs (down n))) := by
  have hp := pow_le n hn
  unfold spec_soAll.f
  exact_mod_cast soAll_l0 n hn rs hb hr (2 ^ n) 0 k (by omega) (by omega) (fun y hy => by omega)
/-- 0, 1, .. -/
def idL (n : Nat) : List Int := (List.range n).map fun (i : Nat) => (i : Int)
theorem idL_length (n : Nat) : (idL n).length = n := by simp [idL]
theorem identity_fin : ∀ n ∈ List.range 9, impl_identity.f 12 (n : Int) = some (idL n) := by decide +kernel
theorem rev_fin : ∀ n ∈ List.range 9, (idL n).reverse = down n := by decide +kernel
theorem isSorting (n : Nat) (hn : n ≤ 8) (rs : List Int) (hb : rs.length ≤ 60) (hr : ∀ r ∈ rs, 0 ≤ r ∧ r ≤ (n : Int) - 2) (k : Nat) (hk : 400 ≤ k) : impl_isSorting.f k (n : Int) rs = some (srtB (runV rs (down n))) := by
  have e1 : impl_identity.f k (n : Int) = some (idL n) := lift_k (f := fun k => impl_identity.f k (n : Int)) (fun k => impl_identity.mono _ k) (identity_fin n (List.mem_range.2 (by omega))) k (by omega)
  unfold impl_isSorting.f
  rw [e1, Option.bind_some, reverseI _ (by rw [idL_length]; omega) k (by rw [idL_length]; omega), Option.bind_some, rev_fin n (List.mem_range.2 (by omega)), sorted rs (down n) (by omega) (by rw [down_length]; omega) (by rw [down_length]; exact hr) k (by omega), Option.bind_some, isSorted _ (by rw [runV_length, down_length]; omega) k (by rw [runV_length, down_length]; omega), Option.bind_some]
end Go.Proofs.Ytnagcjhgojchlac.L
namespace Go.Proofs.Ytnagcjhgojchlac.L
open Go.RowKit Go.Proofs.Ytnagcjhgojchlac.Q Go.Proofs.YtnagcjhgojchlacW.PrintWords Go.Proofs.YtnagcjhgojchlacW.PrintLast
set_option linter.unusedVariables false
set_option linter.unusedSimpArgs false
def foldO {α : Type} (step : α → Int → Option α) : List Int → α → Option α
  | [], s => some s
  | u :: us, s => (step s u).bind fun s2 => foldO step us s2
theorem foldO_app {α : Type} (step : α → Int → Option α) : ∀ (a b : List Int) (s : α), foldO step (a ++ b) s = (foldO step a s).bind fun s2 => foldO step b s2
  | [], b, s => rfl
  | u :: a, b, s => by
    show (step s u).bind (fun s2 => foldO step (a ++ b) s2) = ((step s u).bind fun s2 => foldO step a s2).bind fun s2 => foldO step b s2
    cases step s u with
    | none => rfl
    | some s2 => exact foldO_app step a b s2
theorem usedV_mem : ∀ (rs v : List Int) (i u : Int), u ∈ usedV rs v i → i ≤ u ∧ u < i + rs.length
  | [], v, i, u, h => by simp [usedV] at h
  | r :: rs, v, i, u, h => by
    simp only [usedV, List.mem_append] at h
    rcases h with h | h
    · split at h
      · simp at h
        subst h
        simp only [List.length_cons]
        omega
      · simp at h
    · have := usedV_mem rs (cmpx v r) (i + 1) u h
      simp only [List.length_cons]
      omega
theorem compareG_l0 {α : Type} (step : α → Int → Option α) (rs : List Int) (n : Nat) (hb : rs.length ≤ 35184372088832) (hn : n ≤ 35184372088832) (hr : ∀ r ∈ rs, 0 ≤ r ∧ r ≤ (n : Int) - 2) (d : Nat) : ∀ (i k : Nat) (v : List Int) (s : α), i + d = rs.length → v.length = n → d < k → impl_compareG.l0 step k v rs (rs.length : Int) (i : Int) s = (foldO step (usedV (rs.drop i) v (i : Int)) s).bind fun s2 => some (runV (rs.drop i) v, s2) := by
  induction d with
  | zero =>
    intro i k v s hi hv hk
    obtain ⟨k, rfl⟩ : ∃ m, k = m + 1 := ⟨k - 1, by omega⟩
    simp only [impl_compareG.l0]
    rw [if_neg (by omega), show i = rs.length from by omega, List.drop_length]
    rfl
  | succ d ih =>
    intro i k v s hi hv hk
    obtain ⟨k, rfl⟩ : ∃ m, k = m + 1 := ⟨k - 1, by omega⟩
    have hx := hr rs[i] (List.getElem_mem _)
    have IH := fun s => ih (i + 1) k (cmpx v rs[i]) s (by omega) (by rw [cmpx_length]; exact hv) (by omega)
    simp only [impl_compareG.l0]
    rw [if_pos (by omega), if_pos (by omega), if_pos (by omega), rd_nat rs i (by omega), wrap_id (n := rs[i] + 1) (by omega) (by omega), if_pos (by omega), if_pos (by omega), if_pos (by omega), if_pos (by omega), wrap_id (n := (i : Int) + 1) (by omega) (by omega), List.drop_eq_getElem_cons (by omega), runV, usedV]
    by_cases h : rd v rs[i] > rd v (rs[i] + 1)
    · have e : cmpx v rs[i] = (v.set (rs[i]).toNat (rd v (rs[i] + 1))).set (rs[i] + 1).toNat (rd v rs[i]) := by unfold cmpx; rw [if_pos h]
      rw [if_pos h, if_pos h, foldO_app]
      rw [e] at IH ⊢
      have e1 : foldO step [(i : Int)] s = step s (i : Int) := by
        show (step s (i : Int)).bind (fun s2 => some s2) = _
        cases step s (i : Int) <;> rfl
      rw [e1]
      cases step s (i : Int) with
      | none => rfl
      | some s2 =>
        simp only [Option.bind_some]
        exact_mod_cast IH s2
    · have e : cmpx v rs[i] = v := by unfold cmpx; rw [if_neg h]
      rw [if_neg h, if_neg h]
      rw [e] at IH ⊢
      exact_mod_cast IH s
theorem compareG {α : Type} (step : α → Int → Option α) (rs v : List Int) (s : α) (hb : rs.length ≤ 35184372088832) (hv : v.length ≤ 35184372088832 / 4) (hr : ∀ r ∈ rs, 0 ≤ r ∧ r ≤ (v.length : Int) - 2) (k : Nat) (hk : rs.length + 1 ≤ k) : impl_compareG.f step k rs v s = (foldO step (usedV rs v 0) s).bind fun s2 => some (runV rs v, s2) := by
  unfold impl_compareG.f slices_Clone_int_int.f
  rw [if_pos (by omega), Option.bind_some]
  have := compareG_l0 step rs v.length hb (by omega) hr rs.length 0 k v s (by omega) rfl (by omega)
  rw [List.drop_zero] at this
  exact_mod_cast this
end Go.Proofs.Ytnagcjhgojchlac.L
namespace Go.Proofs.Ytnagcjhgojchlac.L
open Go.RowKit Go.Proofs.Ytnagcjhgojchlac.Q Go.Proofs.YtnagcjhgojchlacW.PrintWords Go.Proofs.YtnagcjhgojchlacW.PrintLast
set_option linter.unusedVariables false
set_option linter.unusedSimpArgs false
def markB (b : List Bool) : List Int → List Bool
  | [] => b
  | u :: us => markB (b.set u.toNat true) us
theorem markB_length : ∀ (us : List Int) (b : List Bool), (markB b us).length = b.length
  | [], b => rfl
  | u :: us, b => by rw [markB, markB_length us, List.length_set]
theorem foldO_mark : ∀ (us : List Int) (b : List Bool), (∀ u ∈ us, 0 ≤ u ∧ u < (b.length : Int)) → foldO impl_busy.mark us b = some (markB b us)
  | [], b, _ => rfl
  | u :: us, b, h => by
    have h1 := h u List.mem_cons_self
    rw [foldO, impl_busy.mark, if_pos h1.1, if_pos h1.2, Option.bind_some, markB]
    exact foldO_mark us _ (fun x hx => by rw [List.length_set]; exact h x (List.mem_cons_of_mem _ hx))
theorem busy_step (l : List Int) (n : Nat) (hn : n ≤ 8) (h3 : l.length ≤ 60) (h4 : ∀ r ∈ l, 0 ≤ r ∧ r ≤ (n : Int) - 2) (b : List Bool) (hb : b.length = l.length) (x k : Nat) (hk : 90 ≤ k) : impl_busy.step k l b (bitsV n x) = some (markB b (usedV l (bitsL n x) 0)) := by
  unfold impl_busy.step
  rw [show bitsV n x = bitsL n x from rfl, compareG impl_busy.mark l (bitsL n x) b (by omega) (by rw [bitsL_length]; omega) (by rw [bitsL_length]; exact h4) k (by omega), foldO_mark _ _ (fun u hu => by
    have := usedV_mem _ _ _ _ hu
    omega)]
  rfl
end Go.Proofs.Ytnagcjhgojchlac.L
namespace Go.Proofs.Ytnagcjhgojchlac.L
open Go.RowKit Go.Proofs.Ytnagcjhgojchlac.Q Go.Proofs.YtnagcjhgojchlacW.PrintWords Go.Proofs.YtnagcjhgojchlacW.PrintLast
set_option linter.unusedVariables false
set_option linter.unusedSimpArgs false
theorem foldO_append : ∀ (us o : List Int), us.length + o.length ≤ 900 → foldO impl_ExchangesOf.step us o = some (o ++ us)
  | [], o, _ => by simp [foldO]
  | u :: us, o, h => by
    simp only [List.length_cons] at h
    rw [foldO, impl_ExchangesOf.step, if_pos (by omega), Option.bind_some, foldO_append us (o ++ [u]) (by simp; omega)]
    simp
end Go.Proofs.Ytnagcjhgojchlac.L
namespace Go.Proofs.Ytnagcjhgojchlac.L
open Go.RowKit Go.Proofs.Ytnagcjhgojchlac.Q Go.Proofs.YtnagcjhgojchlacW.PrintWords Go.Proofs.YtnagcjhgojchlacW.PrintLast
set_option linter.unusedVariables false
set_option linter.unusedSimpArgs false
def ALL (n : Nat) (l : List Int) : Bool := srtB (runV l (down n))
theorem run_srt (n : Nat) : ∀ (rs v : List Int), v.length = n → (∀ r ∈ rs, 0 ≤ r ∧ r ≤ (n : Int) - 2) → srtB v = true → runV rs v = v
  | [], v, _, _, _ => rfl
  | r :: rs, v, hv, hr, hs => by
    have h := hr r List.mem_cons_self
    obtain ⟨q, rfl⟩ : ∃ q : Nat, r = (q : Int) := ⟨r.toNat, by omega⟩
    have e : cmpx v (q : Int) = v := by
      rw [cmpx_nat, if_neg]
      have := (srtB_iff v).1 hs q (by omega)
      omega
    rw [runV, e]
    exact run_srt n rs v hv (fun x hx => hr x (List.mem_cons_of_mem _ hx)) hs
theorem run_app : ∀ (a b v : List Int), runV (a ++ b) v = runV b (runV a v)
  | [], _, _ => rfl
  | r :: a, b, v => by
    rw [List.cons_append, runV, runV]
    exact run_app a b _
theorem all_take (n : Nat) (l : List Int) (hr : ∀ r ∈ l, 0 ≤ r ∧ r ≤ (n : Int) - 2) (i : Nat) (h : srtB (runV (l.take i) (down n)) = true) : ALL n l = true := by
  have e : runV l (down n) = runV (l.drop i) (runV (l.take i) (down n)) := by rw [← run_app, List.take_append_drop]
  unfold ALL
  rw [e, run_srt n _ _ (by rw [runV_length, down_length]) (fun r hx => hr r (List.mem_of_mem_drop hx)) h]
  exact h
theorem all_bits (n : Nat) (hn : n ≤ 8) (l : List Int) (hr : ∀ r ∈ l, 0 ≤ r ∧ r ≤ (n : Int) - 2) : ALL n l = true ↔ ∀ x, x < 2 ^ n → srtB (runV l (bitsL n x)) = true := by
  constructor
  · intro h x hx
    exact down_all n l hr h _ (bitsL_length n x)
  · intro H
    refine all_down n l hr fun a ha => ?_
    rw [ones_fin n (List.mem_range.2 (by omega)) a (List.mem_range.2 (by omega))]
    have h1 : 0 < 2 ^ (n - a) := Nat.pow_pos (by omega)
    have h2 : 2 ^ (n - a) ≤ 2 ^ n := Nat.pow_le_pow_right (by omega) (by omega)
    exact H _ (by omega)
theorem cnt_step (n : Nat) (hn : n ≤ 8) (l : List Int) (h3 : l.length ≤ 60) (h4 : ∀ r ∈ l, 0 ≤ r ∧ r ≤ (n : Int) - 2) (k : Nat) (hk : 90 ≤ k) (x : Nat) (m : Int) : impl_CountBitsSorted.step k l m (bitsV n x) = some (if srtB (runV l (bitsL n x)) = true then wrap64 (m + 1) else m) := by
  have hr : ∀ r ∈ l, 0 ≤ r ∧ r ≤ ((bitsL n x).length : Int) - 2 := by rw [bitsL_length]; exact h4
  unfold impl_CountBitsSorted.step
  rw [show bitsV n x = bitsL n x from rfl, sorted l (bitsL n x) (by omega) (by rw [bitsL_length]; omega) hr k (by omega), Option.bind_some, isSorted _ (by rw [runV_length, bitsL_length]; omega) k (by rw [runV_length, bitsL_length]; omega), Option.bind_some]
theorem countBits_law (n : Nat) (hn : n ≤ 8) (l : List Int) (h3 : l.length ≤ 60) (h4 : ∀ r ∈ l, 0 ≤ r ∧ r ≤ (n : Int) - 2) : ∀ (d x : Nat) (m : Int), x + d = 2 ^ n → 0 ≤ m → m + d ≤ 100000 → ∃ r : Int, (∀ k, d + 90 ≤ k → spec_CountBitsSorted.l0 k m (x : Int) (n : Int) l = some (r, true)) ∧ (∀ k, 90 ≤ k → bitsFold (impl_CountBitsSorted.step k l) n d x m = some r) ∧ m ≤ r ∧ r ≤ m + d ∧ (r = m + d ↔ ∀ y, x ≤ y → y < 2 ^ n → srtB (runV l (bitsL n y)) = true)
  | 0, x, m, hx, h0, h1 => by
    have hsh := shl_fin n (List.mem_range.2 (by omega))
    refine ⟨m, fun k hk => ?_, fun k hk => rfl, by omega, by omega, fun _ y h5 h6 => by omega, fun _ => ?_⟩
    · obtain ⟨k, rfl⟩ : ∃ m, k = m + 1 := ⟨k - 1, by omega⟩
      simp only [spec_CountBitsSorted.l0]
      rw [if_pos (by omega), hsh, if_neg (by omega)]
    · simp
  | d + 1, x, m, hx, h0, h1 => by
    have hp := pow_le n hn
    have hsh := shl_fin n (List.mem_range.2 (by omega))
    have hr : ∀ r ∈ l, 0 ≤ r ∧ r ≤ ((bitsL n x).length : Int) - 2 := by rw [bitsL_length]; exact h4
    have hm : (if srtB (runV l (bitsL n x)) = true then wrap64 (m + 1) else m) = (if srtB (runV l (bitsL n x)) = true then m + 1 else m) := by rw [wrap_id (by omega) (by omega)]
    obtain ⟨r, hS, hI, g1, g2, g3⟩ := countBits_law n hn l h3 h4 d (x + 1) (if srtB (runV l (bitsL n x)) = true then m + 1 else m) (by omega) (by split <;> omega) (by split <;> omega)
    refine ⟨r, fun k hk => ?_, fun k hk => ?_, by split at g1 <;> omega, by split at g2 <;> omega, ?_⟩
    · obtain ⟨k, rfl⟩ : ∃ m, k = m + 1 := ⟨k - 1, by omega⟩
      simp only [spec_CountBitsSorted.l0]
      rw [if_pos (by omega), hsh, if_pos (by omega), soBits n x hn (by omega) k (by omega), Option.bind_some, soSorted l (bitsL n x) (by omega) (by rw [bitsL_length]; omega) hr k (by rw [bitsL_length]; omega), Option.bind_some, wrap_id (n := (x : Int) + 1) (by omega) (by omega), wrap_id (n := m + 1) (by omega) (by omega)]
      have := hS k (by omega)
      split <;> simp_all
    · rw [bitsFold, cnt_step n hn l h3 h4 k hk x m, Option.bind_some, hm]
      exact hI k hk
    · constructor
      · intro e y hy hy2
        by_cases c : srtB (runV l (bitsL n x)) = true
        · rw [if_pos c] at g2 g3
          by_cases z : y = x
          · rw [z]; exact c
          · exact g3.1 (by omega) y (by omega) hy2
        · rw [if_neg c] at g2
          omega
      · intro H
        have c := H x (by omega) (by omega)
        rw [if_pos c] at g3
        have := g3.2 (fun y hy hy2 => H y (by omega) hy2)
        omega
theorem firstBits_law (n : Nat) (hn : n ≤ 8) (hn0 : 0 < n) (l : List Int) (h3 : l.length ≤ 60) (h4 : ∀ r ∈ l, 0 ≤ r ∧ r ≤ (n : Int) - 2) : ∀ (d x : Nat), x + d = 2 ^ n → ∃ r : List Int, (∀ k, d + 90 ≤ k → spec_FirstBitsUnsorted.l0 k (x : Int) (n : Int) l = some (r, !r.isEmpty)) ∧ (∀ k, 90 ≤ k → bitsFold (impl_FirstBitsUnsorted.step k l) n d x [] = some r) ∧
    ((r = [] ∧ ∀ y, x ≤ y → y < 2 ^ n → srtB (runV l (bitsL n y)) = true) ∨ (r.length = n ∧ srtB (runV l r) = false ∧ ∃ y, y < 2 ^ n ∧ r = bitsL n y))
  | 0, x, hx => by
    have hsh := shl_fin n (List.mem_range.2 (by omega))
    refine ⟨[], fun k hk => ?_, fun k hk => rfl, Or.inl ⟨rfl, fun y h1 h2 => by omega⟩⟩
    obtain ⟨k, rfl⟩ : ∃ m, k = m + 1 := ⟨k - 1, by omega⟩
    simp only [spec_FirstBitsUnsorted.l0]
    rw [if_pos (by omega), hsh, if_neg (by omega)]
    rfl
  | d + 1, x, hx => by
    have hp := pow_le n hn
    have hsh := shl_fin n (List.mem_range.2 (by omega))
    have hr : ∀ r ∈ l, 0 ≤ r ∧ r ≤ ((bitsL n x).length : Int) - 2 := by rw [bitsL_length]; exact h4
    have hne : bitsL n x ≠ [] := fun h => by have := bitsL_length n x; rw [h] at this; simp at this; omega
    have eS : ∀ k, d + 90 ≤ k → spec_FirstBitsUnsorted.l0 (k + 1) (x : Int) (n : Int) l = if srtB (runV l (bitsL n x)) = true then spec_FirstBitsUnsorted.l0 k ((x : Int) + 1) (n : Int) l else some (bitsL n x, true) := by
      intro k hk
      simp only [spec_FirstBitsUnsorted.l0]
      rw [if_pos (by omega), hsh, if_pos (by omega), soBits n x hn (by omega) k (by omega), Option.bind_some, soSorted l (bitsL n x) (by omega) (by rw [bitsL_length]; omega) hr k (by rw [bitsL_length]; omega), Option.bind_some, wrap_id (n := (x : Int) + 1) (by omega) (by omega)]
    have eI : ∀ k, 90 ≤ k → impl_FirstBitsUnsorted.step k l [] (bitsV n x) = some (if srtB (runV l (bitsL n x)) = true then [] else bitsL n x) := by
      intro k hk
      unfold impl_FirstBitsUnsorted.step
      rw [show bitsV n x = bitsL n x from rfl, if_neg hne, if_pos rfl, sorted l (bitsL n x) (by omega) (by rw [bitsL_length]; omega) hr k (by omega), Option.bind_some, isSorted _ (by rw [runV_length, bitsL_length]; omega) k (by rw [runV_length, bitsL_length]; omega), Option.bind_some]
    cases hq : srtB (runV l (bitsL n x)) with
    | true =>
      obtain ⟨r, hS, hI, hP⟩ := firstBits_law n hn hn0 l h3 h4 d (x + 1) (by omega)
      refine ⟨r, fun k hk => ?_, fun k hk => ?_, ?_⟩
      · obtain ⟨k, rfl⟩ : ∃ m, k = m + 1 := ⟨k - 1, by omega⟩
        rw [eS k (by omega), hq, if_pos rfl]
        exact_mod_cast hS k (by omega)
      · rw [bitsFold, eI k hk, Option.bind_some, hq, if_pos rfl]
        exact hI k hk
      · rcases hP with ⟨a, b⟩ | h
        · refine Or.inl ⟨a, fun y h1 h2 => ?_⟩
          by_cases z : y = x
          · rw [z]; exact hq
          · exact b y (by omega) h2
        · exact Or.inr h
    | false =>
      refine ⟨bitsL n x, fun k hk => ?_, fun k hk => ?_, Or.inr ⟨bitsL_length n x, hq, x, by omega, rfl⟩⟩
      · obtain ⟨k, rfl⟩ : ∃ m, k = m + 1 := ⟨k - 1, by omega⟩
        rw [eS k (by omega), hq, if_neg (by decide)]
        congr 2
        cases hb : bitsL n x with
        | nil => exact absurd hb hne
        | cons a b => rfl
      · rw [bitsFold, eI k hk, Option.bind_some, hq, if_neg (by decide)]
        have keep2 : ∀ (o : List Int), o ≠ [] → ∀ d x, bitsFold (impl_FirstBitsUnsorted.step k l) n d x o = some o := by
          intro o ho d
          induction d with
          | zero => intro x; rfl
          | succ d ih =>
            intro x
            have hx : bitsV n x ≠ [] := fun h => by have := bitsV_length n x; rw [h] at this; simp at this; omega
            rw [bitsFold, show impl_FirstBitsUnsorted.step k l o (bitsV n x) = some o from by unfold impl_FirstBitsUnsorted.step; rw [if_neg hx, if_neg ho], Option.bind_some]
            exact ih (x + 1)
        exact keep2 _ hne d (x + 1)
theorem leastBeginning_law (n : Nat) (hn : n ≤ 8) (l : List Int) (h3 : l.length ≤ 60) (h4 : ∀ r ∈ l, 0 ≤ r ∧ r ≤ (n : Int) - 2) : ∀ (d i : Nat), i + d = l.length + 1 → ∃ r : Int × Bool, (∀ k, d + 401 ≤ k → spec_LeastBeginning.l0 k (i : Int) (n : Int) l = some r) ∧ (∀ k, d + 401 ≤ k → impl_LeastBeginning.l0 k ((l.length : Int) + 1) (i : Int) (n : Int) l = some r) ∧
    ((r.2 = true ∧ ∃ j : Nat, j ≤ l.length ∧ r.1 = (j : Int) ∧ srtB (runV (l.take j) (down n)) = true) ∨ (r.2 = false ∧ ∀ j, i ≤ j → j ≤ l.length → srtB (runV (l.take j) (down n)) = false))
  | 0, i, hi => by
    refine ⟨(0, false), fun k hk => ?_, fun k hk => ?_, Or.inr ⟨rfl, fun j h1 h2 => by omega⟩⟩
    · obtain ⟨k, rfl⟩ : ∃ m, k = m + 1 := ⟨k - 1, by omega⟩
      simp only [spec_LeastBeginning.l0]
      rw [if_neg (by omega)]
    · obtain ⟨k, rfl⟩ : ∃ m, k = m + 1 := ⟨k - 1, by omega⟩
      simp only [impl_LeastBeginning.l0]
      rw [if_neg (by omega)]
  | d + 1, i, hi => by
    obtain ⟨r, hS, hI, hP⟩ := leastBeginning_law n hn l h3 h4 d (i + 1) (by omega)
    have ht : (l.take i).length ≤ 60 := by rw [List.length_take]; omega
    have ht2 : ∀ r ∈ l.take i, 0 ≤ r ∧ r ≤ (n : Int) - 2 := fun r hr => h4 r (List.mem_of_mem_take hr)
    refine ⟨if srtB (runV (l.take i) (down n)) = true then ((i : Int), true) else r, fun k hk => ?_, fun k hk => ?_, ?_⟩
    · obtain ⟨k, rfl⟩ : ∃ m, k = m + 1 := ⟨k - 1, by omega⟩
      simp only [spec_LeastBeginning.l0]
      rw [if_pos (by omega), if_pos (by omega), Int.toNat_natCast, soAll n hn (l.take i) ht ht2 k (by omega), Option.bind_some, wrap_id (by omega) (by omega)]
      split
      · rfl
      · exact_mod_cast hS k (by omega)
    · obtain ⟨k, rfl⟩ : ∃ m, k = m + 1 := ⟨k - 1, by omega⟩
      simp only [impl_LeastBeginning.l0]
      rw [if_pos (by omega), if_pos (by omega), if_pos (by omega), Int.toNat_natCast, isSorting n hn (l.take i) ht ht2 k (by omega), Option.bind_some, wrap_id (by omega) (by omega)]
      split
      · rfl
      · exact_mod_cast hI k (by omega)
    · by_cases c : srtB (runV (l.take i) (down n)) = true
      · rw [if_pos c]
        exact Or.inl ⟨rfl, i, by omega, rfl, c⟩
      · rw [if_neg c]
        rcases hP with h | ⟨a, b⟩
        · exact Or.inl h
        · refine Or.inr ⟨a, fun j h1 h2 => ?_⟩
          by_cases z : j = i
          · rw [z]; exact Bool.eq_false_iff.2 c
          · exact b j (by omega) h2
theorem sf_law (n : Nat) (hn : 2 ≤ n ∧ n ≤ 8) (kk : Nat) (hk : kk ≤ n) (l : List Int) (hb : l.length ≤ 60) (hr : ∀ r ∈ l, 0 ≤ r ∧ r ≤ (n : Int) - 2) (k : Nat) (hK : 100 ≤ k) : ∀ d x : Nat, x + d = 2 ^ n → ∃ b : Bool, bitsFold (impl_SortsFirst.step k l kk) n d x true = some b ∧ (b = true ↔ ∀ y, x ≤ y → y < 2 ^ n → okV l kk (bitsV n y) = true)
  | 0, x, hx => ⟨true, rfl, by simp; intro y h1 h2; omega⟩
  | d + 1, x, hx => by
    obtain ⟨b, hI, hP⟩ := sf_law n hn kk hk l hb hr k hK d (x + 1) (by omega)
    cases hq : okV l kk (bitsV n x) with
    | true =>
      refine ⟨b, by rw [bitsFold, sf_step n hn kk hk l hb hr x k hK, hq, Option.bind_some]; exact hI, ?_⟩
      rw [hP]
      constructor
      · intro H y h1 h2
        by_cases z : y = x
        · rw [z]; exact hq
        · exact H y (by omega) h2
      · intro H y h1 h2
        exact H y (by omega) h2
    | false =>
      refine ⟨false, by rw [bitsFold, sf_step n hn kk hk l hb hr x k hK, hq, Option.bind_some]; exact sf_fold_false n hn kk hk l hb hr k hK d (x + 1), ?_⟩
      constructor
      · intro h; exact absurd h (by decide)
      · intro H
        have := H x (by omega) (by omega)
        rw [hq] at this; exact absurd this (by decide)
theorem srt_pair {v : List Int} (h : srtB v = true) : v.Pairwise (fun a b => decide (a ≤ b) = true) := by
  have H := (srtB_iff v).1 h
  rw [List.pairwise_iff_getElem]
  intro i j hi hj hij
  have := srt_le H i (j - i) (by omega)
  rw [show i + (j - i) = j by omega, List.getD_eq_getElem?_getD, List.getElem?_eq_getElem hi, List.getD_eq_getElem?_getD, List.getElem?_eq_getElem hj] at this
  exact decide_eq_true this
theorem okV_srt (n : Nat) (l : List Int) (hr : ∀ r ∈ l, 0 ≤ r ∧ r ≤ (n : Int) - 2) (x : Nat) : okV l n (bitsV n x) = true ↔ srtB (runV l (bitsL n x)) = true := by
  have hl := bitsV_length n x
  have hz := z1_bits n x
  have ho : (runV l (bitsV n x)).length = n := by rw [runV_length, hl]
  have hz2 := z1_run l hz
  have hp := run_perm n l (bitsV n x) hl hr
  have hs := perm_sum hp
  show okV l n (bitsV n x) = true ↔ srtB (runV l (bitsV n x)) = true
  unfold okV
  rw [decide_eq_true_eq]
  constructor
  · intro H
    refine (srtB_iff _).2 fun i hi => ?_
    rw [H i (by omega), H (i + 1) (by omega), srt_get hz i (by omega), srt_get hz (i + 1) (by omega)]
    split <;> split <;> omega
  · intro H j hj
    rw [z1_sorted hz2 (srt_pair H) j (by omega), srt_get hz j (by omega), hs, ho, hl]
theorem ls_fin : ∀ m ∈ List.range 9, 2 ≤ m → impl_LeastSorting.f (m : Int) = some (((m * (m - 1) / 2 : Nat) : Int), true) := by decide +kernel
/-- Which rungs are idle; those that are not. -/
def idl : List Bool → Nat → List Int
  | [], _ => []
  | c :: b, i => (if c = true then [] else [(i : Int)]) ++ idl b (i + 1)
def kp : List Bool → List Int → List Int
  | c :: b, r :: l => (if c = true then [r] else []) ++ kp b l
  | _, _ => []
theorem idl_len : ∀ (b : List Bool) (i : Nat), (idl b i).length ≤ b.length
  | [], _ => by simp [idl]
  | c :: b, i => by
    have := idl_len b (i + 1)
    simp only [idl, List.length_append, List.length_cons]
    split <;> simp <;> omega
theorem idl_kp : ∀ (b : List Bool) (l : List Int) (i : Nat), b.length = l.length → (kp b l).length + (idl b i).length = l.length
  | [], [], _, _ => rfl
  | [], _ :: _, _, h => by simp at h
  | _ :: _, [], _, h => by simp at h
  | c :: b, r :: l, i, h => by
    have := idl_kp b l (i + 1) (by simpa using h)
    simp only [idl, kp, List.length_append, List.length_cons]
    cases c <;> simp <;> omega
theorem kp_mem : ∀ (b : List Bool) (l : List Int) (x : Int), x ∈ kp b l → x ∈ l
  | c :: b, r :: l, x, h => by
    simp only [kp, List.mem_append] at h
    rcases h with h | h
    · split at h
      · rw [List.mem_singleton.1 h]; exact List.mem_cons_self
      · simp at h
    · exact List.mem_cons_of_mem _ (kp_mem b l x h)
  | [], l, x, h => by cases l <;> simp [kp] at h
  | _ :: _, [], x, h => by simp [kp] at h
theorem idl_mem : ∀ (b : List Bool) (i : Nat) (x : Int), x ∈ idl b i → ∃ j : Nat, j < b.length ∧ x = ((i + j : Nat) : Int) ∧ b.getD j false = false
  | [], i, x, h => by simp [idl] at h
  | c :: b, i, x, h => by
    simp only [idl, List.mem_append] at h
    rcases h with h | h
    · cases c with
      | true => simp at h
      | false =>
        rw [if_neg (by simp)] at h
        exact ⟨0, by simp, by rw [List.mem_singleton.1 h]; omega, rfl⟩
    · obtain ⟨j, h1, h2, h3⟩ := idl_mem b (i + 1) x h
      exact ⟨j + 1, by simp; omega, by rw [h2]; omega, by simpa using h3⟩
theorem idle_l0 (b : List Bool) (hb : b.length ≤ 60) : ∀ (d i k : Nat) (o : List Int), i + d = b.length → o.length ≤ i → d < k → impl_IdleRungs.l0 k o b (b.length : Int) (i : Int) = some (o ++ idl (b.drop i) i, true)
  | 0, i, k, o, hi, ho, hk => by
    obtain ⟨k, rfl⟩ : ∃ m, k = m + 1 := ⟨k - 1, by omega⟩
    rw [impl_IdleRungs.l0, if_neg (by omega), List.drop_of_length_le (by omega), idl, List.append_nil]
  | d + 1, i, k, o, hi, ho, hk => by
    obtain ⟨k, rfl⟩ : ∃ m, k = m + 1 := ⟨k - 1, by omega⟩
    have hq : rdOf false b (i : Int) = b[i] := by
      unfold rdOf
      rw [Int.toNat_natCast, List.getD_eq_getElem?_getD, List.getElem?_eq_getElem (by omega)]; rfl
    rw [impl_IdleRungs.l0, if_pos (by omega), if_pos (by omega), if_pos (by omega), hq, List.drop_eq_getElem_cons (by omega), idl, wrap_id (n := (i : Int) + 1) (by omega) (by omega), show ((i : Int) + 1) = ((i + 1 : Nat) : Int) by omega]
    by_cases c : b[i] = true
    · rw [if_pos c, if_pos c, List.nil_append]
      exact idle_l0 b hb d (i + 1) k o (by omega) (by omega) (by omega)
    · rw [if_neg c, if_neg c, if_pos (by omega), idle_l0 b hb d (i + 1) k (o ++ [(i : Int)]) (by omega) (by simp; omega) (by omega), List.append_assoc]
theorem drop_l0 (b : List Bool) (l : List Int) (n : Int) (hb : b.length ≤ 60) (hbl : b.length = l.length) : ∀ (d i k : Nat) (o : List Int), i + d = b.length → o.length ≤ i → d < k → impl_DropIdle.l0 k b (b.length : Int) (i : Int) n l n o = some (n, o ++ kp (b.drop i) (l.drop i), true)
  | 0, i, k, o, hi, ho, hk => by
    obtain ⟨k, rfl⟩ : ∃ m, k = m + 1 := ⟨k - 1, by omega⟩
    rw [impl_DropIdle.l0, if_neg (by omega), List.drop_of_length_le (by omega), show kp [] (l.drop i) = [] by cases (l.drop i) <;> rfl, List.append_nil]
  | d + 1, i, k, o, hi, ho, hk => by
    obtain ⟨k, rfl⟩ : ∃ m, k = m + 1 := ⟨k - 1, by omega⟩
    have hq : rdOf false b (i : Int) = b[i] := by
      unfold rdOf
      rw [Int.toNat_natCast, List.getD_eq_getElem?_getD, List.getElem?_eq_getElem (by omega)]; rfl
    rw [impl_DropIdle.l0, if_pos (by omega), if_pos (by omega), if_pos (by omega), hq, List.drop_eq_getElem_cons (show i < b.length by omega), List.drop_eq_getElem_cons (show i < l.length by omega), kp, wrap_id (n := (i : Int) + 1) (by omega) (by omega), show ((i : Int) + 1) = ((i + 1 : Nat) : Int) by omega]
    by_cases c : b[i] = true
    · rw [if_pos c, if_pos c, if_pos (by omega), if_pos (by omega), drop_l0 b l n hb hbl d (i + 1) k (o ++ [rd l (i : Int)]) (by omega) (by simp; omega) (by omega), rd_nat l i (by omega), List.append_assoc]
    · rw [if_neg c, if_neg c, List.nil_append]
      exact drop_l0 b l n hb hbl d (i + 1) k o (by omega) (by omega) (by omega)
theorem markB_get : ∀ (us : List Int) (b : List Bool) (j : Nat), j < b.length → (b.getD j false = true ∨ (j : Int) ∈ us) → (∀ u ∈ us, 0 ≤ u) → (markB b us).getD j false = true
  | [], b, j, hj, h, h0 => by
    rcases h with h | h
    · exact h
    · simp at h
  | u :: us, b, j, hj, h, h0 => by
    rw [markB]
    refine markB_get us _ j (by rw [List.length_set]; exact hj) ?_ (fun x hx => h0 x (List.mem_cons_of_mem _ hx))
    have hu := h0 u List.mem_cons_self
    rcases h with h | h
    · left
      rw [List.getD_eq_getElem?_getD, List.getElem?_set]
      split
      · split <;> simp_all
      · rw [← List.getD_eq_getElem?_getD]; exact h
    · rcases List.mem_cons.1 h with h | h
      · left
        rw [List.getD_eq_getElem?_getD, List.getElem?_set, if_pos (by omega), if_pos (by omega)]; rfl
      · exact Or.inr h
theorem busy_law (n : Nat) (hn : n ≤ 8) (l : List Int) (h3 : l.length ≤ 60) (h4 : ∀ r ∈ l, 0 ≤ r ∧ r ≤ (n : Int) - 2) (k : Nat) (hk : 90 ≤ k) : ∀ (d x : Nat) (b : List Bool), x + d = 2 ^ n → b.length = l.length → ∃ b2 : List Bool, b2.length = l.length ∧ bitsFold (impl_busy.step k l) n d x b = some b2 ∧ ∀ j, j < l.length → (b.getD j false = true ∨ ∃ y, x ≤ y ∧ y < 2 ^ n ∧ (j : Int) ∈ usedV l (bitsL n y) 0) → b2.getD j false = true
  | 0, x, b, hx, hb => ⟨b, hb, rfl, fun j hj h => by
    rcases h with h | ⟨y, h1, h2, _⟩
    · exact h
    · omega⟩
  | d + 1, x, b, hx, hb => by
    have hum := usedV_mem l (bitsL n x) 0
    obtain ⟨b2, h2, hI, hP⟩ := busy_law n hn l h3 h4 k hk d (x + 1) (markB b (usedV l (bitsL n x) 0)) (by omega) (by rw [markB_length, hb])
    refine ⟨b2, h2, by rw [bitsFold, busy_step l n hn h3 h4 b hb x k hk, Option.bind_some]; exact hI, fun j hj h => hP j hj ?_⟩
    rcases h with h | ⟨y, h5, h6, h7⟩
    · exact Or.inl (markB_get _ _ _ (by omega) (Or.inl h) (fun u hu => (hum u hu).1))
    · by_cases z : y = x
      · rw [z] at h7
        exact Or.inl (markB_get _ _ _ (by omega) (Or.inr h7) (fun u hu => (hum u hu).1))
      · exact Or.inr ⟨y, by omega, h6, h7⟩
/-- A rung with an exchange is busy on some bits. -/
theorem used_bits (n : Nat) (l v : List Int) (hv : v.length = n) (hr : ∀ r ∈ l, 0 ≤ r ∧ r ≤ (n : Int) - 2) (u : Int) (h : u ∈ usedV l v 0) : ∃ y, y < 2 ^ n ∧ u ∈ usedV l (bitsL n y) 0 := by
  obtain ⟨t, ht⟩ := used_th n l v 0 u hv hr h
  have hm : ∀ x ∈ th t v, x = 0 ∨ x = 1 := by
    intro x hx
    unfold th at hx
    obtain ⟨a, _, rfl⟩ := List.mem_map.1 hx
    split
    · exact Or.inr rfl
    · exact Or.inl rfl
  obtain ⟨y, hy, e⟩ := marks_bits (th t v) hm
  have hl : (th t v).length = n := by unfold th; simp [hv]
  rw [hl] at hy e
  exact ⟨y, hy, by rw [show bitsL n y = th t v from e.symm]; exact ht⟩
theorem run_kp (n : Nat) : ∀ (l : List Int) (b : List Bool) (v : List Int) (i : Nat), b.length = l.length → (∀ u ∈ usedV l v (i : Int), ∀ j : Nat, u = ((i + j : Nat) : Int) → b.getD j false = true) → runV (kp b l) v = runV l v
  | [], b, v, i, _, _ => by cases b <;> rfl
  | r :: l, [], v, i, h, _ => by simp at h
  | r :: l, c :: b, v, i, h, H => by
    have hb : b.length = l.length := by simpa using h
    have ih := run_kp n l b (cmpx v r) (i + 1) hb (fun u hu j hj => by
      have := H u (by
        rw [usedV]
        exact List.mem_append_right _ (by rw [show ((i : Int) + 1) = ((i + 1 : Nat) : Int) by omega]; exact hu)) (j + 1) (by rw [hj]; omega)
      simpa using this)
    rw [runV]
    cases c with
    | true => rw [kp, if_pos rfl]; exact ih
    | false =>
      have e : cmpx v r = v := by
        unfold cmpx
        rw [if_neg]
        intro hc
        have := H (i : Int) (by rw [usedV, if_pos hc]; exact List.mem_append_left _ (List.mem_singleton.2 rfl)) 0 (by omega)
        simp at this
      rw [kp, if_neg (by simp), List.nil_append, ← ih, e]
theorem kSorted_l0 (v : List Int) (hb : v.length ≤ 35184372088832) : ∀ (d i k : Nat), i + d = v.length → 1 ≤ i → d < k → (∀ j, j + 1 < i → v.getD j 0 ≤ v.getD (j + 1) 0) → laws_kSorted.l0 k v (i : Int) = some (srtB v)
  | 0, i, k, hi, h1, hk, hj => by
    obtain ⟨k, rfl⟩ : ∃ m, k = m + 1 := ⟨k - 1, by omega⟩
    simp only [laws_kSorted.l0]
    rw [if_neg (by omega), (srtB_iff v).2 (fun j hj' => hj j (by omega))]
  | d + 1, i, k, hi, h1, hk, hj => by
    obtain ⟨k, rfl⟩ : ∃ m, k = m + 1 := ⟨k - 1, by omega⟩
    simp only [laws_kSorted.l0]
    rw [if_pos (by omega), wrap_id (n := (i : Int) - 1) (by omega) (by omega), if_pos (by omega), if_pos (by omega), if_pos (by omega), show ((i : Int) - 1) = ((i - 1 : Nat) : Int) by omega]
    have e1 : rd v ((i - 1 : Nat) : Int) = v.getD (i - 1) 0 := by simp [rd]
    have e2 : rd v (i : Int) = v.getD i 0 := by simp [rd]
    rw [e1, e2]
    by_cases c : v.getD (i - 1) 0 > v.getD i 0
    · rw [if_pos c]
      congr 1
      refine (Bool.eq_false_iff.2 fun h => ?_).symm
      have := (srtB_iff v).1 h (i - 1) (by omega)
      rw [show i - 1 + 1 = i by omega] at this
      omega
    · rw [if_neg c, wrap_id (by omega) (by omega), show ((i : Int) + 1) = ((i + 1 : Nat) : Int) by omega]
      refine kSorted_l0 v hb d (i + 1) k (by omega) (by omega) (by omega) fun j hj' => ?_
      by_cases z : j + 1 = i
      · have : j = i - 1 := by omega
        subst this
        rw [show i - 1 + 1 = i by omega]; omega
      · exact hj j (by omega)
theorem kSorted_at (v : List Int) (hb : v.length ≤ 35184372088832) (k : Nat) (hk : v.length + 1 ≤ k) : laws_kSorted.f k v = some (srtB v) := by
  unfold laws_kSorted.f
  by_cases c : v.length = 0
  · have : v = [] := List.length_eq_zero_iff.1 c
    subst this
    obtain ⟨k, rfl⟩ : ∃ m, k = m + 1 := ⟨k - 1, by omega⟩
    simp only [laws_kSorted.l0]
    rw [if_neg (by simp)]; rfl
  · exact kSorted_l0 v hb (v.length - 1) 1 k (by omega) (by omega) (by omega) (fun j hj => by omega)
theorem kHas_l0 (l : List Int) (hb : l.length ≤ 35184372088832) (x : Int) (hx : x ∉ l) : ∀ (d i k : Nat), i + d = l.length → d < k → laws_kHas.l0 k x l (l.length : Int) (i : Int) = some false
  | 0, i, k, hi, hk => by
    obtain ⟨k, rfl⟩ : ∃ m, k = m + 1 := ⟨k - 1, by omega⟩
    simp only [laws_kHas.l0]
    rw [if_neg (by omega)]
  | d + 1, i, k, hi, hk => by
    obtain ⟨k, rfl⟩ : ∃ m, k = m + 1 := ⟨k - 1, by omega⟩
    simp only [laws_kHas.l0]
    have hne : rd l (i : Int) ≠ x := by
      rw [rd_nat l i (by omega)]
      intro h
      exact hx (h ▸ List.getElem_mem _)
    rw [if_pos (by omega), if_pos (by omega), if_pos (by omega), if_neg hne, wrap_id (by omega) (by omega), show ((i : Int) + 1) = ((i + 1 : Nat) : Int) by omega]
    exact kHas_l0 l hb x hx d (i + 1) k (by omega) (by omega)
theorem kHas_no (l : List Int) (hb : l.length ≤ 35184372088832) (x : Int) (hx : x ∉ l) (k : Nat) (hk : l.length + 1 ≤ k) : laws_kHas.f k l x = some false := by
  unfold laws_kHas.f
  exact kHas_l0 l hb x hx l.length 0 k (by omega) (by omega)
end Go.Proofs.Ytnagcjhgojchlac.L
namespace Go.Proofs.Ytnagcjhgojchlac.L
open Go.RowKit Go.Proofs.Ytnagcjhgojchlac.Q Go.Proofs.YtnagcjhgojchlacW.PrintWords Go.Proofs.YtnagcjhgojchlacW.PrintLast
set_option linter.unusedVariables false
set_option linter.unusedSimpArgs false
theorem wrap_idD {n : Int} (h1 : -9223372036854775808 ≤ n) (h2 : n ≤ 9223372036854775807) : wrap64 n = n := by unfold wrap64; omega
/-- A code of bytes. -/
structure Code (l : List Int) : Prop where
  byte : ∀ x ∈ l, 0 ≤ x ∧ x ≤ 255
  len : l.length ≤ 1000000000000
theorem code_of {l : List Int} (h : ∀ x ∈ l, (Lit.int .u8 x).wf = true) (hl : l.length ≤ 1000000000000) : Code l := by
  refine ⟨fun x hx => ?_, hl⟩
  have := h x hx
  simp [Lit.wf, IntKind.min, IntKind.max, IntKind.signed, IntKind.bits] at this
  omega
theorem and_byte (x : Int) : 0 ≤ Go.bits .and .u64 x 255 ∧ Go.bits .and .u64 x 255 ≤ 255 := by
  have h : (BitVec.ofInt 64 x &&& BitVec.ofInt 64 255).toNat ≤ 255 := by
    rw [BitVec.toNat_and]
    exact Nat.le_trans Nat.and_le_right (by decide)
  have e : Go.bits .and .u64 x 255 = IntKind.u64.wrap (((BitVec.ofInt 64 x &&& BitVec.ofInt 64 255).toNat : Nat) : Int) := rfl
  rw [e, IntWalk.u64_in _ (by omega)]
  omega
theorem next_ok {l : List Int} (hl : Code l) (a s : Int) (h0 : 0 ≤ a) (h1 : a ≤ 1000000000000000) : ∃ b s', spec_l1Cur_next.f l a s = some (b, a + 1, s') ∧ 0 ≤ b ∧ b ≤ 255 := by
  have hn := hl.len
  have hw : wrap64 (a + 1) = a + 1 := wrap_idD (by omega) (by omega)
  unfold spec_l1Cur_next.f
  rw [hw]
  by_cases h : a < (l.length : Int)
  · have hb := hl.byte (rd l a) (by
      unfold rd
      rw [List.getD_eq_getElem?_getD, List.getElem?_eq_getElem (by omega)]
      exact List.getElem_mem _)
    rw [if_pos h, if_pos h0, if_pos (by omega), wrap_idD (n := rd l a) (by omega) (by omega)]
    exact ⟨_, _, rfl, hb.1, hb.2⟩
  · have key : ∀ x, wrap64 (Go.bits .and .u64 x 255) = Go.bits .and .u64 x 255 := fun x => by
      have hb := and_byte x
      exact wrap_idD (by omega) (by omega)
    rw [if_neg h, if_neg (by omega), key]
    exact ⟨_, _, rfl, and_byte _⟩
theorem pick_ok {l : List Int} (hl : Code l) (a s n : Int) (h0 : 0 ≤ a) (h1 : a ≤ 1000000000000000) (hn : n ≤ 200) : ∃ v b s', spec_l1Cur_pick.f l a s n = some (v, b, s') ∧ 0 ≤ v ∧ (n ≤ 1 → v = 0) ∧ (2 ≤ n → v < n) ∧ a ≤ b ∧ b ≤ a + 1 := by
  unfold spec_l1Cur_pick.f
  by_cases h : n ≤ 1
  · rw [if_pos h]
    exact ⟨_, _, _, rfl, by omega, fun _ => rfl, fun h2 => by omega, by omega, by omega⟩
  · obtain ⟨b, s', e, h2, h3⟩ := next_ok hl a s h0 h1
    rw [if_neg h, e, Option.bind_some, if_neg (by omega), if_neg (by omega)]
    refine ⟨_, _, _, rfl, Int.tmod_nonneg _ h2, fun h4 => by omega, fun _ => Int.tmod_lt_of_pos _ (by omega), by simp only []; omega, by simp only []; omega⟩
theorem one_ok {l : List Int} (hl : Code l) (a s n : Int) (h0 : 0 ≤ a) (h1 : a ≤ 1000000000000000) (hn : n ≤ 200) : ∃ v b s', spec_l1Cur_one.f l a s n = some (v, b, s') ∧ a ≤ b ∧ b ≤ a + 1 := by
  obtain ⟨v, b, s', e, _, _, _, h2, h3⟩ := pick_ok hl a s n h0 h1 hn
  unfold spec_l1Cur_one.f
  rw [e]
  exact ⟨_, _, _, rfl, h2, h3⟩
theorem among_ok {l : List Int} (hl : Code l) (a s : Int) (m : List Int) (h0 : 0 ≤ a) (h1 : a ≤ 1000000000000000) (hm : m.length ≤ 200) (hm0 : 0 < m.length) : ∃ v b s', spec_l1Cur_among.f l a s m = some (v, b, s') ∧ v ∈ m ∧ a ≤ b ∧ b ≤ a + 1 := by
  obtain ⟨v, b, s', e, h2, h3, h4, h5, h6⟩ := pick_ok hl a s (m.length : Int) h0 h1 (by omega)
  have hv : v < (m.length : Int) := by
    by_cases c : (m.length : Int) ≤ 1
    · rw [h3 c]; omega
    · exact h4 (by omega)
  unfold spec_l1Cur_among.f
  rw [e, Option.bind_some]
  simp only []
  rw [if_pos h2, if_pos hv]
  refine ⟨_, _, _, rfl, ?_, h5, h6⟩
  unfold rd
  rw [List.getD_eq_getElem?_getD, List.getElem?_eq_getElem (by omega)]
  exact List.getElem_mem _
end Go.Proofs.Ytnagcjhgojchlac.L
namespace Go.Proofs.Ytnagcjhgojchlac.L
open Go.RowKit Go.Proofs.Ytnagcjhgojchlac.Q Go.Proofs.YtnagcjhgojchlacW.PrintWords Go.Proofs.YtnagcjhgojchlacW.PrintLast
set_option linter.unusedVariables false
set_option linter.unusedSimpArgs false
theorem sureLadder_l0 {l : List Int} (hl : Code l) (wi : Int) (hw : 2 ≤ wi ∧ wi ≤ 100) : ∀ (d k : Nat) (a s : Int) (acc : List Int), 0 ≤ a → a + d ≤ 1000000000000000 → d ≤ 200 → d < k → acc.length + d ≤ 400 → (∀ x ∈ acc, 0 ≤ x ∧ x ≤ wi - 2) →
    ∃ r b s', spec_l1Cur_sureLadder.l0 k (d : Int) l a s wi acc = some (wi, r, b, s') ∧ (∀ x ∈ r, 0 ≤ x ∧ x ≤ wi - 2) ∧ r.length = acc.length + d ∧ a ≤ b ∧ b ≤ a + d
  | 0, k, a, s, acc, h0, h1, hd, hk, ha, hx => by
    obtain ⟨k, rfl⟩ : ∃ m, k = m + 1 := ⟨k - 1, by omega⟩
    simp only [spec_l1Cur_sureLadder.l0]
    rw [if_neg (by omega)]
    exact ⟨acc, a, s, rfl, hx, by omega, by omega, by omega⟩
  | d + 1, k, a, s, acc, h0, h1, hd, hk, ha, hx => by
    obtain ⟨k, rfl⟩ : ∃ m, k = m + 1 := ⟨k - 1, by omega⟩
    obtain ⟨v, b, s', e, hv, hv1, hv2, hb, hb2⟩ := pick_ok hl a s (wi - 1) h0 (by omega) (by omega)
    have hv3 : v ≤ wi - 2 := by
      by_cases c : wi - 1 ≤ 1
      · rw [hv1 c]; omega
      · have := hv2 (by omega); omega
    obtain ⟨r, b', s2, e2, hr, hrl, h3, h4⟩ := sureLadder_l0 hl wi hw d k b s' (acc ++ [v]) (by omega) (by omega) (by omega) (by omega) (by simp; omega) (fun x hx' => by
      rcases List.mem_append.1 hx' with h | h
      · exact hx x h
      · rw [List.mem_singleton.1 h]; omega)
    simp only [spec_l1Cur_sureLadder.l0]
    rw [if_pos (by omega), wrap_id (n := wi - 1) (by omega) (by omega), e, Option.bind_some]
    try simp only []
    rw [if_pos (by omega), wrap_id (by omega) (by omega), show (((d + 1 : Nat) : Int) - 1) = (d : Int) by omega, e2]
    exact ⟨r, b', s2, rfl, hr, by rw [hrl]; simp; omega, by omega, by omega⟩
theorem sureLadder_ok {l : List Int} (hl : Code l) (a s : Int) (w m : Nat) (hw : 2 ≤ w ∧ w ≤ 50) (hm : m ≤ 100) (h0 : 0 ≤ a) (h1 : a ≤ 100000000000000) : ∃ wi r b s', spec_l1Cur_sureLadder.f 200 l a s (w : Int) (m : Int) = some (wi, r, b, s') ∧ (2 ≤ wi ∧ wi ≤ w) ∧ (∀ x ∈ r, 0 ≤ x ∧ x ≤ wi - 2) ∧ r.length ≤ m ∧ a ≤ b ∧ b ≤ a + m + 2 := by
  obtain ⟨v, b, s1, e1, hv, hv1, hv2, hb, hb2⟩ := pick_ok hl a s ((w : Int) - 1) h0 (by omega) (by omega)
  have hv3 : v ≤ (w : Int) - 2 := by
    by_cases c : (w : Int) - 1 ≤ 1
    · rw [hv1 c]; omega
    · have := hv2 (by omega); omega
  obtain ⟨n, b2, s2, e2, hn, hn1, hn2, hb3, hb4⟩ := pick_ok hl b s1 ((m : Int) + 1) (by omega) (by omega) (by omega)
  have hn3 : n ≤ m := by
    by_cases c : (m : Int) + 1 ≤ 1
    · rw [hn1 c]; omega
    · have := hn2 (by omega); omega
  obtain ⟨r, b3, s3, e3, hr, hrl, h5, h6⟩ := sureLadder_l0 hl (2 + v) (by omega) n.toNat 200 b2 s2 [] (by omega) (by omega) (by omega) (by omega) (by simp; omega) (by simp)
  rw [Int.toNat_of_nonneg hn] at e3
  unfold spec_l1Cur_sureLadder.f
  rw [wrap_id (n := (w : Int) - 1) (by omega) (by omega), e1, Option.bind_some]
  try simp only []
  rw [wrap_id (n := (m : Int) + 1) (by omega) (by omega), e2, Option.bind_some]
  try simp only []
  rw [wrap_id (n := 2 + v) (by omega) (by omega), e3]
  simp only [List.length_nil] at hrl
  exact ⟨2 + v, r, b3, s3, rfl, by omega, hr, by omega, by omega, by omega⟩
theorem ladder_ok {l : List Int} (hl : Code l) (a s : Int) (h0 : 0 ≤ a) (h1 : a ≤ 10000000000000) : ∃ wi r b s', spec_l1Cur_ladder.f 200 l a s = some (wi, r, b, s') ∧ r.length ≤ 100 ∧ a ≤ b ∧ b ≤ a + 100 := by
  obtain ⟨wi, r, b, s1, e1, hw, hr, hrl, h2, h3⟩ := sureLadder_ok hl a s 6 12 (by omega) (by omega) h0 (by omega)
  have e1 : spec_l1Cur_sureLadder.f 200 l a s 6 12 = _ := e1
  obtain ⟨c, b2, s2, e2, hc, _, hc2, h4, h5⟩ := pick_ok hl b s1 16 (by omega) (by omega) (by omega)
  unfold spec_l1Cur_ladder.f
  rw [e1, Option.bind_some]
  try simp only []
  rw [e2, Option.bind_some]
  try simp only []
  by_cases c0 : c = 0
  · rw [if_pos c0]
    obtain ⟨x, b4, s4, e4, hx, h8, h9⟩ := among_ok hl b2 s2 [(-1), wrap64 (wi - 1), 4611686018427387904] (by omega) (by omega) (by simp) (by simp)
    rw [e4, Option.bind_some, if_pos (by omega)]
    exact ⟨_, _, b4, s4, rfl, by simp; omega, by omega, by omega⟩
  · rw [if_neg c0]
    by_cases c1 : c = 1
    · rw [if_pos c1]
      obtain ⟨x, b4, s4, e4, hx, h8, h9⟩ := among_ok hl b2 s2 [1, 2, 8, 9, (-1)] (by omega) (by omega) (by simp) (by simp)
      rw [e4, Option.bind_some]
      exact ⟨_, _, b4, s4, rfl, by omega, by omega, by omega⟩
    · rw [if_neg c1]
      by_cases c2 : c = 2
      · rw [if_pos c2]
        obtain ⟨v, b3, s3, e3, hv, _, hv2, h6, h7⟩ := pick_ok hl b2 s2 2 (by omega) (by omega) (by omega)
        have hv2 := hv2 (by omega)
        rw [e3, Option.bind_some]
        try simp only []
        rw [wrap_id (n := 60 + v) (by omega) (by omega), if_pos (by omega), if_pos (by omega)]
        exact ⟨_, _, b3, s3, rfl, by simp; omega, by omega, by omega⟩
      · rw [if_neg c2]
        exact ⟨_, _, b2, s2, rfl, by omega, by omega, by omega⟩
theorem cutDrop {l : List Int} (hl : Code l) (wi : Int) (on : Bool) (r : List Int) (a s : Int) (h0 : 0 ≤ a) (h1 : a ≤ 100000000000000) (hr : r.length ≤ 150) (hon : on = true → 0 < r.length) (ho : ∀ q : List Int, q.length ≤ 150 → spec_l1Own.f q = some q) (k : Nat) :
    ∃ r' b s', spec_l1Cur_sorter.j5 (k + 1) on l a s wi r = some (wi, r', b, s') ∧ r'.length ≤ 150 ∧ a ≤ b ∧ b ≤ a + 1 := by
  simp only [spec_l1Cur_sorter.j5]
  by_cases c : on = true
  · have hp := hon c
    obtain ⟨v, b, s', e, hv, hv1, hv2, hb, hb2⟩ := pick_ok hl a s (r.length : Int) h0 (by omega) (by omega)
    have hv3 : v < (r.length : Int) := by
      by_cases d : (r.length : Int) ≤ 1
      · rw [hv1 d]; omega
      · exact hv2 (by omega)
    rw [if_pos c, e, Option.bind_some]
    try simp only []
    rw [if_pos hv, if_pos (by omega), ho _ (by rw [List.length_take]; omega), Option.bind_some, wrap_id (by omega) (by omega), if_pos (by omega), if_pos (by omega), Option.bind_some, if_pos (by simp [List.length_take, List.length_drop]; omega)]
    exact ⟨_, b, s', rfl, by simp [List.length_append, List.length_take, List.length_drop]; omega, hb, hb2⟩
  · rw [if_neg c]
    exact ⟨r, a, s, rfl, hr, by omega, by omega⟩
theorem own150 (q : List Int) (h : q.length ≤ 150) : spec_l1Own.f q = some q := by
  unfold spec_l1Own.f
  rw [Option.bind_some, if_pos (by simp; omega), List.nil_append]
theorem sorter_l3 {l : List Int} (hl : Code l) (w wi : Int) (hw : 2 ≤ w ∧ w ≤ 10) : ∀ (d k : Nat) (a s : Int) (r : List Int), 0 ≤ a → a + 2 * d ≤ 100000000000 → d ≤ 5 → r.length + d ≤ 100 → d + 2 ≤ k →
    ∃ r' b s', spec_l1Cur_sorter.l3 k w (d : Int) l a s wi r = some (wi, r', b, s') ∧ r'.length ≤ 150 ∧ a ≤ b ∧ b ≤ a + 2 * d + 2
  | 0, k, a, s, r, h0, h1, hd, hr, hk => by
    obtain ⟨k, rfl⟩ : ∃ m, k = m + 2 := ⟨k - 2, by omega⟩
    simp only [spec_l1Cur_sorter.l3]
    rw [if_neg (by omega)]
    obtain ⟨o, b, s1, e, h2, h3⟩ := one_ok hl a s 3 h0 (by omega) (by omega)
    rw [e, Option.bind_some]
    try simp only []
    by_cases c : o = true
    · rw [if_pos c]
      obtain ⟨r', b', s', e', h4, h5, h6⟩ := cutDrop hl wi (decide ((r.length : Int) > 0)) r b s1 (by omega) (by omega) (by omega) (fun x => by have := of_decide_eq_true x; omega) own150 k
      exact ⟨r', b', s', e', h4, by omega, by omega⟩
    · rw [if_neg c]
      obtain ⟨r', b', s', e', h4, h5, h6⟩ := cutDrop hl wi false r b s1 (by omega) (by omega) (by omega) (by simp) own150 k
      exact ⟨r', b', s', e', h4, by omega, by omega⟩
  | d + 1, k, a, s, r, h0, h1, hd, hr, hk => by
    obtain ⟨k, rfl⟩ : ∃ m, k = m + 1 := ⟨k - 1, by omega⟩
    obtain ⟨v, b, s1, e, hv, hv1, hv2, hb, hb2⟩ := pick_ok hl a s ((r.length : Int) + 1) h0 (by omega) (by omega)
    have hv3 : v ≤ (r.length : Int) := by
      by_cases c : (r.length : Int) + 1 ≤ 1
      · rw [hv1 c]; omega
      · have := hv2 (by omega); omega
    obtain ⟨x, b2, s2, e2, hx, hx1, hx2, hb3, hb4⟩ := pick_ok hl b s1 (w - 1) (by omega) (by omega) (by omega)
    have hlen : (r.take v.toNat ++ [x] ++ r.drop v.toNat).length = r.length + 1 := by
      simp [List.length_append, List.length_take, List.length_drop]; omega
    obtain ⟨r', b', s', e', h4, h5, h6⟩ := sorter_l3 hl w wi hw d k b2 s2 (r.take v.toNat ++ [x] ++ r.drop v.toNat) (by omega) (by omega) (by omega) (by omega) (by omega)
    simp only [spec_l1Cur_sorter.l3]
    rw [if_pos (by omega), wrap_id (n := (r.length : Int) + 1) (by omega) (by omega), e, Option.bind_some]
    try simp only []
    rw [if_pos hv, if_pos hv3, own150 _ (by rw [List.length_take]; omega), Option.bind_some, wrap_id (n := w - 1) (by omega) (by omega), e2, Option.bind_some]
    try simp only []
    rw [if_pos (by rw [List.length_take]; omega), Option.bind_some, Option.bind_some, if_pos (by simp [List.length_append, List.length_take, List.length_drop]; omega), wrap_id (n := ((d + 1 : Nat) : Int) - 1) (by omega) (by omega), show (((d + 1 : Nat) : Int) - 1) = (d : Int) by omega, e']
    exact ⟨r', b', s', rfl, h4, by omega, by omega⟩
theorem sorter_j3 {l : List Int} (hl : Code l) (w wi : Int) (hw : 2 ≤ w ∧ w ≤ 10) (a s : Int) (r : List Int) (h0 : 0 ≤ a) (h1 : a ≤ 10000000000) (hr : r.length ≤ 90) (k : Nat) (hk : 20 ≤ k) :
    ∃ r' b s', spec_l1Cur_sorter.j3 k w l a s wi r = some (wi, r', b, s') ∧ r'.length ≤ 150 ∧ a ≤ b ∧ b ≤ a + 20 := by
  obtain ⟨k, rfl⟩ : ∃ m, k = m + 1 := ⟨k - 1, by omega⟩
  obtain ⟨v, b, s1, e, hv, _, hv2, hb, hb2⟩ := pick_ok hl a s 3 h0 (by omega) (by omega)
  have hv2 := hv2 (by omega)
  obtain ⟨r', b', s', e', h4, h5, h6⟩ := sorter_l3 hl w wi hw v.toNat k b s1 r (by omega) (by omega) (by omega) (by omega) (by omega)
  rw [Int.toNat_of_nonneg hv] at e'
  simp only [spec_l1Cur_sorter.j3]
  rw [e, Option.bind_some]
  exact ⟨r', b', s', e', h4, by omega, by omega⟩
/-- The order backwards, and its first least ladder. -/
theorem lsFirst_chk : ∀ n ∈ List.range 4, (spec_soFirst.f 20 ((n : Int) + 2)).map List.length = some (n + 2) ∧ ((spec_lsFirst.f 300 ((List.range (n + 2)).map fun (i : Nat) => (n : Int) + 1 - (i : Int))).map fun t => decide (t.length ≤ 20)) = some true := by decide +kernel
theorem lsFirst_fin (n : Nat) (hn : n ∈ List.range 4) : ∃ q, spec_soFirst.f 20 ((n : Int) + 2) = some q ∧ q.length = n + 2 ∧ ∃ t, spec_lsFirst.f 300 ((List.range (n + 2)).map fun (i : Nat) => (n : Int) + 1 - (i : Int)) = some t ∧ t.length ≤ 20 := by
  obtain ⟨a, b⟩ := lsFirst_chk n hn
  obtain ⟨q, hq, e⟩ := Option.map_eq_some_iff.1 a
  obtain ⟨t, ht, e2⟩ := Option.map_eq_some_iff.1 b
  exact ⟨q, hq, e, t, ht, of_decide_eq_true e2⟩
theorem sorter_l0 {l : List Int} (wi w : Int) (n : Nat) (hw : w = (n : Int)) (hn : n ≤ 10) : ∀ (d i k : Nat) (a s : Int) (q : List Int), i + d = n → q.length = n → (∀ j, j < i → q.getD j 0 = (n : Int) - 1 - (j : Int)) → d < k →
    spec_l1Cur_sorter.l0 k w q (n : Int) (i : Int) l a s wi = (spec_lsFirst.f (k - d - 1) ((List.range n).map fun (i : Nat) => (n : Int) - 1 - (i : Int))).bind fun t => spec_l1Cur_sorter.j3 (k - d - 1) w l a s wi t
  | 0, i, k, a, s, q, hi, hq, hj, hk => by
    obtain ⟨k, rfl⟩ : ∃ m, k = m + 1 := ⟨k - 1, by omega⟩
    have e : q = (List.range n).map fun (i : Nat) => (n : Int) - 1 - (i : Int) := by
      refine List.ext_getElem (by simp [hq]) fun j h1 h2 => ?_
      have := hj j (by omega)
      rw [List.getD_eq_getElem?_getD, List.getElem?_eq_getElem h1] at this
      simpa using this
    simp only [spec_l1Cur_sorter.l0]
    rw [if_neg (by omega), ← e]
    rfl
  | d + 1, i, k, a, s, q, hi, hq, hj, hk => by
    obtain ⟨k, rfl⟩ : ∃ m, k = m + 1 := ⟨k - 1, by omega⟩
    simp only [spec_l1Cur_sorter.l0]
    rw [if_pos (by omega), if_pos (by omega), if_pos (by omega), wrap_id (n := w - 1) (by omega) (by omega), wrap_id (n := w - 1 - (i : Int)) (by omega) (by omega), wrap_id (n := (i : Int) + 1) (by omega) (by omega), show ((i : Int) + 1) = ((i + 1 : Nat) : Int) by omega, Int.toNat_natCast]
    rw [sorter_l0 wi w n hw hn d (i + 1) k a s (q.set i (w - 1 - (i : Int))) (by omega) (by rw [List.length_set]; exact hq) (fun j hj' => by
      rw [List.getD_eq_getElem?_getD, List.getElem?_set]
      by_cases c : i = j
      · subst c
        rw [if_pos rfl, if_pos (by omega)]; simp [hw]
      · rw [if_neg c, ← List.getD_eq_getElem?_getD]; exact hj j (by omega)) (by omega)]
    rw [show k + 1 - (d + 1) - 1 = k - d - 1 by omega]
theorem sorter_l2 {l : List Int} (w wi x7 : Int) (hw : 2 ≤ w ∧ w ≤ 6) (a s : Int) : ∀ (d k : Nat) (x8 : Int) (r : List Int), 0 ≤ x8 → x8 ≤ 100 → w - x8 ≤ 2 * (d : Int) → r.length + d ≤ 200 →
    ∃ r' k', k ≤ k' ∧ r'.length ≤ r.length + d ∧ spec_l1Cur_sorter.l2 (k + d + 1) w x7 x8 l a s wi r = spec_l1Cur_sorter.l1 k' w (wrap64 (x7 + 1)) l a s wi r'
  | 0, k, x8, r, h0, h1, hd, hr => by
    refine ⟨r, k, by omega, by omega, ?_⟩
    simp only [spec_l1Cur_sorter.l2]
    rw [wrap_id (n := w - 2) (by omega) (by omega), if_neg (by omega)]
  | d + 1, k, x8, r, h0, h1, hd, hr => by
    by_cases c : x8 ≤ w - 2
    · obtain ⟨r', k', h2, h3, h4⟩ := sorter_l2 w wi x7 hw a s d k (x8 + 2) (r ++ [x8]) (by omega) (by omega) (by omega) (by simp; omega)
      refine ⟨r', k', h2, by simp at h3; omega, ?_⟩
      rw [show k + (d + 1) + 1 = (k + d + 1) + 1 by omega]
      generalize k + d + 1 = K at h4 ⊢
      simp only [spec_l1Cur_sorter.l2]
      rw [wrap_id (n := w - 2) (by omega) (by omega), if_pos c, if_pos (by omega), wrap_id (n := x8 + 2) (by omega) (by omega)]
      exact h4
    · refine ⟨r, k + d + 1, by omega, by omega, ?_⟩
      rw [show k + (d + 1) + 1 = (k + d + 1) + 1 by omega]
      simp only [spec_l1Cur_sorter.l2]
      rw [wrap_id (n := w - 2) (by omega) (by omega), if_neg c]
theorem sorter_l1 {l : List Int} (hl : Code l) (w wi : Int) (hw : 2 ≤ w ∧ w ≤ 6) (a s : Int) (h0 : 0 ≤ a) (h1 : a ≤ 10000000000) : ∀ (D k : Nat) (x7 : Int) (r : List Int), x7 + D = w → 0 ≤ x7 → r.length + 3 * D ≤ 60 → 10 * D + 30 ≤ k →
    ∃ r' b s', spec_l1Cur_sorter.l1 k w x7 l a s wi r = some (wi, r', b, s') ∧ r'.length ≤ 150 ∧ a ≤ b ∧ b ≤ a + 20
  | 0, k, x7, r, hx, h7, hr, hk => by
    obtain ⟨k, rfl⟩ : ∃ m, k = m + 1 := ⟨k - 1, by omega⟩
    simp only [spec_l1Cur_sorter.l1]
    rw [if_neg (by omega)]
    exact sorter_j3 hl w wi (by omega) a s r h0 h1 (by omega) k (by omega)
  | D + 1, k, x7, r, hx, h7, hr, hk => by
    obtain ⟨k, rfl⟩ : ∃ m, k = (m + 3 + 1) + 1 := ⟨k - 5, by omega⟩
    have m0 : 0 ≤ Int.tmod x7 2 := Int.tmod_nonneg _ h7
    have m1 : Int.tmod x7 2 < 2 := Int.tmod_lt_of_pos _ (by omega)
    obtain ⟨r', k', h2, h3, h4⟩ := sorter_l2 (l := l) w wi x7 hw a s 3 k (Int.tmod x7 2) r m0 (by omega) (by omega) (by omega)
    rw [wrap_id (by omega) (by omega)] at h4
    simp only [spec_l1Cur_sorter.l1]
    rw [if_pos (by omega), h4]
    exact sorter_l1 hl w wi hw a s h0 h1 D k' (x7 + 1) r' (by omega) (by omega) (by omega) (by omega)
theorem sorter_ok {l : List Int} (hl : Code l) (a s : Int) (h0 : 0 ≤ a) (h1 : a ≤ 1000000000) : ∃ wi r b s', spec_l1Cur_sorter.f 500 l a s = some (wi, r, b, s') ∧ r.length ≤ 150 ∧ a ≤ b ∧ b ≤ a + 200 := by
  obtain ⟨c, b1, s1, e1, hc, _, hc2, h2, h3⟩ := pick_ok hl a s 5 h0 (by omega) (by omega)
  unfold spec_l1Cur_sorter.f
  rw [e1, Option.bind_some]
  try simp only []
  by_cases c0 : c = 0
  · obtain ⟨wi, r, b, s', e, h4, h5, h6⟩ := ladder_ok hl b1 s1 (by omega) (by omega)
    rw [if_pos c0, at_rounds (fun k => spec_l1Cur_ladder.mono _ _ _ k) (by omega : 200 ≤ 500) e, Option.bind_some]
    exact ⟨wi, r, b, s', rfl, by omega, by omega, by omega⟩
  · rw [if_neg c0]
    by_cases c1 : c = 1
    · obtain ⟨wi, r, b, s', e, _, _, h4, h5, h6⟩ := sureLadder_ok hl b1 s1 5 14 (by omega) (by omega) (by omega) (by omega)
      have e : spec_l1Cur_sureLadder.f 200 l b1 s1 5 14 = _ := e
      rw [if_pos c1, at_rounds (fun k => spec_l1Cur_sureLadder.mono _ _ _ _ _ k) (by omega : 200 ≤ 500) e, Option.bind_some]
      exact ⟨wi, r, b, s', rfl, by omega, by omega, by omega⟩
    · rw [if_neg c1]
      obtain ⟨v, b2, s2, e2, hv, _, hv2, h4, h5⟩ := pick_ok hl b1 s1 4 (by omega) (by omega) (by omega)
      have hv2 := hv2 (by omega)
      obtain ⟨o, b3, s3, e3, h6, h7⟩ := one_ok hl b2 s2 2 (by omega) (by omega) (by omega)
      rw [e2, Option.bind_some]
      try simp only []
      rw [e3, Option.bind_some]
      try simp only []
      rw [wrap_id (n := 2 + v) (by omega) (by omega)]
      obtain ⟨n, rfl⟩ : ∃ n : Nat, v = (n : Int) := ⟨v.toNat, by omega⟩
      by_cases co : o = true
      · obtain ⟨q, hq, hql, t, ht, htl⟩ := lsFirst_fin n (List.mem_range.2 (by omega))
        rw [if_pos co, show (2 : Int) + (n : Int) = (n : Int) + 2 by omega, at_rounds (fun k => spec_soFirst.mono _ k) (by omega : 20 ≤ 500) hq, Option.bind_some, hql]
        have := sorter_l0 (l := l) ((n : Int) + 2) ((n : Int) + 2) (n + 2) (by omega) (by omega) (n + 2) 0 500 b3 s3 q (by omega) hql (fun j hj => absurd hj (by omega)) (by omega)
        have eq : ((List.range (n + 2)).map fun (i : Nat) => (((n + 2 : Nat)) : Int) - 1 - (i : Int)) = ((List.range (n + 2)).map fun (i : Nat) => (n : Int) + 1 - (i : Int)) := by
          refine List.map_congr_left fun i _ => ?_
          omega
        rw [eq, at_rounds (fun k => spec_lsFirst.mono _ k) (by omega : 300 ≤ 500 - (n + 2) - 1) ht, Option.bind_some] at this
        obtain ⟨r', b', s', e', h8, h9, h10⟩ := sorter_j3 hl ((n : Int) + 2) ((n : Int) + 2) (by omega) b3 s3 t (by omega) (by omega) (by omega) (500 - (n + 2) - 1) (by omega)
        refine ⟨(n : Int) + 2, r', b', s', Eq.trans ?_ e', h8, by omega, by omega⟩
        exact this
      · rw [if_neg co]
        obtain ⟨r', b', s', e', h8, h9, h10⟩ := sorter_l1 hl (2 + (n : Int)) (2 + (n : Int)) (by omega) b3 s3 (by omega) (by omega) (n + 2) 500 0 [] (by omega) (by omega) (by simp; omega) (by omega)
        exact ⟨2 + (n : Int), r', b', s', e', h8, by omega, by omega⟩
theorem values_l0 {l : List Int} (hl : Code l) (x1 : Int) : ∀ (d i k : Nat) (a s : Int) (acc : List Int), i + d = 120 → acc.length = i → 0 ≤ a → a + 3 * d ≤ 10000000000 → 2 * d + 2 ≤ k →
    ∃ r b s', spec_l1Cur_values.l0 k x1 acc (i : Int) l a s = some (r, b, s') ∧ r.length ≤ 120 ∧ a ≤ b ∧ b ≤ a + 3 * d
  | d, i, k, a, s, acc, hi, ha, h0, h1, hk => by
    obtain ⟨k, rfl⟩ : ∃ m, k = m + 2 := ⟨k - 2, by omega⟩
    simp only [spec_l1Cur_values.l0]
    by_cases c : (i : Int) < x1
    · rw [if_pos c]
      match d with
      | 0 =>
        rw [decide_eq_false (by omega)]
        simp only [spec_l1Cur_values.j1]
        rw [if_neg (by simp)]
        exact ⟨acc, a, s, rfl, by omega, by omega, by omega⟩
      | d + 1 =>
        rw [decide_eq_true (by omega)]
        simp only [spec_l1Cur_values.j1]
        obtain ⟨v, b1, s1, e1, hv, _, hv2, h2, h3⟩ := pick_ok hl a s 9 h0 (by omega) (by omega)
        have hv2 := hv2 (by omega)
        obtain ⟨o, b2, s2, e2, h4, h5⟩ := one_ok hl b1 s1 20 (by omega) (by omega) (by omega)
        rw [if_pos trivial, e1, Option.bind_some]
        try simp only []
        rw [e2, Option.bind_some]
        try simp only []
        by_cases co : o = true
        · obtain ⟨x, b3, s3, e3, hx, h6, h7⟩ := among_ok hl b2 s2 [4611686018427387904, (-4611686018427387904), (-9223372036854775808), 9223372036854775807] (by omega) (by omega) (by simp) (by simp)
          obtain ⟨r, b', s', e', h8, h9, h10⟩ := values_l0 hl x1 d (i + 1) k b3 s3 (acc ++ [x]) (by omega) (by simp; omega) (by omega) (by omega) (by omega)
          rw [if_pos co, e3, Option.bind_some, if_pos (by omega), wrap_id (n := (i : Int) + 1) (by omega) (by omega), show ((i : Int) + 1) = ((i + 1 : Nat) : Int) by omega]
          exact ⟨r, b', s', e', h8, by omega, by omega⟩
        · obtain ⟨r, b', s', e', h8, h9, h10⟩ := values_l0 hl x1 d (i + 1) k b2 s2 (acc ++ [wrap64 (v - 3)]) (by omega) (by simp; omega) (by omega) (by omega) (by omega)
          rw [if_neg co, if_pos (by omega), wrap_id (n := (i : Int) + 1) (by omega) (by omega), show ((i : Int) + 1) = ((i + 1 : Nat) : Int) by omega]
          exact ⟨r, b', s', e', h8, by omega, by omega⟩
    · rw [if_neg c]
      simp only [spec_l1Cur_values.j1]
      rw [if_neg (by simp)]
      exact ⟨acc, a, s, rfl, by omega, by omega, by omega⟩
theorem values_ok {l : List Int} (hl : Code l) (x1 a s : Int) (h0 : 0 ≤ a) (h1 : a ≤ 1000000000) : ∃ r b s', spec_l1Cur_values.f 500 l a s x1 = some (r, b, s') ∧ r.length ≤ 120 ∧ a ≤ b ∧ b ≤ a + 360 := by
  have := values_l0 hl x1 120 0 500 a s [] (by omega) rfl h0 (by omega) (by omega)
  exact this
theorem drawIsSorting {l : List Int} (hl : Code l) : ∃ n r, (∀ k, 500 ≤ k → spec_DrawIsSorting.f k l = some (n, r)) ∧ r.length ≤ 150 := by
  obtain ⟨n, r, b, s, e, h1, _⟩ := sorter_ok hl 0 0 (by omega) (by omega)
  refine ⟨n, r, fun k hk => ?_, h1⟩
  unfold spec_DrawIsSorting.f
  rw [at_rounds (fun k => spec_l1Cur_sorter.mono _ _ _ k) hk e, Option.bind_some]
theorem drawSortedBy {l : List Int} (hl : Code l) : ∃ n r v, (∀ k, 500 ≤ k → spec_DrawSortedBy.f k l = some (n, r, v)) ∧ r.length ≤ 150 ∧ v.length ≤ 120 := by
  obtain ⟨n, r, b, s, e, h1, h2, h3⟩ := sorter_ok hl 0 0 (by omega) (by omega)
  obtain ⟨o, b2, s2, e2, h4, h5⟩ := one_ok hl b s 12 (by omega) (by omega) (by omega)
  by_cases c : o = true
  · obtain ⟨x, b3, s3, e3, hx, _, hx2, h6, h7⟩ := pick_ok hl b2 s2 5 (by omega) (by omega) (by omega)
    obtain ⟨v, b4, s4, e4, h8, _⟩ := values_ok hl x b3 s3 (by omega) (by omega)
    refine ⟨n, r, v, fun k hk => ?_, h1, h8⟩
    unfold spec_DrawSortedBy.f
    rw [at_rounds (fun k => spec_l1Cur_sorter.mono _ _ _ k) hk e, Option.bind_some]
    try simp only []
    rw [e2, Option.bind_some, if_pos c]
    try simp only []
    rw [e3, Option.bind_some]
    try simp only []
    rw [at_rounds (fun k => spec_l1Cur_values.mono _ _ _ _ k) hk e4, Option.bind_some]
  · obtain ⟨v, b4, s4, e4, h8, _⟩ := values_ok hl n b2 s2 (by omega) (by omega)
    refine ⟨n, r, v, fun k hk => ?_, h1, h8⟩
    unfold spec_DrawSortedBy.f
    rw [at_rounds (fun k => spec_l1Cur_sorter.mono _ _ _ k) hk e, Option.bind_some]
    try simp only []
    rw [e2, Option.bind_some, if_neg c]
    try simp only []
    rw [at_rounds (fun k => spec_l1Cur_values.mono _ _ _ _ k) hk e4, Option.bind_some]
end Go.Proofs.Ytnagcjhgojchlac.L
namespace Go.Proofs.Ytnagcjhgojchlac.L
open Go.RowKit Go.Proofs.Ytnagcjhgojchlac.Q Go.Proofs.YtnagcjhgojchlacW.PrintWords Go.Proofs.YtnagcjhgojchlacW.PrintLast
set_option linter.unusedVariables false
set_option linter.unusedSimpArgs false
theorem big_cases (l m : List Int) (hl : l.length ≤ 9223372036854775807) (hm : m.length ≤ 9223372036854775807) : laws_big.f l m = some true ∨ (laws_big.f l m = some false ∧ l.length ≤ 1048576 ∧ m.length ≤ 1048576) := by
  unfold laws_big.f
  by_cases h : (l.length : Int) > 1048576
  · rw [if_pos h]; exact Or.inl rfl
  · rw [if_neg h]
    have e : wrap64 (1048576 - (l.length : Int)) = 1048576 - (l.length : Int) := by unfold wrap64; omega
    rw [e]
    by_cases h2 : (m.length : Int) > 1048576 - (l.length : Int)
    · exact Or.inl (by simp; omega)
    · exact Or.inr ⟨by simp; omega, by omega, by omega⟩
end Go.Proofs.Ytnagcjhgojchlac.L
namespace Go.Proofs.Ytnagcjhgojchlac.L
open Go.RowKit Go.Proofs.Ytnagcjhgojchlac.Q Go.Proofs.YtnagcjhgojchlacW.PrintWords Go.Proofs.YtnagcjhgojchlacW.PrintLast
set_option linter.unusedVariables false
set_option linter.unusedSimpArgs false
theorem wrap_idK {n : Int} (h1 : -9223372036854775808 ≤ n) (h2 : n ≤ 9223372036854775807) : wrap64 n = n := by unfold wrap64; omega
theorem kSame_l0 (l : List Int) (hb : l.length ≤ 35184372088832) : ∀ (d i k : Nat), i + d = l.length → d < k → laws_kSame.l0 k l l (l.length : Int) (i : Int) = some true
  | 0, i, k, h, hk => by
    obtain ⟨k, rfl⟩ : ∃ m, k = m + 1 := ⟨k - 1, by omega⟩
    simp only [laws_kSame.l0]
    rw [if_neg (by omega)]
  | d + 1, i, k, h, hk => by
    obtain ⟨k, rfl⟩ : ∃ m, k = m + 1 := ⟨k - 1, by omega⟩
    simp only [laws_kSame.l0]
    rw [if_pos (by omega), if_pos (by omega), if_pos (by omega), if_pos (by omega), if_pos trivial, wrap_idK (by omega) (by omega), show ((i : Int) + 1) = ((i + 1 : Nat) : Int) by omega]
    exact kSame_l0 l hb d (i + 1) k (by omega) (by omega)
theorem kSame_self (l : List Int) (hb : l.length ≤ 35184372088832) (k : Nat) (hk : l.length + 1 ≤ k) : laws_kSame.f k l l = some true := by
  unfold laws_kSame.f
  rw [if_pos rfl]
  exact kSame_l0 l hb l.length 0 k (by omega) (by omega)
end Go.Proofs.Ytnagcjhgojchlac.L
namespace Go.Proofs.Ytnagcjhgojchlac.L
open Go.RowKit Go.Proofs.Ytnagcjhgojchlac.Q Go.Proofs.YtnagcjhgojchlacW.PrintWords Go.Proofs.YtnagcjhgojchlacW.PrintLast
set_option linter.unusedVariables false
set_option linter.unusedSimpArgs false
theorem bne_me {α : Type} [BEq α] [LawfulBEq α] (a : α) : ¬ ((a != a) = true) := by simp
def sortedR (a : Int) (l v : List Int) : List Int × Bool := if isLadder a l = true ∧ (v.length : Int) = a then (runV l v, true) else ([], false)
theorem ex_SortedBy (a : Int) (l v : List Int) (hb : l.length ≤ 1000) (hv : v.length ≤ 1000) (k : Nat) (hk : l.length + 3 ≤ k) : spec_SortedBy.f k a l v = some (sortedR a l v) ∧ impl_SortedBy.f k a l v = some (sortedR a l v) := by
  unfold sortedR
  by_cases h : isLadder a l = true
  · obtain ⟨h1, h2, h3, h4⟩ := isLadder_wires h
    by_cases hl : (v.length : Int) = a
    · rw [if_pos ⟨h, hl⟩]
      constructor
      · simp [spec_SortedBy.f, spec_soAsked.f, laGood a l (by omega) k (by omega), h, hl, soRun l v (by omega) (by omega) (fun r hr => by have := h4 r hr; omega) k (by omega)]
      · simp [impl_SortedBy.f, isLadder_eq, h, hl, sorted l v (by omega) (by omega) (fun r hr => by have := h4 r hr; omega) k (by omega)]
    · rw [if_neg (fun c => hl c.2)]
      constructor
      · simp [spec_SortedBy.f, spec_soAsked.f, laGood a l (by omega) k (by omega), h, hl]
      · simp [impl_SortedBy.f, isLadder_eq, h, hl]
  · rw [if_neg (fun c => h c.1)]
    constructor
    · simp [spec_SortedBy.f, spec_soAsked.f, laGood a l (by omega) k (by omega), h]
    · simp [impl_SortedBy.f, isLadder_eq, h]
def usedR (a : Int) (l v : List Int) : List Int × Bool := if isLadder a l = true ∧ (v.length : Int) = a then (usedV l v 0, true) else ([], false)
theorem ex_ExchangesOf (a : Int) (l v : List Int) (hb : l.length ≤ 1000) (hv : v.length ≤ 1000) (k : Nat) (hk : l.length + 3 ≤ k) : spec_ExchangesOf.f k a l v = some (usedR a l v) ∧ impl_ExchangesOf.f k a l v = some (usedR a l v) := by
  unfold usedR
  by_cases h : isLadder a l = true
  · obtain ⟨h1, h2, h3, h4⟩ := isLadder_wires h
    by_cases hl : (v.length : Int) = a
    · have hu := usedV_length l v 0
      have hr : ∀ r ∈ l, 0 ≤ r ∧ r ≤ (v.length : Int) - 2 := fun r hr => by have := h4 r hr; omega
      rw [if_pos ⟨h, hl⟩]
      constructor
      · simp [spec_ExchangesOf.f, spec_soAsked.f, laGood a l (by omega) k (by omega), h, hl, soRun l v (by omega) (by omega) hr k (by omega)]
      · have e := compareG impl_ExchangesOf.step l v [] (by omega) (by omega) hr k (by omega)
        rw [foldO_append _ _ (by simp; omega), Option.bind_some] at e
        unfold impl_ExchangesOf.f
        rw [isLadder_eq, Option.bind_some, h, if_pos rfl, if_pos hl, e]
        simp
    · rw [if_neg (fun c => hl c.2)]
      constructor
      · simp [spec_ExchangesOf.f, spec_soAsked.f, laGood a l (by omega) k (by omega), h, hl]
      · simp [impl_ExchangesOf.f, isLadder_eq, h, hl]
  · rw [if_neg (fun c => h c.1)]
    constructor
    · simp [spec_ExchangesOf.f, spec_soAsked.f, laGood a l (by omega) k (by omega), h]
    · simp [impl_ExchangesOf.f, isLadder_eq, h]
def isR (a : Int) (l : List Int) : Bool × Bool := if isLadder a l = true then (ALL a.toNat l, true) else (false, false)
theorem ex_IsSorting (a : Int) (l : List Int) (hb : l.length ≤ 1000) (k : Nat) (hk : 2000 ≤ k) : spec_IsSorting.f k a l = some (isR a l) ∧ impl_IsSorting.f k a l = some (isR a l) := by
  unfold isR
  by_cases h : isLadder a l = true
  · obtain ⟨h1, h2, h3, h4⟩ := isLadder_wires h
    obtain ⟨n, rfl⟩ : ∃ n : Nat, a = n := ⟨a.toNat, by omega⟩
    rw [if_pos h, Int.toNat_natCast]
    constructor
    · simp [spec_IsSorting.f, laGood n l (by omega) k (by omega), h, soAll n (by omega) l h3 h4 k (by omega), ALL]
    · simp [impl_IsSorting.f, isLadder_eq, h, isSorting n (by omega) l h3 h4 k (by omega), ALL]
  · rw [if_neg h]
    constructor
    · simp [spec_IsSorting.f, laGood a l (by omega) k (by omega), h]
    · simp [impl_IsSorting.f, isLadder_eq, h]
/-- All that the second part asks, for a ladder. -/
theorem good_all (n : Nat) (l : List Int) (h : isLadder (n : Int) l = true) : ∃ (c : Int) (f : List Int) (b : Int × Bool),
    (∀ k, 6000 ≤ k → spec_CountBitsSorted.f k (n : Int) l = some (c, true) ∧ impl_CountBitsSorted.f k (n : Int) l = some (c, true)) ∧
    (∀ k, 6000 ≤ k → spec_FirstBitsUnsorted.f k (n : Int) l = some (f, !f.isEmpty) ∧ impl_FirstBitsUnsorted.f k (n : Int) l = some (f, !f.isEmpty)) ∧
    (∀ k, 6000 ≤ k → spec_LeastBeginning.f k (n : Int) l = some b ∧ impl_LeastBeginning.f k (n : Int) l = some b) ∧
    (∀ k, 6000 ≤ k → impl_SortsFirst.f k (n : Int) l (n : Int) = some (ALL n l, true)) ∧
    ((c == ((2 ^ n : Nat) : Int)) = ALL n l) ∧ ((!f.isEmpty) = !ALL n l) ∧ (ALL n l = false → f.length = n ∧ srtB (runV l f) = false) ∧ f.length ≤ 8 ∧ b.2 = ALL n l ∧ (ALL n l = true → ((n * (n - 1) / 2 : Nat) : Int) ≤ (l.length : Int) ∧ ((n * (n - 1) / 2 : Nat) : Int) ≤ b.1 ∧ b.1 ≤ (l.length : Int)) := by
  obtain ⟨h1, h2, h3, h4⟩ := isLadder_wires h
  have hn : n ≤ 8 := by omega
  have hp := pow_le n hn
  have hsh := shl_fin n (List.mem_range.2 (by omega))
  obtain ⟨c, cS, cI, c1, c2, c3⟩ := countBits_law n hn l h3 h4 (2 ^ n) 0 0 (by omega) (by omega) (by omega)
  obtain ⟨f, fS, fI, fP⟩ := firstBits_law n hn (by omega) l h3 h4 (2 ^ n) 0 (by omega)
  obtain ⟨b, bS, bI, bP⟩ := leastBeginning_law n hn l h3 h4 (l.length + 1) 0 (by omega)
  have A := all_bits n hn l h4
  refine ⟨c, f, b, fun k hk => ⟨?_, ?_⟩, fun k hk => ⟨?_, ?_⟩, fun k hk => ⟨?_, ?_⟩, fun k hk => ?_, ?_, ?_, ?_, ?_, ?_, ?_⟩
  · have := cS k (by omega)
    simpa [spec_CountBitsSorted.f, laGood n l (by omega) k (by omega), h] using this
  · have := cI k (by omega)
    simp [impl_CountBitsSorted.f, isLadder_eq, h, this]
  · have := fS k (by omega)
    simpa [spec_FirstBitsUnsorted.f, laGood n l (by omega) k (by omega), h] using this
  · have := fI k (by omega)
    simp [impl_FirstBitsUnsorted.f, isLadder_eq, h, this]
  · have := bS k (by omega)
    simpa [spec_LeastBeginning.f, laGood n l (by omega) k (by omega), h] using this
  · have := bI k (by omega)
    simpa [impl_LeastBeginning.f, isLadder_eq, h, wrap_id (n := (l.length : Int) + 1) (by omega) (by omega)] using this
  · obtain ⟨s, sI, sP⟩ := sf_law n ⟨by omega, hn⟩ n (Nat.le_refl _) l h3 h4 k (by omega) (2 ^ n) 0 (by omega)
    have e : s = ALL n l := by
      have : s = true ↔ ALL n l = true := by
        rw [sP, A]
        exact ⟨fun H x hx => (okV_srt n l h4 x).1 (H x (by omega) hx), fun H x _ hx => (okV_srt n l h4 x).2 (H x hx)⟩
      cases s <;> cases hq : ALL n l <;> simp_all
    unfold impl_SortsFirst.f
    rw [isLadder_eq, Option.bind_some, if_pos h, if_pos ⟨by omega, by omega⟩, Int.toNat_natCast, sI, e]
    rfl
  · have : c = ((2 ^ n : Nat) : Int) ↔ ALL n l = true := by
      rw [A, show ((2 ^ n : Nat) : Int) = 0 + ((2 ^ n : Nat) : Int) by omega, c3]
      exact ⟨fun H x hx => H x (by omega) hx, fun H x _ hx => H x hx⟩
    cases hq : ALL n l with
    | true => exact beq_iff_eq.2 (this.2 hq)
    | false => exact beq_eq_false_iff_ne.2 (fun e => by rw [this.1 e] at hq; exact absurd hq (by decide))
  · rcases fP with ⟨a, H⟩ | ⟨a, H, y, hy, e⟩
    · have : ALL n l = true := A.2 (fun x hx => H x (by omega) hx)
      rw [this, a]; rfl
    · have : ALL n l = false := by
        cases hq : ALL n l with
        | false => rfl
        | true =>
          have := A.1 hq y hy
          rw [← e, H] at this; exact absurd this (by decide)
      rw [this]
      cases f with
      | nil => simp at a; omega
      | cons x y => rfl
  · intro hq
    rcases fP with ⟨a, H⟩ | ⟨a, H, y, hy, e⟩
    · have : ALL n l = true := A.2 (fun x hx => H x (by omega) hx)
      rw [this] at hq; exact absurd hq (by decide)
    · exact ⟨a, H⟩
  · rcases fP with ⟨a, H⟩ | ⟨a, H, y, hy, e⟩
    · rw [a]; simp
    · omega
  · rcases bP with ⟨e, j, hj, _, hs⟩ | ⟨e, H⟩
    · rw [e, all_take n l h4 j hs]
    · have := H l.length (by omega) (Nat.le_refl _)
      rw [List.take_length] at this
      rw [e]; exact this.symm
  · intro hq
    have r1 := rungs_least n hn l h4 hq
    rcases bP with ⟨e, j, hj, e2, hs⟩ | ⟨e, H⟩
    · have r2 := rungs_least n hn (l.take j) (fun r hr => h4 r (List.mem_of_mem_take hr)) hs
      rw [List.length_take] at r2
      rw [e2]
      omega
    · have := H l.length (by omega) (Nat.le_refl _)
      rw [List.take_length] at this
      unfold ALL at hq
      rw [this] at hq; exact absurd hq (by decide)
theorem down_succ (d : Nat) : down (d + 1) = (d : Int) :: down d := by
  unfold down
  rw [List.range_succ_eq_map, List.map_cons, List.map_map]
  congr 1
  · omega
  · refine List.map_congr_left fun i _ => ?_
    show ((d + 1 : Nat) : Int) - 1 - ((i + 1 : Nat) : Int) = (d : Int) - 1 - (i : Int)
    omega
theorem l4_run (x35 : Bool) (x39 : Int) (x43 : List Int) (x44 : Bool) (x47 : Int) (x48 : Bool) (a : Int) (l : List Int) : ∀ (d k : Nat) (acc : List Int), acc.length + d ≤ 1000 → laws_FnRungsCompare.l4 (k + d) x35 x39 x43 x44 x47 x48 acc ((d : Int) - 1) a l = laws_FnRungsCompare.l4 k x35 x39 x43 x44 x47 x48 (acc ++ down d) (-1) a l
  | 0, k, acc, h => by simp [down]
  | d + 1, k, acc, h => by
    have ih := l4_run x35 x39 x43 x44 x47 x48 a l d k (acc ++ [(d : Int)]) (by simp; omega)
    rw [down_succ, show acc ++ (d : Int) :: down d = acc ++ [(d : Int)] ++ down d by simp, ← ih, show k + (d + 1) = (k + d) + 1 by omega]
    generalize k + d = K
    simp only [laws_FnRungsCompare.l4]
    rw [if_pos (by omega), if_pos (by omega), show (((d + 1 : Nat) : Int) - 1) = (d : Int) by omega, wrap_id (by omega) (by omega)]
theorem j10_ok (n : Nat) (l f : List Int) (on : Bool) (h : isLadder (n : Int) l = true) (hf : f.length ≤ 8) (hP : on = true → f.length = n ∧ srtB (runV l f) = false) (k : Nat) (hk : 3000 ≤ k) : laws_FnRungsCompare.j10 k f on (n : Int) l = some true := by
  obtain ⟨h1, h2, h3, h4⟩ := isLadder_wires h
  obtain ⟨k, rfl⟩ : ∃ m, k = m + 1 := ⟨k - 1, by omega⟩
  simp only [laws_FnRungsCompare.j10]
  by_cases c : on = true
  · obtain ⟨a, b⟩ := hP c
    rw [if_pos c, (ex_SortedBy (n : Int) l f (by omega) (by omega) k (by omega)).2, sortedR, if_pos ⟨h, by omega⟩, Option.bind_some]
    dsimp only
    rw [if_pos rfl, kSorted_at _ (by rw [runV_length]; omega) k (by rw [runV_length]; omega), b, Option.bind_some, if_neg (by simp)]
  · rw [if_neg c]
theorem j7_ok {l : List Int} (hl : Code l) (k : Nat) (hk : 20000 ≤ k) : laws_FnRungsCompare.j7 k l = some true := by
  obtain ⟨k, rfl⟩ : ∃ m, k = m + 2 := ⟨k - 2, by omega⟩
  obtain ⟨a, r, e, hr⟩ := drawIsSorting hl
  simp only [laws_FnRungsCompare.j7]
  rw [e (k + 1) (by omega), Option.bind_some]
  dsimp only
  rw [(ex_IsSorting a r (by omega) (k + 1) (by omega)).2, (ex_IsSorting a r (by omega) (k + 1) (by omega)).1, Option.bind_some, Option.bind_some]
  by_cases h : isLadder a r = true
  · obtain ⟨h1, h2, h3, h4⟩ := isLadder_wires h
    obtain ⟨n, rfl⟩ : ∃ n : Nat, a = n := ⟨a.toNat, by omega⟩
    obtain ⟨c, f, b, C, F, B, S, p1, p2, p3, p4, p5, p6⟩ := good_all n r h
    have hn : n ≤ 8 := by omega
    have hsh := shl_fin n (List.mem_range.2 (by omega))
    have hls := ls_fin n (List.mem_range.2 (by omega)) (by omega)
    rw [(C (k + 1) (by omega)).2, (C (k + 1) (by omega)).1, (F (k + 1) (by omega)).2, (F (k + 1) (by omega)).1, (B (k + 1) (by omega)).2, (B (k + 1) (by omega)).1]
    simp only [Option.bind_some, isR, if_pos h, Int.toNat_natCast]
    rw [if_neg (bne_me _), if_neg (bne_me _), if_neg (bne_me _), if_pos trivial, if_neg (bne_me _), kSame_self f (by omega) (k + 1) (by omega), Option.bind_some, if_pos rfl, if_neg (bne_me _), if_pos trivial, if_neg (bne_me _), if_pos trivial, p2, if_neg (bne_me _), p5]
    simp only [laws_FnRungsCompare.j8]
    rw [if_neg (bne_me _), if_pos trivial, wrap_id (by omega) (by omega)]
    obtain ⟨K, rfl⟩ : ∃ m, k = (m + 1) + n := ⟨k - n - 1, by omega⟩
    rw [l4_run _ _ _ _ _ _ _ _ n (K + 1) [] (by simp; omega), List.nil_append]
    have J := j10_ok n r f (!ALL n r) h p4 (fun x => p3 (by simpa using x)) K (by omega)
    simp only [laws_FnRungsCompare.l4]
    rw [if_neg (by omega), (ex_SortedBy (n : Int) r (down n) (by omega) (by rw [down_length]; omega) K (by omega)).2, sortedR, if_pos ⟨h, by rw [down_length]⟩, Option.bind_some, hls, Option.bind_some, S K (by omega), Option.bind_some, if_pos (by omega), hsh, p1, if_neg (bne_me _)]
    dsimp only
    rw [if_pos rfl, kSorted_at _ (by rw [runV_length, down_length]; omega) K (by rw [runV_length, down_length]; omega), Option.bind_some, show srtB (runV r (down n)) = ALL n r from rfl, if_neg (bne_me _), if_pos rfl]
    cases hq : ALL n r with
    | true =>
      obtain ⟨q1, q2, q3⟩ := p6 hq
      rw [hq] at J
      rw [if_pos rfl, if_neg (by omega), if_pos rfl, if_neg (by omega), if_neg (by omega), if_pos rfl, if_neg (bne_me _)]
      exact J
    | false =>
      rw [hq] at J
      rw [if_neg (by simp), if_neg (by simp), if_pos rfl, if_neg (bne_me _)]
      exact J
  · have e1 : spec_CountBitsSorted.f (k + 1) a r = some (0, false) := by simp [spec_CountBitsSorted.f, laGood a r (by omega) (k + 1) (by omega), h]
    have e2 : impl_CountBitsSorted.f (k + 1) a r = some (0, false) := by simp [impl_CountBitsSorted.f, isLadder_eq, h]
    have e3 : spec_FirstBitsUnsorted.f (k + 1) a r = some ([], false) := by simp [spec_FirstBitsUnsorted.f, laGood a r (by omega) (k + 1) (by omega), h]
    have e4 : impl_FirstBitsUnsorted.f (k + 1) a r = some ([], false) := by simp [impl_FirstBitsUnsorted.f, isLadder_eq, h]
    have e5 : spec_LeastBeginning.f (k + 1) a r = some (0, false) := by simp [spec_LeastBeginning.f, laGood a r (by omega) (k + 1) (by omega), h]
    have e6 : impl_LeastBeginning.f (k + 1) a r = some (0, false) := by simp [impl_LeastBeginning.f, isLadder_eq, h]
    rw [e1, e2, e3, e4, e5, e6]
    simp only [Option.bind_some, isR, if_neg h]
    rw [if_neg (bne_me _), if_neg (bne_me _), if_neg (bne_me _), if_pos trivial, if_neg (bne_me _), kSame_self [] (by simp) (k + 1) (by simp), Option.bind_some, if_pos rfl, if_neg (bne_me _), if_pos trivial, if_neg (bne_me _), if_neg (by simp), if_neg (bne_me _)]
    simp only [laws_FnRungsCompare.j8]
    rw [if_neg (by simp), if_neg (by simp)]
    obtain ⟨k, rfl⟩ : ∃ m, k = m + 1 := ⟨k - 1, by omega⟩
    simp only [laws_FnRungsCompare.j10]
    rw [if_neg (by simp)]
/-- Each number as often as before. -/
theorem cnt_l3 {l : List Int} (v w : List Int) (x : Int) (q : List Int) (i : Int) (hw : w.length ≤ 1000) (B : Int) (hB : 0 ≤ B ∧ B ≤ 100000) : ∀ (d j k : Nat) (c : Int), j + d = w.length → -B ≤ c → c ≤ B → -B ≤ c - (d : Int) →
    laws_FnRungsCompare.l3 (k + d + 1) l v w x c q (q.length : Int) i w (w.length : Int) (j : Int) = if c - ((w.drop j).count x : Int) = 0 then laws_FnRungsCompare.l1 k l v w q (q.length : Int) (wrap64 (i + 1)) else none
  | 0, j, k, c, hj, h1, h2, h3 => by
    simp only [laws_FnRungsCompare.l3]
    rw [if_neg (by omega), List.drop_of_length_le (by omega)]
    simp
  | d + 1, j, k, c, hj, h1, h2, h3 => by
    have A := cnt_l3 (l := l) v w x q i hw B hB d (j + 1) k
    rw [show k + (d + 1) + 1 = (k + d + 1) + 1 by omega]
    generalize k + d + 1 = K at A ⊢
    simp only [laws_FnRungsCompare.l3]
    rw [if_pos (by omega), if_pos (by omega), if_pos (by omega), rd_nat w j (by omega), wrap_id (n := (j : Int) + 1) (by omega) (by omega), show ((j : Int) + 1) = ((j + 1 : Nat) : Int) by omega, List.drop_eq_getElem_cons (show j < w.length by omega)]
    by_cases z : w[j] = x
    · rw [if_pos z, wrap_id (n := c - 1) (by omega) (by omega), A (c - 1) (by omega) (by omega) (by omega) (by omega), z, List.count_cons_self]
      have : (c - 1 - ((w.drop (j + 1)).count x : Int) = 0) ↔ (c - (((w.drop (j + 1)).count x + 1 : Nat) : Int) = 0) := by omega
      simp only [this]
    · rw [if_neg z, A c (by omega) (by omega) (by omega) (by omega), List.count_cons_of_ne z]
theorem cnt_l2 {l : List Int} (v w : List Int) (x : Int) (q : List Int) (i : Int) (hv : v.length ≤ 1000) : ∀ (d j k : Nat) (c : Int), j + d = v.length → 0 ≤ c → c ≤ (j : Int) →
    laws_FnRungsCompare.l2 (k + d + 1) l v w x c q (q.length : Int) i v (v.length : Int) (j : Int) = laws_FnRungsCompare.l3 k l v w x (c + ((v.drop j).count x : Int)) q (q.length : Int) i w (w.length : Int) 0
  | 0, j, k, c, hj, h1, h2 => by
    simp only [laws_FnRungsCompare.l2]
    rw [if_neg (by omega), List.drop_of_length_le (by omega)]
    simp
  | d + 1, j, k, c, hj, h1, h2 => by
    have A := cnt_l2 (l := l) v w x q i hv d (j + 1) k
    rw [show k + (d + 1) + 1 = (k + d + 1) + 1 by omega]
    generalize k + d + 1 = K at A ⊢
    simp only [laws_FnRungsCompare.l2]
    rw [if_pos (by omega), if_pos (by omega), if_pos (by omega), rd_nat v j (by omega), wrap_id (n := (j : Int) + 1) (by omega) (by omega), show ((j : Int) + 1) = ((j + 1 : Nat) : Int) by omega, List.drop_eq_getElem_cons (show j < v.length by omega)]
    by_cases z : v[j] = x
    · rw [if_pos z, wrap_id (n := c + 1) (by omega) (by omega), A (c + 1) (by omega) (by omega) (by omega), z, List.count_cons_self]
      congr 1
      push_cast; omega
    · rw [if_neg z, A c (by omega) (by omega) (by omega), List.count_cons_of_ne z]
theorem cnt_l1 {l : List Int} (hl : Code l) (v w : List Int) (hv : v.length ≤ 200) (hp : w.Perm v) : ∀ (d j k : Nat), j + d = v.length → 30000 + 1000 * d ≤ k → laws_FnRungsCompare.l1 k l v w v (v.length : Int) (j : Int) = some true
  | 0, j, k, hj, hk => by
    obtain ⟨k, rfl⟩ : ∃ m, k = m + 1 := ⟨k - 1, by omega⟩
    simp only [laws_FnRungsCompare.l1]
    rw [if_neg (by omega)]
    exact j7_ok hl k (by omega)
  | d + 1, j, k, hj, hk => by
    have hwl : w.length = v.length := hp.length_eq
    obtain ⟨K, rfl⟩ : ∃ m, k = ((m + w.length + 1) + v.length + 1) + 1 := ⟨k - w.length - v.length - 3, by omega⟩
    have A := cnt_l2 (l := l) v w (rd v (j : Int)) v (j : Int) (by omega) v.length 0 (K + w.length + 1) 0 (by omega) (by omega) (by omega)
    have C1 : (v.drop 0).count (rd v (j : Int)) ≤ v.length := by rw [List.drop_zero]; exact List.count_le_length
    have B := cnt_l3 (l := l) v w (rd v (j : Int)) v (j : Int) (by omega) 100000 (by omega) w.length 0 K (0 + ((v.drop 0).count (rd v (j : Int)) : Int)) (by omega) (by omega) (by omega) (by omega)
    simp only [laws_FnRungsCompare.l1]
    rw [if_pos (by omega), if_pos (by omega), if_pos (by omega)]
    refine Eq.trans A (Eq.trans B ?_)
    rw [List.drop_zero, List.drop_zero, hp.count_eq, if_pos (by omega), wrap_id (by omega) (by omega), show ((j : Int) + 1) = ((j + 1 : Nat) : Int) by omega]
    exact cnt_l1 hl v w hv hp d (j + 1) K (by omega) (by omega)
theorem used_l0 {l : List Int} (hl : Code l) (v w idle us : List Int) (hv : v.length ≤ 200) (hp : w.Perm v) (hi : idle.length ≤ 60) (hu : us.length ≤ 60) (hn : ∀ u ∈ us, u ∉ idle) : ∀ (d j k : Nat), j + d = us.length → 300000 + d ≤ k → laws_FnRungsCompare.l0 k l v w idle us (us.length : Int) (j : Int) = some true
  | 0, j, k, hj, hk => by
    obtain ⟨k, rfl⟩ : ∃ m, k = m + 1 := ⟨k - 1, by omega⟩
    simp only [laws_FnRungsCompare.l0]
    rw [if_neg (by omega)]
    exact cnt_l1 hl v w hv hp v.length 0 k (by omega) (by omega)
  | d + 1, j, k, hj, hk => by
    obtain ⟨k, rfl⟩ : ∃ m, k = m + 1 := ⟨k - 1, by omega⟩
    simp only [laws_FnRungsCompare.l0]
    rw [if_pos (by omega), if_pos (by omega), if_pos (by omega), rd_nat us j (by omega), kHas_no idle (by omega) _ (hn _ (List.getElem_mem _)) k (by omega), Option.bind_some, if_neg (by simp), wrap_id (by omega) (by omega), show ((j : Int) + 1) = ((j + 1 : Nat) : Int) by omega]
    exact used_l0 hl v w idle us hv hp hi hu hn d (j + 1) k (by omega) (by omega)
theorem j1_ok {l : List Int} (hl : Code l) (n : Nat) (r v : List Int) (h : isLadder (n : Int) r = true) (hv : v.length = n) (is : Bool) (hs : is = true → ALL n r = true) (k : Nat) (hk : 400000 ≤ k) : laws_FnRungsCompare.j1 k l v (runV r v) true (usedV r v 0) is false (n : Int) r = some true := by
  obtain ⟨h1, h2, h3, h4⟩ := isLadder_wires h
  have hn : n ≤ 8 := by omega
  obtain ⟨k, rfl⟩ : ∃ m, k = m + 2 := ⟨k - 2, by omega⟩
  obtain ⟨b, hb, hB, hP⟩ := busy_law n hn r h3 h4 (k + 1) (by omega) (2 ^ n) 0 (List.replicate r.length false) (by omega) (by simp)
  have busy : impl_busy.f (k + 1) (n : Int) r = some b := by
    unfold impl_busy.f
    rw [if_pos (by omega), Int.toNat_natCast]
    exact hB
  have hI : impl_IdleRungs.f (k + 1) (n : Int) r = some (idl b 0, true) := by
    unfold impl_IdleRungs.f
    rw [isLadder_eq, Option.bind_some, h, if_pos rfl, busy, Option.bind_some]
    have := idle_l0 b (by omega) b.length 0 (k + 1) [] (by omega) (by simp) (by omega)
    simpa using this
  have hD : impl_DropIdle.f (k + 1) (n : Int) r = some ((n : Int), kp b r, true) := by
    unfold impl_DropIdle.f
    rw [isLadder_eq, Option.bind_some, h, if_pos rfl, busy, Option.bind_some]
    have := drop_l0 b r (n : Int) (by omega) hb b.length 0 (k + 1) [] (by omega) (by simp) (by omega)
    simpa using this
  have hum := usedV_mem r v 0
  have hul := usedV_length r v 0
  have used : ∀ u ∈ usedV r v 0, ∀ j : Nat, u = ((0 + j : Nat) : Int) → b.getD j false = true := by
    intro u hu j hj
    obtain ⟨y, hy, hy2⟩ := used_bits n r v hv h4 u hu
    have := hum u hu
    exact hP j (by omega) (Or.inr ⟨y, by omega, hy, by rw [hj] at hy2; simpa using hy2⟩)
  have hlen := idl_kp b r 0 hb
  have hil := idl_len b 0
  have hk1 : isLadder (n : Int) (kp b r) = true := by
    unfold isLadder
    simp only [Bool.and_eq_true, decide_eq_true_eq, List.all_eq_true]
    exact ⟨⟨⟨by omega, by omega⟩, by omega⟩, fun x hx => h4 x (kp_mem b r x hx)⟩
  have hrun := run_kp n r b v 0 hb used
  have no : ∀ u ∈ usedV r v 0, u ∉ idl b 0 := by
    intro u hu hi
    obtain ⟨j, hj, e, hf⟩ := idl_mem b 0 u hi
    rw [used u hu j e] at hf
    exact absurd hf (by decide)
  have hp := run_perm n r v hv h4
  have L := used_l0 hl v (runV r v) (idl b 0) (usedV r v 0) (by omega) hp (by omega) (by omega) no (usedV r v 0).length 0 k (by omega) (by omega)
  have J2 : laws_FnRungsCompare.j2 (k + 1) l v (runV r v) (usedV r v 0) (idl b 0) ((wrap64 (((kp b r).length : Int) + ((idl b 0).length : Int))) != (r.length : Int)) = some true := by
    simp only [laws_FnRungsCompare.j2]
    rw [wrap_id (by omega) (by omega), show ((kp b r).length : Int) + ((idl b 0).length : Int) = (r.length : Int) by omega, if_neg (bne_me _)]
    exact L
  have hw : (runV r v).length = v.length := runV_length r v
  simp only [laws_FnRungsCompare.j1]
  rw [if_neg (by simp), if_pos trivial, hI, hD, Option.bind_some, Option.bind_some]
  dsimp only
  rw [(ex_SortedBy (n : Int) (kp b r) v (by omega) (by omega) (k + 1) (by omega)).2, sortedR, if_pos ⟨hk1, by omega⟩, Option.bind_some, hrun, if_pos (by omega)]
  by_cases c : is = true
  · have hall := down_all n r h4 (hs c) v hv
    rw [if_pos c, kSorted_at _ (by omega) (k + 1) (by omega), hall, Option.bind_some]
    dsimp only
    rw [if_pos rfl, if_pos rfl, if_pos rfl, if_pos rfl, kSame_self _ (by omega) (k + 1) (by omega), Option.bind_some, if_pos rfl]
    exact J2
  · rw [if_neg c]
    dsimp only
    rw [if_pos rfl, if_pos rfl, if_pos rfl, kSame_self _ (by omega) (k + 1) (by omega), Option.bind_some, if_pos rfl]
    exact J2
theorem j1_no {l : List Int} (hl : Code l) (v w us : List Int) (is : Bool) (a : Int) (r : List Int) (k : Nat) (hk : 400000 ≤ k) : laws_FnRungsCompare.j1 k l v w false us is false a r = some true := by
  obtain ⟨k, rfl⟩ : ∃ m, k = m + 1 := ⟨k - 1, by omega⟩
  simp only [laws_FnRungsCompare.j1]
  rw [if_neg (by simp), if_neg (by simp)]
  exact j7_ok hl k (by omega)
end Go.Proofs.Ytnagcjhgojchlac.L
namespace Go.Proofs.Ytnagcjhgojchlac.Pure
open Go.RowKit Go.Proofs.Ytnagcjhgojchlac.Q Go.Proofs.YtnagcjhgojchlacW.PrintWords Go.Proofs.YtnagcjhgojchlacW.PrintLast Go.Proofs.Ytnagcjhgojchlac.L
theorem FnRungsCompare (l0 : List Int) (l1 : List Int) (hl0 : l0.length ≤ 9223372036854775807) (hw0 : ∀ x ∈ l0, (Lit.int .u8 x).wf = true) (hl1 : l1.length ≤ 9223372036854775807) (hw1 : ∀ x ∈ l1, (Lit.int .u8 x).wf = true) : ∃ k, laws_FnRungsCompare.f k l0 l1 = some true := by
  rcases big_cases l0 l1 hl0 hl1 with hb | ⟨hb, g0, g1⟩
  · refine ⟨0, ?_⟩
    unfold laws_FnRungsCompare.f
    rw [hb]; rfl
  · have c0 := code_of hw0 (by omega)
    have c1 := code_of hw1 (by omega)
    obtain ⟨a, r, v, e, hr, hv⟩ := drawSortedBy c0
    obtain ⟨k, hk⟩ : ∃ k : Nat, k = 500000 := ⟨_, rfl⟩
    have E1 := ex_SortedBy a r v (by omega) (by omega) k (by omega)
    have E2 := ex_ExchangesOf a r v (by omega) (by omega) k (by omega)
    have E3 := fun (k : Nat) (hk : 2000 ≤ k) => ex_IsSorting a r (by omega) k hk
    have eL : ∀ k : Nat, impl_IsLadder.f a r = some (isLadder a r) := fun k => by
      unfold impl_IsLadder.f
      rw [isLadder_eq, Option.bind_some]
    refine ⟨k, ?_⟩
    unfold laws_FnRungsCompare.f
    rw [hb, Option.bind_some, if_neg (by decide), e k (by omega), Option.bind_some]
    dsimp only
    rw [E1.1, E1.2, E2.1, E2.2]
    simp only [Option.bind_some]
    have sl : (sortedR a r v).1.length ≤ 200 := by
      unfold sortedR
      split
      · rw [runV_length]; omega
      · simp
    have ul : (usedR a r v).1.length ≤ 200 := by
      unfold usedR
      split
      · have := usedV_length r v 0; dsimp only; omega
      · simp
    have su : (usedR a r v).2 = (sortedR a r v).2 := by
      unfold usedR sortedR
      split <;> rfl
    rw [if_neg (bne_me _), kSame_self _ (by omega) k (by omega), Option.bind_some, if_pos rfl, if_neg (bne_me _), kSame_self _ (by omega) k (by omega), Option.bind_some, if_pos rfl, su]
    obtain ⟨k', rfl⟩ : ∃ m, k = m + 1 := ⟨k - 1, by omega⟩
    simp only [laws_FnRungsCompare.j0]
    rw [if_neg (bne_me _), (E3 k' (by omega)).1, (E3 k' (by omega)).2, Option.bind_some, Option.bind_some, if_neg (bne_me _), if_neg (bne_me _), eL 0, Option.bind_some]
    by_cases h : isLadder a r = true
    · obtain ⟨h1, h2, h3, h4⟩ := isLadder_wires h
      obtain ⟨n, rfl⟩ : ∃ n : Nat, a = n := ⟨a.toNat, by omega⟩
      have i2 : isR (n : Int) r = (ALL n r, true) := by unfold isR; rw [if_pos h, Int.toNat_natCast]
      rw [i2, h]
      by_cases z : (v.length : Int) = (n : Int)
      · have s2 : sortedR (n : Int) r v = (runV r v, true) := by unfold sortedR; rw [if_pos ⟨h, z⟩]
        have u2 : usedR (n : Int) r v = (usedV r v 0, true) := by unfold usedR; rw [if_pos ⟨h, z⟩]
        rw [s2, u2]
        exact j1_ok c1 n r v h (by omega) _ (fun x => x) k' (by omega)
      · have s2 : sortedR (n : Int) r v = ([], false) := by unfold sortedR; rw [if_neg (fun x => z x.2)]
        rw [s2]
        exact j1_no c1 _ _ _ _ _ _ k' (by omega)
    · have i2 : isR a r = (false, false) := by unfold isR; rw [if_neg h]
      have s2 : sortedR a r v = ([], false) := by unfold sortedR; rw [if_neg (fun x => h x.1)]
      rw [i2, s2, Bool.eq_false_iff.2 h]
      exact j1_no c1 _ _ _ _ _ _ k' (by omega)
end Go.Proofs.Ytnagcjhgojchlac.Pure
