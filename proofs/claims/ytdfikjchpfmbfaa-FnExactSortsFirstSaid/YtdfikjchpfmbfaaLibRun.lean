/- Numbers going down rungs that compare, as the program and the reference tell it; for rungs that lie between the wires, and lists that fit into memory. -/
import Derived.Test.YtdfikjchpfmbfaaLibA
import Derived.Test.YtdfikjchpfmbfaaQx1
import Derived.Test.YtdfikjchpfmbfaaQx2
import Derived.Test.YtdfikjchpfmbfaaQx11
import Derived.Test.YtdfikjchpfmbfaaQx13
import Derived.Test.YtdfikjchpfmbfaaQx14
import Derived.Test.YtdfikjchpfmbfaaQx15
namespace Go.Proofs.Ytdfikjchpfmbfaa.L
open Go.RowKit Go.Proofs.Ytdfikjchpfmbfaa.Q Go.Proofs.YtdfikjchpfmbfaaW.PrintWords Go.Proofs.YtdfikjchpfmbfaaW.PrintLast
set_option linter.unusedVariables false
set_option linter.unusedSimpArgs false
/-- One rung that compares. -/
def cmpx (v : List Int) (r : Int) : List Int := if rd v r > rd v (r + 1) then (v.set r.toNat (rd v (r + 1))).set (r + 1).toNat (rd v r) else v
/-- All rungs, from the top. -/
def runV : List Int → List Int → List Int
  | [], v => v
  | r :: rs, v => runV rs (cmpx v r)
/-- The indices of the rungs with exchanges, counted from i. -/
def usedV : List Int → List Int → Int → List Int
  | [], _, _ => []
  | r :: rs, v, i => (if rd v r > rd v (r + 1) then [i] else []) ++ usedV rs (cmpx v r) (i + 1)
theorem cmpx_length (v : List Int) (r : Int) : (cmpx v r).length = v.length := by
  unfold cmpx
  split <;> simp
theorem runV_length : ∀ (rs v : List Int), (runV rs v).length = v.length
  | [], _ => rfl
  | r :: rs, v => by rw [runV, runV_length rs, cmpx_length]
theorem usedV_length : ∀ (rs v : List Int) (i : Int), (usedV rs v i).length ≤ rs.length
  | [], _, _ => by simp [usedV]
  | r :: rs, v, i => by
    have := usedV_length rs (cmpx v r) (i + 1)
    simp only [usedV, List.length_append, List.length_cons]
    split <;> simp <;> omega
theorem compare_l0 (rs : List Int) (n : Nat) (hb : rs.length ≤ 35184372088832) (hn : n ≤ 35184372088832) (hr : ∀ r ∈ rs, 0 ≤ r ∧ r ≤ (n : Int) - 2) (d : Nat) : ∀ (i k : Nat) (v : List Int), i + d = rs.length → v.length = n → d < k → impl_compare.l0 k v rs (rs.length : Int) (i : Int) = some (runV (rs.drop i) v) := by
  induction d with
  | zero =>
    intro i k v hi hv hk
    obtain ⟨k, rfl⟩ : ∃ m, k = m + 1 := ⟨k - 1, by omega⟩
    simp only [impl_compare.l0]
    rw [if_neg (by omega), show i = rs.length from by omega, List.drop_length]
    rfl
  | succ d ih =>
    intro i k v hi hv hk
    obtain ⟨k, rfl⟩ : ∃ m, k = m + 1 := ⟨k - 1, by omega⟩
    have hx := hr rs[i] (List.getElem_mem _)
    have IH := ih (i + 1) k (cmpx v rs[i]) (by omega) (by rw [cmpx_length]; exact hv) (by omega)
    simp only [impl_compare.l0, impl_sorted_1.f]
    rw [if_pos (by omega), if_pos (by omega), if_pos (by omega), rd_nat rs i (by omega), wrap_id (n := rs[i] + 1) (by omega) (by omega), if_pos (by omega), if_pos (by omega), if_pos (by omega), if_pos (by omega), wrap_id (n := (i : Int) + 1) (by omega) (by omega), List.drop_eq_getElem_cons (by omega), runV]
    unfold cmpx at IH ⊢
    by_cases h : rd v rs[i] > rd v (rs[i] + 1)
    · rw [if_pos h] at IH
      rw [if_pos h, if_pos h, Option.bind_some]
      exact_mod_cast IH
    · rw [if_neg h] at IH
      rw [if_neg h, if_neg h]
      exact_mod_cast IH
theorem sorted (rs v : List Int) (hb : rs.length ≤ 35184372088832) (hv : v.length ≤ 35184372088832 / 4) (hr : ∀ r ∈ rs, 0 ≤ r ∧ r ≤ (v.length : Int) - 2) (k : Nat) (hk : rs.length + 1 ≤ k) : impl_sorted.f k rs v = some (runV rs v) := by
  unfold impl_sorted.f impl_compare.f slices_Clone_int_int.f
  rw [if_pos (by omega), Option.bind_some]
  have := compare_l0 rs v.length hb (by omega) hr rs.length 0 k v (by omega) rfl (by omega)
  rw [List.drop_zero] at this
  have e : impl_compare.l0 k v rs (rs.length : Int) 0 = some (runV rs v) := this
  rw [e]
  rfl
theorem soRun_l0 (rs : List Int) (n : Nat) (hb : rs.length ≤ 8796093022208) (hn : n ≤ 35184372088832) (hr : ∀ r ∈ rs, 0 ≤ r ∧ r ≤ (n : Int) - 2) (d : Nat) : ∀ (i k : Nat) (v u : List Int), i + d = rs.length → v.length = n → u.length ≤ i → d < k → spec_soRun.l0 k v u rs (rs.length : Int) (i : Int) = some (runV (rs.drop i) v, u ++ usedV (rs.drop i) v (i : Int)) := by
  induction d with
  | zero =>
    intro i k v u hi hv hu hk
    obtain ⟨k, rfl⟩ : ∃ m, k = m + 1 := ⟨k - 1, by omega⟩
    simp only [spec_soRun.l0]
    rw [if_neg (by omega), show i = rs.length from by omega, List.drop_length]
    simp [runV, usedV]
  | succ d ih =>
    intro i k v u hi hv hu hk
    obtain ⟨k, rfl⟩ : ∃ m, k = m + 1 := ⟨k - 1, by omega⟩
    have hx := hr rs[i] (List.getElem_mem _)
    simp only [spec_soRun.l0]
    rw [if_pos (by omega), if_pos (by omega), if_pos (by omega), rd_nat rs i (by omega), wrap_id (n := rs[i] + 1) (by omega) (by omega), if_pos (by omega), if_pos (by omega), if_pos (by omega), if_pos (by omega), wrap_id (n := (i : Int) + 1) (by omega) (by omega), List.drop_eq_getElem_cons (by omega), runV, usedV]
    by_cases h : rd v rs[i] > rd v (rs[i] + 1)
    · have IH := ih (i + 1) k (cmpx v rs[i]) (u ++ [(i : Int)]) (by omega) (by rw [cmpx_length]; exact hv) (by simp; omega) (by omega)
      rw [if_pos h, if_pos h, if_pos (by omega)]
      rw [show cmpx v rs[i] = (v.set (rs[i]).toNat (rd v (rs[i] + 1))).set (rs[i] + 1).toNat (rd v rs[i]) from by unfold cmpx; rw [if_pos h]] at IH ⊢
      rw [List.append_assoc] at IH
      exact_mod_cast IH
    · have IH := ih (i + 1) k (cmpx v rs[i]) u (by omega) (by rw [cmpx_length]; exact hv) (by omega) (by omega)
      rw [if_neg h, if_neg h, List.nil_append]
      rw [show cmpx v rs[i] = v from by unfold cmpx; rw [if_neg h]] at IH ⊢
      exact_mod_cast IH
theorem soRun (rs v : List Int) (hb : rs.length ≤ 8796093022208) (hv : v.length ≤ 35184372088832 / 4) (hr : ∀ r ∈ rs, 0 ≤ r ∧ r ≤ (v.length : Int) - 2) (k : Nat) (hk : rs.length + 1 ≤ k) : spec_soRun.f k rs v = some (runV rs v, usedV rs v 0) := by
  unfold spec_soRun.f spec_l1Own.f
  have := soRun_l0 rs v.length hb (by omega) hr rs.length 0 k v [] (by omega) rfl (by simp) (by omega)
  rw [List.drop_zero, List.nil_append] at this
  have e : spec_soRun.l0 k v [] rs (rs.length : Int) 0 = some (runV rs v, usedV rs v 0) := this
  rw [Option.bind_some, if_pos (by simp; omega), Option.bind_some, List.nil_append]
  exact e
end Go.Proofs.Ytdfikjchpfmbfaa.L
