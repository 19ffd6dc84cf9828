/- Rungs that compare beside the states of a function value: the states go along the indices of the rungs with exchanges; under the bounds that each theorem names. -/
import Derived.Test.YtmljdibhdnckpaaLibSorting
import Derived.Test.YtmljdibhdnckpaaQx1
import Derived.Test.YtmljdibhdnckpaaQx12
namespace Go.Proofs.Ytmljdibhdnckpaa.L
open Go.RowKit Go.Proofs.Ytmljdibhdnckpaa.Q Go.Proofs.YtmljdibhdnckpaaW.PrintWords Go.Proofs.YtmljdibhdnckpaaW.PrintLast
set_option linter.unusedVariables false
set_option linter.unusedSimpArgs false
def foldO {α : Type} (step : α → Int → Option α) : List Int → α → Option α
  | [], s => some s
  | u :: us, s => (step s u).bind fun s2 => foldO step us s2
theorem foldO_app {α : Type} (step : α → Int → Option α) : ∀ (a b : List Int) (s : α), foldO step (a ++ b) s = (foldO step a s).bind fun s2 => foldO step b s2
  | [], b, s => rfl
  | u :: a, b, s => by
    show (step s u).bind (fun s2 => foldO step (a ++ b) s2) = ((step s u).bind fun s2 => foldO step a s2).bind fun s2 => foldO step b s2
    cases step s u with
    | none => rfl
    | some s2 => exact foldO_app step a b s2
theorem usedV_mem : ∀ (rs v : List Int) (i u : Int), u ∈ usedV rs v i → i ≤ u ∧ u < i + rs.length
  | [], v, i, u, h => by simp [usedV] at h
  | r :: rs, v, i, u, h => by
    simp only [usedV, List.mem_append] at h
    rcases h with h | h
    · split at h
      · simp at h
        subst h
        simp only [List.length_cons]
        omega
      · simp at h
    · have := usedV_mem rs (cmpx v r) (i + 1) u h
      simp only [List.length_cons]
      omega
theorem compareG_l0 {α : Type} (step : α → Int → Option α) (rs : List Int) (n : Nat) (hb : rs.length ≤ 35184372088832) (hn : n ≤ 35184372088832) (hr : ∀ r ∈ rs, 0 ≤ r ∧ r ≤ (n : Int) - 2) (d : Nat) : ∀ (i k : Nat) (v : List Int) (s : α), i + d = rs.length → v.length = n → d < k → impl_compareG.l0 step k v rs (rs.length : Int) (i : Int) s = (foldO step (usedV (rs.drop i) v (i : Int)) s).bind fun s2 => some (runV (rs.drop i) v, s2) := by
  induction d with
  | zero =>
    intro i k v s hi hv hk
    obtain ⟨k, rfl⟩ : ∃ m, k = m + 1 := ⟨k - 1, by omega⟩
    simp only [impl_compareG.l0]
    rw [if_neg (by omega), show i = rs.length from by omega, List.drop_length]
    rfl
  | succ d ih =>
    intro i k v s hi hv hk
    obtain ⟨k, rfl⟩ : ∃ m, k = m + 1 := ⟨k - 1, by omega⟩
    have hx := hr rs[i] (List.getElem_mem _)
    have IH := fun s => ih (i + 1) k (cmpx v rs[i]) s (by omega) (by rw [cmpx_length]; exact hv) (by omega)
    simp only [impl_compareG.l0]
    rw [if_pos (by omega), if_pos (by omega), if_pos (by omega), rd_nat rs i (by omega), wrap_id (n := rs[i] + 1) (by omega) (by omega), if_pos (by omega), if_pos (by omega), if_pos (by omega), if_pos (by omega), wrap_id (n := (i : Int) + 1) (by omega) (by omega), List.drop_eq_getElem_cons (by omega), runV, usedV]
    by_cases h : rd v rs[i] > rd v (rs[i] + 1)
    · have e : cmpx v rs[i] = (v.set (rs[i]).toNat (rd v (rs[i] + 1))).set (rs[i] + 1).toNat (rd v rs[i]) := by unfold cmpx; rw [if_pos h]
      rw [if_pos h, if_pos h, foldO_app]
      rw [e] at IH ⊢
      have e1 : foldO step [(i : Int)] s = step s (i : Int) := by
        show (step s (i : Int)).bind (fun s2 => some s2) = _
        cases step s (i : Int) <;> rfl
      rw [e1]
      cases step s (i : Int) with
      | none => rfl
      | some s2 =>
        simp only [Option.bind_some]
        exact_mod_cast IH s2
    · have e : cmpx v rs[i] = v := by unfold cmpx; rw [if_neg h]
      rw [if_neg h, if_neg h]
      rw [e] at IH ⊢
      exact_mod_cast IH s
theorem compareG {α : Type} (step : α → Int → Option α) (rs v : List Int) (s : α) (hb : rs.length ≤ 35184372088832) (hv : v.length ≤ 35184372088832 / 4) (hr : ∀ r ∈ rs, 0 ≤ r ∧ r ≤ (v.length : Int) - 2) (k : Nat) (hk : rs.length + 1 ≤ k) : impl_compareG.f step k rs v s = (foldO step (usedV rs v 0) s).bind fun s2 => some (runV rs v, s2) := by
  unfold impl_compareG.f slices_Clone_int_int.f
  rw [if_pos (by omega), Option.bind_some]
  have := compareG_l0 step rs v.length hb (by omega) hr rs.length 0 k v s (by omega) rfl (by omega)
  rw [List.drop_zero] at this
  exact_mod_cast this
end Go.Proofs.Ytmljdibhdnckpaa.L
