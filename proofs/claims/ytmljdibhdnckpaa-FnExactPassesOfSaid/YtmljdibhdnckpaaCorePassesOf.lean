/- PassesOf: the program's function and the reference's answer the same, for lists that fit into memory. -/
import Derived.Test.YtmljdibhdnckpaaLibSorting
import Derived.Test.YtmljdibhdnckpaaQx8
import Derived.Test.YtmljdibhdnckpaaQx13
namespace Go.Proofs.Ytmljdibhdnckpaa.L
open Go.RowKit Go.Proofs.Ytmljdibhdnckpaa.Q Go.Proofs.YtmljdibhdnckpaaW.PrintWords Go.Proofs.YtmljdibhdnckpaaW.PrintLast
set_option linter.unusedVariables false
set_option linter.unusedSimpArgs false
/-- i, i + 1, .. -/
def idF : Nat → Nat → List Int
  | _, 0 => []
  | i, d + 1 => (i : Int) :: idF (i + 1) d
theorem idF_length : ∀ d i, (idF i d).length = d
  | 0, _ => rfl
  | d + 1, i => by rw [idF, List.length_cons, idF_length d]
theorem idF_mem : ∀ d i r, r ∈ idF i d → (i : Int) ≤ r ∧ r < (i : Int) + d
  | 0, i, r, h => by simp [idF] at h
  | d + 1, i, r, h => by
    rw [idF, List.mem_cons] at h
    rcases h with rfl | h
    · omega
    · have := idF_mem d (i + 1) r h
      omega
theorem identity_fin100 : ∀ n ∈ List.range 101, impl_identity.f 110 (n : Int) = some (idF 0 n) := by decide +kernel
/-- Is there an exchange? -/
def chg : List Int → List Int → Bool
  | [], _ => false
  | r :: rs, v => decide (rd v r > rd v (r + 1)) || chg rs (cmpx v r)
theorem chg_iff : ∀ d i (v : List Int), i + d ≤ v.length - 1 → (chg (idF i d) v = false ↔ ∀ j, i ≤ j → j < i + d → v.getD j 0 ≤ v.getD (j + 1) 0) ∧ (chg (idF i d) v = false → runV (idF i d) v = v)
  | 0, i, v, h => ⟨⟨fun _ j h1 h2 => by omega, fun _ => rfl⟩, fun _ => rfl⟩
  | d + 1, i, v, h => by
    have e1 : rd v (i : Int) = v.getD i 0 := rfl
    have e2 : rd v ((i : Int) + 1) = v.getD (i + 1) 0 := rfl
    rw [idF, chg, runV, Bool.or_eq_false_iff, decide_eq_false_iff_not, e1, e2]
    by_cases hg : v.getD i 0 > v.getD (i + 1) 0
    · refine ⟨⟨fun h2 => absurd hg h2.1, fun h2 => ?_⟩, fun h2 => absurd hg h2.1⟩
      have := h2 i (by omega) (by omega)
      omega
    · have ec : cmpx v (i : Int) = v := by
        unfold cmpx
        rw [e1, e2, if_neg hg]
      rw [ec]
      obtain ⟨a, b⟩ := chg_iff d (i + 1) v (by omega)
      refine ⟨⟨fun h2 j h3 h4 => ?_, fun h2 => ⟨hg, a.2 (fun j h3 h4 => h2 j (by omega) (by omega))⟩⟩, fun h2 => b h2.2⟩
      by_cases hj : j = i
      · subst hj
        omega
      · exact a.1 h2.2 j (by omega) (by omega)
theorem chg_srt (v : List Int) : chg (idF 0 (v.length - 1)) v = !srtB v := by
  have h := (chg_iff (v.length - 1) 0 v (by omega)).1
  have h2 := srtB_iff v
  cases hs : srtB v with
  | true =>
    rw [hs] at h2
    exact h.2 (fun j _ hj => h2.1 rfl j (by omega))
  | false =>
    cases hc : chg (idF 0 (v.length - 1)) v with
    | true => rfl
    | false =>
      have := h2.2 (fun j hj => h.1 hc j (by omega) (by omega))
      rw [hs] at this
      cases this
/-- Each number times its place. -/
def phi (v : List Int) : Nat → Int
  | 0 => 0
  | p + 1 => phi v p + (p : Int) * v.getD p 0
theorem phi_cmpx (v : List Int) (r : Nat) (h : r + 1 < v.length) : ∀ p, phi (cmpx v (r : Int)) p = if p ≤ r then phi v p else if p = r + 1 then phi v r + (r : Int) * min (v.getD r 0) (v.getD (r + 1) 0) else phi v p + (max (v.getD r 0) (v.getD (r + 1) 0) - v.getD (r + 1) 0)
  | 0 => by rw [if_pos (by omega)]; rfl
  | p + 1 => by
    have ih := phi_cmpx v r h p
    rw [phi, ih, cmpx_get v r h]
    by_cases h1 : p < r
    · rw [if_pos (by omega), if_neg (by omega), if_neg (by omega), if_pos (by omega)]
      rfl
    · by_cases h2 : p = r
      · subst h2
        rw [if_pos (by omega), if_pos rfl, if_neg (by omega), if_pos rfl]
      · by_cases h3 : p = r + 1
        · subst h3
          rw [if_neg (by omega), if_pos rfl, if_neg (by omega), if_pos rfl, if_neg (by omega), if_neg (by omega)]
          have e : phi v (r + 1 + 1) = phi v r + (r : Int) * v.getD r 0 + ((r + 1 : Nat) : Int) * v.getD (r + 1) 0 := rfl
          rw [e]
          generalize v.getD r 0 = x
          generalize v.getD (r + 1) 0 = y
          have e2 : ∀ z : Int, ((r + 1 : Nat) : Int) * z = (r : Int) * z + z := fun z => by
            rw [Int.natCast_add, Int.add_mul]
            omega
          rw [e2, e2]
          by_cases hxy : x ≤ y
          · rw [Int.min_eq_left hxy, Int.max_eq_right hxy]
            omega
          · rw [Int.min_eq_right (by omega), Int.max_eq_left (by omega)]
            omega
        · rw [if_neg (by omega), if_neg (by omega), if_neg (by omega), if_neg (by omega), if_neg (by omega), if_neg (by omega)]
          have e : phi v (p + 1) = phi v p + (p : Int) * v.getD p 0 := rfl
          rw [e]
          omega
theorem phi_run (n : Nat) : ∀ d i (v : List Int), v.length = n → i + d ≤ n - 1 → phi v n ≤ phi (runV (idF i d) v) n ∧ (chg (idF i d) v = true → phi v n < phi (runV (idF i d) v) n)
  | 0, i, v, hv, h => ⟨Int.le_refl _, fun h2 => by simp [idF, chg] at h2⟩
  | d + 1, i, v, hv, h => by
    have ih := phi_run n d (i + 1) (cmpx v (i : Int)) (by rw [cmpx_length, hv]) (by omega)
    have e1 : rd v (i : Int) = v.getD i 0 := rfl
    have e2 : rd v ((i : Int) + 1) = v.getD (i + 1) 0 := rfl
    have e3 := phi_cmpx v i (by omega) n
    rw [if_neg (by omega), if_neg (by omega)] at e3
    rw [idF, runV, chg, Bool.or_eq_true, decide_eq_true_eq, e1, e2]
    refine ⟨by omega, fun h2 => ?_⟩
    rcases h2 with h2 | h2
    · omega
    · have := ih.2 h2
      omega
theorem run_le (M : Int) : ∀ d i (v : List Int), i + d ≤ v.length - 1 → (∀ j, v.getD j 0 ≤ M) → ∀ j, (runV (idF i d) v).getD j 0 ≤ M
  | 0, i, v, h, hm => hm
  | d + 1, i, v, h, hm => by
    rw [idF, runV]
    refine run_le M d (i + 1) _ (by rw [cmpx_length]; omega) (fun j => ?_)
    rw [cmpx_get v i (by omega)]
    have h1 := hm i
    have h2 := hm (i + 1)
    have h3 := hm j
    split
    · omega
    · split <;> omega
def phiTop (M : Int) : Nat → Int
  | 0 => 0
  | p + 1 => phiTop M p + (p : Int) * M
theorem phi_top (M : Int) (v : List Int) (hm : ∀ j, v.getD j 0 ≤ M) : ∀ p, phi v p ≤ phiTop M p
  | 0 => Int.le_refl _
  | p + 1 => by
    have := phi_top M v hm p
    have h2 : (p : Int) * v.getD p 0 ≤ (p : Int) * M := Int.mul_le_mul_of_nonneg_left (hm p) (by omega)
    rw [phi, phiTop]
    omega
theorem spec_pass (d : Nat) : ∀ (i : Nat) (v : List Int) (x : Int) (c : Bool) (k : Nat), i + d = v.length - 1 → v.length ≤ 100 → spec_PassesOf.l1 (k + d + 1) v x c (i : Int) = (if (c || chg (idF i d) v) = true then spec_PassesOf.l0 k (runV (idF i d) v) (wrap64 (x + 1)) true else spec_PassesOf.l0 k (runV (idF i d) v) x false) := by
  induction d with
  | zero =>
    intro i v x c k hi hv
    rw [spec_PassesOf.l1, wrap_id (n := (i : Int) + 1) (by omega) (by omega), if_neg (by omega)]
    simp only [idF, chg, runV, Bool.or_false]
    cases c <;> simp
  | succ d ih =>
    intro i v x c k hi hv
    rw [show k + (d + 1) + 1 = (k + d + 1) + 1 from by omega, spec_PassesOf.l1, wrap_id (n := (i : Int) + 1) (by omega) (by omega), if_pos (by omega), if_pos (by omega), if_pos (by omega), if_pos (by omega)]
    by_cases h : rd v (i : Int) > rd v ((i : Int) + 1)
    · have e : cmpx v (i : Int) = (v.set ((i : Int)).toNat (rd v ((i : Int) + 1))).set ((i : Int) + 1).toNat (rd v (i : Int)) := by
        unfold cmpx
        rw [if_pos h]
      have := ih (i + 1) (cmpx v (i : Int)) x true k (by rw [cmpx_length]; omega) (by rw [cmpx_length]; exact hv)
      rw [if_pos h, idF, chg, runV, decide_eq_true h]
      rw [e] at this ⊢
      simp only [Bool.true_or, Bool.or_true] at this ⊢
      exact_mod_cast this
    · have e : cmpx v (i : Int) = v := by
        unfold cmpx
        rw [if_neg h]
      have := ih (i + 1) v x c k (by omega) hv
      rw [if_neg h, idF, chg, runV, decide_eq_false h, e]
      simp only [Bool.false_or]
      exact_mod_cast this
theorem passes (M : Int) (n : Nat) (hn : n ≤ 100) (m : Nat) : ∀ (v : List Int) (x : Int), v.length = n → (∀ j, v.getD j 0 ≤ M) → (phiTop M n - phi v n).toNat ≤ m → ∃ K r, (∀ k, K ≤ k → spec_PassesOf.l0 k v x true = some (r, true)) ∧ (∀ k, K ≤ k → impl_PassesOf.l0 k v x = some (r, true)) := by
  induction m with
  | zero =>
    intro v x hv hm h
    have hs : srtB v = true := by
      cases hs : srtB v with
      | true => rfl
      | false =>
        have hc := chg_srt v
        rw [hs] at hc
        have h1 := (phi_run n (v.length - 1) 0 v hv (by omega)).2 hc
        have h2 := phi_top M _ (run_le M (v.length - 1) 0 v (by omega) hm) n
        omega
    refine ⟨n + 200, x, fun k hk => ?_, fun k hk => ?_⟩
    · obtain ⟨k, rfl⟩ : ∃ m, k = (m + 1) + (v.length - 1) + 1 + 1 := ⟨k - (v.length - 1) - 3, by omega⟩
      rw [spec_PassesOf.l0, if_pos rfl]
      have := spec_pass (v.length - 1) 0 v x false (k + 1) (by omega) (by omega)
      rw [chg_srt, hs] at this
      have e := (chg_iff (v.length - 1) 0 v (by omega)).2 (by rw [chg_srt, hs]; rfl)
      rw [e, if_neg (by decide), spec_PassesOf.l0, if_neg (by decide)] at this
      exact this
    · obtain ⟨k, rfl⟩ : ∃ m, k = m + 1 := ⟨k - 1, by omega⟩
      rw [impl_PassesOf.l0, isSorted v (by omega) k (by omega), Option.bind_some, hs, if_pos rfl]
  | succ m ih =>
    intro v x hv hm h
    cases hs : srtB v with
    | true =>
      refine ⟨n + 200, x, fun k hk => ?_, fun k hk => ?_⟩
      · obtain ⟨k, rfl⟩ : ∃ m, k = (m + 1) + (v.length - 1) + 1 + 1 := ⟨k - (v.length - 1) - 3, by omega⟩
        rw [spec_PassesOf.l0, if_pos rfl]
        have := spec_pass (v.length - 1) 0 v x false (k + 1) (by omega) (by omega)
        rw [chg_srt, hs] at this
        have e := (chg_iff (v.length - 1) 0 v (by omega)).2 (by rw [chg_srt, hs]; rfl)
        rw [e, if_neg (by decide), spec_PassesOf.l0, if_neg (by decide)] at this
        exact this
      · obtain ⟨k, rfl⟩ : ∃ m, k = m + 1 := ⟨k - 1, by omega⟩
        rw [impl_PassesOf.l0, isSorted v (by omega) k (by omega), Option.bind_some, hs, if_pos rfl]
    | false =>
      have hc := chg_srt v
      rw [hs] at hc
      have h1 := (phi_run n (v.length - 1) 0 v hv (by omega)).2 hc
      have h2 := phi_top M _ (run_le M (v.length - 1) 0 v (by omega) hm) n
      have hn2 : 2 ≤ v.length := by
        by_cases h0 : v.length < 2
        · have := (srtB_iff v).2 (fun i hi => by omega)
          rw [hs] at this
          cases this
        · omega
      obtain ⟨K, r, hS, hI⟩ := ih (runV (idF 0 (v.length - 1)) v) (wrap64 (x + 1)) (by rw [runV_length, hv]) (run_le M (v.length - 1) 0 v (by omega) hm) (by omega)
      refine ⟨K + n + 200, r, fun k hk => ?_, fun k hk => ?_⟩
      · obtain ⟨k, rfl⟩ : ∃ m, k = m + (v.length - 1) + 1 + 1 := ⟨k - (v.length - 1) - 2, by omega⟩
        rw [spec_PassesOf.l0, if_pos rfl]
        have := spec_pass (v.length - 1) 0 v x false k (by omega) (by omega)
        rw [hc, if_pos (by rfl), hS k (by omega)] at this
        exact this
      · obtain ⟨k, rfl⟩ : ∃ m, k = m + 1 := ⟨k - 1, by omega⟩
        have hid : impl_identity.f k ((v.length - 1 : Nat) : Int) = some (idF 0 (v.length - 1)) := lift_k (f := fun k => impl_identity.f k ((v.length - 1 : Nat) : Int)) (fun k => impl_identity.mono _ k) (identity_fin100 (v.length - 1) (List.mem_range.2 (by omega))) k (by omega)
        rw [impl_PassesOf.l0, isSorted v (by omega) k (by omega), Option.bind_some, hs, if_neg (by decide), wrap_id (n := (v.length : Int) - 1) (by omega) (by omega), show (v.length : Int) - 1 = ((v.length - 1 : Nat) : Int) from by omega, hid, Option.bind_some, sorted _ v (by rw [idF_length]; omega) (by omega) (fun q hq => by have := idF_mem _ _ q hq; omega) k (by rw [idF_length]; omega), Option.bind_some]
        exact hI k (by omega)
theorem core_PassesOf (v : List Int) (hb : v.length ≤ 35184372088832) (hw : ∀ x ∈ v, (Lit.int .i64 x).wf = true) :
    ∃ K s ok, (∀ k, K ≤ k → spec_PassesOf.f k v = some (s, ok)) ∧ (∀ k, K ≤ k → impl_PassesOf.f k v = some (s, ok)) := by
  by_cases h : v.length ≤ 100
  · obtain ⟨K, r, hS, hI⟩ := passes 9223372036854775807 v.length h _ v 0 rfl (fun j => by
      by_cases hj : j < v.length
      · rw [List.getD_eq_getElem?_getD, List.getElem?_eq_getElem hj]
        exact (int_wf (hw _ (List.getElem_mem hj))).2
      · rw [List.getD_eq_getElem?_getD, List.getElem?_eq_none (by omega)]
        decide) (Nat.le_refl _)
    refine ⟨K, r, true, fun k hk => ?_, fun k hk => ?_⟩
    · unfold spec_PassesOf.f spec_l1Own.f
      rw [if_neg (by omega), Option.bind_some, if_pos (by simp; omega), Option.bind_some, List.nil_append]
      exact hS k hk
    · unfold impl_PassesOf.f slices_Clone_int_int.f
      rw [if_neg (by omega), if_pos (by omega), Option.bind_some]
      exact hI k hk
  · refine ⟨0, 0, false, fun k hk => ?_, fun k hk => ?_⟩
    · unfold spec_PassesOf.f
      rw [if_pos (by omega)]
    · unfold impl_PassesOf.f
      rw [if_pos (by omega)]
end Go.Proofs.Ytmljdibhdnckpaa.L
