/- Which rungs are busy and which are idle, as the program and the reference tell them; for ladders. -/
import Derived.Test.YtmljdibhdnckpaaLibCompareG
import Derived.Test.YtmljdibhdnckpaaQx29
import Derived.Test.YtmljdibhdnckpaaQx50
namespace Go.Proofs.Ytmljdibhdnckpaa.L
open Go.RowKit Go.Proofs.Ytmljdibhdnckpaa.Q Go.Proofs.YtmljdibhdnckpaaW.PrintWords Go.Proofs.YtmljdibhdnckpaaW.PrintLast
set_option linter.unusedVariables false
set_option linter.unusedSimpArgs false
def markB (b : List Bool) : List Int → List Bool
  | [] => b
  | u :: us => markB (b.set u.toNat true) us
theorem markB_length : ∀ (us : List Int) (b : List Bool), (markB b us).length = b.length
  | [], b => rfl
  | u :: us, b => by rw [markB, markB_length us, List.length_set]
theorem foldO_mark : ∀ (us : List Int) (b : List Bool), (∀ u ∈ us, 0 ≤ u ∧ u < (b.length : Int)) → foldO impl_busy.mark us b = some (markB b us)
  | [], b, _ => rfl
  | u :: us, b, h => by
    have h1 := h u List.mem_cons_self
    rw [foldO, impl_busy.mark, if_pos h1.1, if_pos h1.2, Option.bind_some, markB]
    exact foldO_mark us _ (fun x hx => by rw [List.length_set]; exact h x (List.mem_cons_of_mem _ hx))
theorem busy_step (l : List Int) (n : Nat) (hn : n ≤ 8) (h3 : l.length ≤ 60) (h4 : ∀ r ∈ l, 0 ≤ r ∧ r ≤ (n : Int) - 2) (b : List Bool) (hb : b.length = l.length) (x k : Nat) (hk : 90 ≤ k) : impl_busy.step k l b (bitsV n x) = some (markB b (usedV l (bitsL n x) 0)) := by
  unfold impl_busy.step
  rw [show bitsV n x = bitsL n x from rfl, compareG impl_busy.mark l (bitsL n x) b (by omega) (by rw [bitsL_length]; omega) (by rw [bitsL_length]; exact h4) k (by omega), foldO_mark _ _ (fun u hu => by
    have := usedV_mem _ _ _ _ hu
    omega)]
  rfl
theorem soIdle_l2 (us : List Int) (hb : us.length ≤ 60) (x : Int) (n : Int) (l : List Int) (d : Nat) : ∀ (j k : Nat) (b : List Bool), j + d = us.length → (∀ u ∈ us, 0 ≤ u ∧ u < (b.length : Int)) → spec_soIdle.l2 (k + d + 1) (b.map (!·)) x us (us.length : Int) (j : Int) n l = spec_soIdle.l1 k ((markB b (us.drop j)).map (!·)) (wrap64 (x + 1)) n l := by
  induction d with
  | zero =>
    intro j k b hj hu
    rw [spec_soIdle.l2, if_neg (by omega), List.drop_of_length_le (by omega)]
    rfl
  | succ d ih =>
    intro j k b hj hu
    have h1 := hu us[j] (List.getElem_mem _)
    rw [show k + (d + 1) + 1 = (k + d + 1) + 1 from by omega, spec_soIdle.l2, if_pos (by omega), if_pos (by omega), if_pos (by omega), rd_nat us j (by omega), if_pos h1.1, if_pos (by rw [List.length_map]; exact h1.2), wrap_id (n := (j : Int) + 1) (by omega) (by omega), List.drop_eq_getElem_cons (by omega), markB]
    have := ih (j + 1) k (b.set us[j].toNat true) (by omega) (fun u hx => by rw [List.length_set]; exact hu u hx)
    rw [List.map_set] at this
    exact_mod_cast this

theorem soIdle_l1 (n : Nat) (hn : n ≤ 8) (l : List Int) (h3 : l.length ≤ 60) (h4 : ∀ r ∈ l, 0 ≤ r ∧ r ≤ (n : Int) - 2) (d : Nat) : ∀ (x : Nat) (b : List Bool), x + d = 2 ^ n → b.length = l.length → ∃ b2 : List Bool, b2.length = l.length ∧ (∀ k, 100 * d + 200 ≤ k → spec_soIdle.l1 k (b.map (!·)) (x : Int) (n : Int) l = some (b2.map (!·))) ∧ (∀ k, 90 ≤ k → bitsFold (impl_busy.step k l) n d x b = some b2) := by
  have hp := pow_le n hn
  have hsh := shl_fin n (List.mem_range.2 (by omega))
  induction d with
  | zero =>
    intro x b hx hbl
    refine ⟨b, hbl, fun k hk => ?_, fun k hk => rfl⟩
    obtain ⟨k, rfl⟩ : ∃ m, k = m + 1 := ⟨k - 1, by omega⟩
    simp only [spec_soIdle.l1]
    rw [if_pos (by omega), hsh, if_neg (by omega)]
  | succ d ih =>
    intro x b hx hbl
    have hum := usedV_mem l (bitsL n x) 0
    have hul := usedV_length l (bitsL n x) 0
    have hrun := fun k hk => soRun l (bitsL n x) (by omega) (by rw [bitsL_length]; omega) (by rw [bitsL_length]; exact h4) k hk
    have hbs := fun k hk => busy_step l n hn h3 h4 b hbl x k hk
    generalize usedV l (bitsL n x) 0 = U at hum hul hrun hbs
    obtain ⟨b2, h2, hS, hI⟩ := ih (x + 1) (markB b U) (by omega) (by rw [markB_length, hbl])
    refine ⟨b2, h2, fun k hk => ?_, fun k hk => ?_⟩
    · obtain ⟨k, rfl⟩ : ∃ m, k = (m + U.length + 1) + 1 := ⟨k - U.length - 2, by omega⟩
      have hk2 : 100 * d + 200 ≤ k := by
        clear hrun hbs hum hsh hS hI ih h4
        omega
      have e3 := hS k hk2
      have ew := wrap_id (n := (x : Int) + 1) (by omega) (by omega)
      have e2 := soIdle_l2 U (by omega) (x : Int) (n : Int) l U.length 0 k b (by omega) (fun u hu => by
        have := hum u hu
        omega)
      rw [List.drop_zero] at e2
      rw [spec_soIdle.l1, if_pos (by omega), hsh, if_pos (by omega), soBits n x hn (by omega) _ (by omega), Option.bind_some, hrun _ (by omega), Option.bind_some]
      rw [ew] at e2
      dsimp only
      refine Eq.trans ?_ (Eq.trans e2 ?_)
      · rfl
      · exact_mod_cast e3
    · rw [bitsFold, hbs k hk, Option.bind_some]
      exact hI k hk
theorem soIdle_l0 (n : Int) (l : List Int) (m : Nat) (hm : m ≤ 60) (d : Nat) : ∀ (i k : Nat) (b : List Bool), i + d = m → b.length = m → b.take i = List.replicate i true → spec_soIdle.l0 (k + d + 1) b (m : Int) (i : Int) n l = spec_soIdle.l1 k ((List.replicate m false).map (!·)) 0 n l := by
  induction d with
  | zero =>
    intro i k b hi hb ht
    rw [spec_soIdle.l0, if_neg (by omega)]
    rw [List.take_of_length_le (by omega)] at ht
    rw [ht, show i = m from by omega]
    simp
  | succ d ih =>
    intro i k b hi hb ht
    rw [show k + (d + 1) + 1 = (k + d + 1) + 1 from by omega, spec_soIdle.l0, if_pos (by omega), if_pos (by omega), if_pos (by omega), Int.toNat_natCast, wrap_id (n := (i : Int) + 1) (by omega) (by omega)]
    have := ih (i + 1) k (b.set i true) (by omega) (by rw [List.length_set]; exact hb) (by
      rw [List.take_succ_eq_append_getElem (by rw [List.length_set]; omega), List.getElem_set_self, List.take_set_of_le (Nat.le_refl _), ht, List.replicate_succ'])
    exact_mod_cast this
theorem idle_busy (n : Nat) (hn : n ≤ 8) (l : List Int) (h3 : l.length ≤ 60) (h4 : ∀ r ∈ l, 0 ≤ r ∧ r ≤ (n : Int) - 2) : ∃ b : List Bool, b.length = l.length ∧ (∀ k, 30000 ≤ k → spec_soIdle.f k (n : Int) l = some (b.map (!·))) ∧ (∀ k, 90 ≤ k → impl_busy.f k (n : Int) l = some b) := by
  have hp := pow_le n hn
  obtain ⟨b, hb, hS, hI⟩ := soIdle_l1 n hn l h3 h4 (2 ^ n) 0 (List.replicate l.length false) (by omega) (by simp)
  refine ⟨b, hb, fun k hk => ?_, fun k hk => ?_⟩
  · unfold spec_soIdle.f
    rw [if_pos (by omega), if_pos (by omega), Option.bind_some, Int.toNat_natCast]
    obtain ⟨k, rfl⟩ : ∃ m, k = m + l.length + 1 := ⟨k - l.length - 1, by omega⟩
    have := soIdle_l0 (n : Int) l l.length h3 l.length 0 k (List.replicate l.length false) (by omega) (by simp) (by simp)
    rw [List.length_replicate]
    refine this.trans ?_
    exact_mod_cast hS k (by omega)
  · unfold impl_busy.f
    rw [if_pos (by omega)]
    exact hI k hk
end Go.Proofs.Ytmljdibhdnckpaa.L
