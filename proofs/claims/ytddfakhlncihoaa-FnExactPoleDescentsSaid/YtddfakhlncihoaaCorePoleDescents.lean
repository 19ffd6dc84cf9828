/- PoleDescents: the program's function and the reference's answer the same, for structs that fit into memory. -/
import Derived.Test.YtddfakhlncihoaaLibPlace
import Derived.Test.YtddfakhlncihoaaQx40
import Derived.Test.YtddfakhlncihoaaQx56
import Derived.Test.YtddfakhlncihoaaQx57
namespace Go.Proofs.Ytddfakhlncihoaa.L
open Go.RowKit Go.Proofs.Ytddfakhlncihoaa.Q Go.Proofs.YtddfakhlncihoaaW.PrintWords Go.Proofs.YtddfakhlncihoaaW.PrintLast
set_option linter.unusedVariables false
/-- The descents among d numbers from i on. -/
def desc (p w : List Int) : Nat → Int → List Int → List Int
  | 0, _, acc => acc
  | d + 1, i, acc => desc p w d (i + 1) (if placeV p w (i + 1) < placeV p w i then acc ++ [i] else acc)
theorem desc_length (p w : List Int) : ∀ (d : Nat) (i : Int) (acc : List Int), (desc p w d i acc).length ≤ acc.length + d
  | 0, _, _ => Nat.le_refl _
  | d + 1, i, acc => by
    simp only [desc]
    have := desc_length p w d (i + 1) (if placeV p w (i + 1) < placeV p w i then acc ++ [i] else acc)
    split at this
    · rename_i hc; rw [if_pos hc]; simp at this; omega
    · rename_i hc; rw [if_neg hc]; omega
theorem desc_g (p w : List Int) (h : isTur p w = true) : ∀ (d : Nat) (i : Int) (acc : List Int), 0 ≤ i → i + d ≤ 100 → impl_poleDescents.g p w d i acc = some (desc p w d i acc)
  | 0, _, _, _, _ => rfl
  | d + 1, i, acc, hi, hd => by
    simp only [impl_poleDescents.g, desc]
    rw [place_same, place_same, (place_at p w h i (by omega)).1, (place_at p w h (i + 1) (by omega)).1, Option.bind_some, Option.bind_some]
    exact desc_g p w h d (i + 1) _ (by omega) (by omega)
theorem desc_l0 (p w : List Int) (h : isTur p w = true) : ∀ (d k : Nat) (i : Int) (acc : List Int), 0 ≤ i → i + d = (p.length : Int) → acc.length ≤ i → d < k → spec_poDescents.l0 k acc (p.length : Int) i p w = some (desc p w d i acc)
  | 0, k, i, acc, h0, hi, ha, hk => by
    obtain ⟨k, rfl⟩ : ∃ m, k = m + 1 := ⟨k - 1, by omega⟩
    simp only [spec_poDescents.l0, desc]
    rw [if_neg (by omega)]
  | d + 1, k, i, acc, h0, hi, ha, hk => by
    obtain ⟨f1, f2, f3, f4, f5, f6, f7⟩ := isTur_facts h
    obtain ⟨k, rfl⟩ : ∃ m, k = m + 1 := ⟨k - 1, by omega⟩
    simp only [spec_poDescents.l0, desc]
    rw [if_pos (by omega), wrap_id (by omega) (by omega), (place_at p w h i (by omega)).1, (place_at p w h (i + 1) (by omega)).1, Option.bind_some, Option.bind_some]
    by_cases hc : placeV p w (i + 1) < placeV p w i
    · rw [if_pos hc, if_pos hc, if_pos (by omega)]
      exact desc_l0 p w h d k (i + 1) _ (by omega) (by omega) (by simp; omega) (by omega)
    · rw [if_neg hc, if_neg hc]
      exact desc_l0 p w h d k (i + 1) _ (by omega) (by omega) (by omega) (by omega)
/-- All descents. -/
def descV (p w : List Int) : List Int := desc p w p.length 0 []
theorem poDescents (p w : List Int) (h : isTur p w = true) (k : Nat) (hk : 20 ≤ k) : spec_poDescents.f k p w = some (descV p w) := by
  obtain ⟨f1, f2, f3, f4, f5, f6, f7⟩ := isTur_facts h
  exact desc_l0 p w h p.length k 0 [] (by omega) (by omega) (by simp) (by omega)
theorem poleDescents (p w : List Int) (h : isTur p w = true) : impl_poleDescents.f p w = some (descV p w) := by
  obtain ⟨f1, f2, f3, f4, f5, f6, f7⟩ := isTur_facts h
  unfold impl_poleDescents.f descV
  rw [if_pos (by omega), desc_g p w h _ _ _ (by omega) (by omega)]
theorem core_PoleDescents (p w : List Int) (hb : p.length ≤ 35184372088832) (hp : ∀ x ∈ p, (Lit.int .i64 x).wf = true) (hc : w.length ≤ 35184372088832) (hw : ∀ x ∈ w, (Lit.int .i64 x).wf = true) :
    ∃ K r ok, r.length ≤ 35184372088832 ∧ (∀ k, K ≤ k → spec_PoleDescents.f k p w = some (r, ok)) ∧ (∀ k, K ≤ k → impl_PoleDescents.f k p w = some (r, ok)) := by
  by_cases h : isTur p w = true
  · obtain ⟨f1, f2, f3, f4, f5, f6, f7⟩ := isTur_facts h
    refine ⟨w.length + 3000, descV p w, true, ?_, fun k hk => ?_, fun k hk => ?_⟩
    · have := desc_length p w p.length 0 []
      unfold descV
      simp at this
      omega
    · simp [spec_PoleDescents.f, poTurned p w hc k (by omega), h, poDescents p w h k (by omega)]
    · simp [impl_PoleDescents.f, isTurned p w hc k (by omega), h, poleDescents p w h]
  · refine ⟨w.length + 25, [], false, by simp, fun k hk => ?_, fun k hk => ?_⟩
    · simp [spec_PoleDescents.f, poTurned p w hc k hk, h]
    · simp [impl_PoleDescents.f, isTurned p w hc k hk, h]
end Go.Proofs.Ytddfakhlncihoaa.L
