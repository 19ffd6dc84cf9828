/- Each function below comes to the Lean function beside it (theorems '.calls'); no condition beyond each theorem's own. Written by our program oprint.py over the kit's print. -/
import Derived.Test.YtpmpgncjlcdabaaQx0
namespace Go.Proofs.Ytpmpgncjlcdabaa.Q
open Go.RowKit Go.Proofs.YtpmpgncjlcdabaaW.PrintWords Go.Proofs.YtpmpgncjlcdabaaW.PrintLast Go.Proofs.YtpmpgncjlcdabaaW.PrintMore
attribute [local go_sem] max2_int min2_int max_two min_two max_three min_three max_four min_four   -- for this text's walks alone
set_option linter.unusedVariables false
set_option linter.unusedSimpArgs false

/-! ### slices_Min_int_int: function 31 -/
-- GIVEN slices_Min_int_int
def slices_Min_int_int.go : List Int → Int → Int
  | [], m => m
  | x :: xs, m => slices_Min_int_int.go xs (mn m x)
def slices_Min_int_int.f : List Int → Option Int
  | [] => none
  | x :: xs => some (slices_Min_int_int.go xs x)
set_option maxHeartbeats 8000000 in
set_option maxRecDepth 100000 in
theorem slices_Min_int_int.calls (A0 : Option Addr) (c0 : Nat) (l0 : List Int) (r : Int) (w : World) (hr0 : Kd.C (Kd.int .i64) w A0 l0.length l0) (hc0 : l0.length ≤ c0) (h : slices_Min_int_int.f l0 = some r) :
    Calls Try.prog 31 #[.slice A0 l0.length c0] w fun e w' => e = .returned (.int .i64 r) ∧ Drawn0 w w' := by
  have hbig : l0.length ≤ 9223372036854775807 := hr0.2.1
  have hpos : 0 < l0.length := by
    cases l0 with
    | nil => cases h
    | cons x xs => simp
  have hposz : decide ((l0.length : Int) < 1) = false := decide_eq_false (by omega)
  have hg : slices_Min_int_int.go (l0.drop 1) (l0[0]'hpos) = r := by
    cases l0 with
    | nil => cases h
    | cons x xs => exact Option.some.inj h
  have hcell : ∀ (i : Nat) (hi : i < l0.length), ∃ ad, A0 = some ad ∧ w.cell? (ad.add i) = some (.int .i64 l0[i]) := by
    intro i hi
    obtain ⟨ad, ead, hx⟩ := Kd.at_int hr0 (i : Int) (by omega) (by omega)
    refine ⟨ad, ead, ?_⟩
    have e1 : ((i : Int)).toNat = i := by omega
    have e2 : rd l0 (i : Int) = l0[i] := by unfold rd; rw [e1, List.getD_eq_getElem?_getD, List.getElem?_eq_getElem hi]; rfl
    rw [e1, e2] at hx
    exact hx
  obtain ⟨ad, rfl, hx0⟩ := hcell 0 hpos
  have HX := Aside0.mk (show ∀ (i : Nat) (hi : i < l0.length), w.cell? (ad.add i) = some (.int .i64 l0[i]) from fun i hi => by
    obtain ⟨ad2, e2, hx⟩ := hcell i hi
    cases e2
    exact hx)
  clear hcell hr0 hc0 h
  generalize hy : l0[0] = y at hx0 hg
  have HG := Aside0.mk hg
  clear hg hy
  have hx0' : w.cell? ad = some (.int .i64 y) := by simpa [Addr.add] using hx0
  have hposz2 : (0 : Int) < (l0.length : Int) := by omega
  go_enter Try.func31, Try.ntmps31
  go_wp2
  go_loopg [3, 4] l0.length (fun gg v3 v4 wr => ∃ (i : Nat) (m : Int), 1 ≤ i ∧ i ≤ l0.length ∧ l0.length - i ≤ gg ∧ v3 = .int .i64 m ∧ v4 = .int .i64 (i : Int) ∧ wr = w ∧ Aside0 (slices_Min_int_int.go (l0.drop i) m = r))
  case atStart => exact ⟨1, y, by omega, by omega, by omega, rfl, rfl, rfl, ⟨HG.out⟩⟩
  case round =>
    clear HG hx0 hx0'
    obtain ⟨i, m, h1, hi, hgk, rfl, rfl, rfl, HA⟩ := hrel
    by_cases hlt : i < l0.length
    · have hltz : (i : Int) < (l0.length : Int) := by omega
      have h0k : (0 : Int) ≤ (i : Int) := by omega
      have hx := HX.out i hlt
      have h2 := HA.out
      rw [List.drop_eq_getElem_cons hlt] at h2
      generalize l0[i] = z at hx h2
      have HB := Aside0.mk h2
      clear h2 HA
      go_wp2
      all_goals
        go_roundg (l0.length - (i + 1))
        case measure => omega
        case rel => exact ⟨i + 1, mn m z, by omega, by omega, by omega, by (congr 1; unfold mn; split <;> omega), by go_num, rfl, ⟨HB.out⟩⟩
    · have hltz : ¬ (i : Int) < (l0.length : Int) := by omega
      have h2 := HA.out
      rw [List.drop_of_length_le (by omega)] at h2
      obtain rfl : m = r := h2
      clear HA
      go_wp2
      go_ret
      exact ⟨rfl, Drawn0.refl _⟩

end Go.Proofs.Ytpmpgncjlcdabaa.Q
