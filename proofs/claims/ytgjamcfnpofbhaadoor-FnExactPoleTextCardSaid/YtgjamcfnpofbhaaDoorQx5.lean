/- Each function below comes to the Lean function beside it (theorems '.calls'); no condition beyond each theorem's own. Written by our program oprint.py over the kit's print. -/
import Derived.Test.YtgjamcfnpofbhaaDoorQx0
import Derived.Test.YtgjamcfnpofbhaaDoorQx3
import Derived.Test.YtgjamcfnpofbhaaDoorQx4
namespace Go.Proofs.YtgjamcfnpofbhaaDoor.Q
open Go.RowKit Go.Proofs.YtgjamcfnpofbhaaDoorW.PrintWords Go.Proofs.YtgjamcfnpofbhaaDoorW.PrintLast Go.Proofs.YtgjamcfnpofbhaaDoorW.PrintMore
attribute [local go_sem] max2_int min2_int max_two min_two max_three min_three max_four min_four   -- for this text's walks alone
set_option linter.unusedVariables false
set_option linter.unusedSimpArgs false

/-! ### impl_isPole: function 14 -/
-- GIVEN impl_isPole
def impl_isPole.f (a0_0 : Int) (l0_1 : List Int) : Option (Bool) := some (decide (3 ≤ a0_0 ∧ a0_0 ≤ 8) && decide (l0_1.length ≤ 60) && l0_1.all fun r => decide (0 ≤ r ∧ r ≤ a0_0 - 1))
set_option maxHeartbeats 4000000 in
set_option maxRecDepth 100000 in
theorem impl_isPole_1.calls (a : Int) (ha : 3 ≤ a ∧ a ≤ 8) (g : Nat) (x : Int) (w : World) (hcell : w.cell? ⟨g, 0, none⟩ = some (.int .i64 a)) :
    Calls Tryd.prog 22 #[.int .i64 x, .pointer (some ⟨g, 0, none⟩)] w fun e w' => e = .returned (.bool (offRange (a - 1) x)) ∧ Drawn0 w w' := by
  unfold offRange
  have hlo := ha.1
  have hhi := ha.2
  clear ha
  have hb : impl_between.f x 0 (a - 1) = some (decide (0 ≤ x ∧ x ≤ a - 1)) := by
    unfold impl_between.f
    by_cases h : x ≥ 0
    · rw [if_pos h]; congr 1; simp [h]
    · rw [if_neg h]; congr 1; simp; omega
  have hB := fun W => impl_between.calls x 0 (a - 1) _ W hb
  have HB := Aside0.mk hB
  clear hb hB
  generalize decide (0 ≤ x ∧ x ≤ a - 1) = b at HB
  go_enter Tryd.func22, Tryd.ntmps22
  go_wp2_with (go_at_call 20; (with_reducible refine (HB.out _).mono ?_); rintro e w' ⟨rfl, ⟨nd, rfl⟩⟩)
  go_ret
  exact ⟨rfl, by repeat (first | exact Drawn0.refl _ | apply Drawn0.step)⟩
set_option maxHeartbeats 4000000 in
set_option maxRecDepth 100000 in
theorem impl_isPole.calls (a0_0 : Int) (A0_1 : Option Addr) (c0_1 : Nat) (l0_1 : List Int) (r : Bool) (w : World) (hr0_1 : Kd.C (Kd.int .i64) w A0_1 l0_1.length l0_1) (hc0_1 : l0_1.length ≤ c0_1) (h : impl_isPole.f a0_0 l0_1 = some r) :
    Calls Tryd.prog 14 #[.agg #[.int .i64 a0_0, .slice A0_1 l0_1.length c0_1]] w fun e w' => e = .returned (.bool r) ∧ Below w.heap.size w w' := by
  have HRR := Aside0.mk (Option.some.inj h).symm
  clear h
  have HCC : ∀ W, Below w.heap.size w W → Kd.C (Kd.int .i64) W A0_1 l0_1.length l0_1 := fun W hb => Kd.C_below hr0_1 hb
  have hbig : l0_1.length ≤ 9223372036854775807 := hr0_1.2.1
  have HC := Aside0.mk HCC
  have HC0 := Aside0.mk hc0_1
  clear HCC hr0_1 hc0_1
  by_cases h1 : 3 ≤ a0_0 ∧ a0_0 ≤ 8
  · have hb : impl_between.f a0_0 3 8 = some true := by unfold impl_between.f; rw [if_pos h1.1, decide_eq_true h1.2]
    have HB := Aside0.mk (fun W => impl_between.calls a0_0 3 8 _ W hb)
    clear hb
    by_cases h2 : l0_1.length ≤ 60
    · have h2b : decide ((l0_1.length : Int) ≤ 60) = true := decide_eq_true (by omega)
      have h2c : decide (l0_1.length ≤ 60) = true := decide_eq_true h2
      have HAK := Aside0.mk (show ∀ (W : World) (g : Nat), W.cell? ⟨g, 0, none⟩ = some (.int .i64 a0_0) → AsksInt 22 #[.pointer (some ⟨g, 0, none⟩)] (offRange (a0_0 - 1)) W from fun W g hg x q => impl_isPole_1.calls a0_0 h1 g x _ (by simpa using hg))
      have HR2 := Aside0.mk (show r = !(l0_1.any (offRange (a0_0 - 1))) by
        rw [HRR.out, decide_eq_true h1, decide_eq_true h2]
        simp only [Bool.true_and]
        rw [List.all_eq_not_any_not]
        rfl)
      clear HRR h2
      have eg := enters_of Tryd.func22 (by kernel_rfl) rfl
      have EG := Aside0.mk eg
      clear eg h1
      go_enter Tryd.func14, Tryd.ntmps14
      go_wp2_with (first | (go_at_call 20; (with_reducible refine (HB.out _).mono ?_); rintro e w' ⟨rfl, ⟨nd, rfl⟩⟩) | (go_at_call 21; refine (slices_ContainsFunc_int.calls _ _ (offRange (a0_0 - 1)) _ _ l0_1 _ (HC.out _ (by repeat (first | exact Below.refl _ _ | apply below_alloc | apply pw_below_drewN | apply below_drew1))) HC0.out EG.out (HAK.out _ _ (by first | (go_simp; done) | go_simp))).mono ?_; rintro e w' ⟨rfl, ⟨nd, rfl⟩⟩))
      go_ret
      exact ⟨by rw [HR2.out]; rfl, by repeat (first | exact Below.refl _ _ | apply below_alloc | apply pw_below_drewN | apply below_drew1)⟩
    · have h2b : decide ((l0_1.length : Int) ≤ 60) = false := decide_eq_false (by omega)
      have h2c : decide (l0_1.length ≤ 60) = false := decide_eq_false h2
      have HR2 := Aside0.mk (show r = false by rw [HRR.out, decide_eq_false h2]; simp)
      clear HRR h1 h2
      go_enter Tryd.func14, Tryd.ntmps14
      go_wp2_with (first | (go_at_call 20; (with_reducible refine (HB.out _).mono ?_); rintro e w' ⟨rfl, ⟨nd, rfl⟩⟩))
      go_ret
      exact ⟨by rw [HR2.out]; rfl, by repeat (first | exact Below.refl _ _ | apply below_alloc | apply pw_below_drewN | apply below_drew1)⟩
  · have hb : impl_between.f a0_0 3 8 = some false := by
      unfold impl_between.f
      split
      · rw [decide_eq_false (by omega)]
      · rfl
    have HB := Aside0.mk (fun W => impl_between.calls a0_0 3 8 _ W hb)
    have HR2 := Aside0.mk (show r = false by rw [HRR.out, decide_eq_false h1]; simp)
    clear hb HRR h1
    go_enter Tryd.func14, Tryd.ntmps14
    go_wp2_with (first | (go_at_call 20; (with_reducible refine (HB.out _).mono ?_); rintro e w' ⟨rfl, ⟨nd, rfl⟩⟩))
    go_ret
    exact ⟨by rw [HR2.out]; rfl, by repeat (first | exact Below.refl _ _ | apply below_alloc | apply pw_below_drewN | apply below_drew1)⟩

end Go.Proofs.YtgjamcfnpofbhaaDoor.Q
