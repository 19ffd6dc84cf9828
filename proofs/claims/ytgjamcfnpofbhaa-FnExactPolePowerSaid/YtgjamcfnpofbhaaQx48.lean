/- Each function below comes to the Lean function beside it (theorems '.calls'); no condition beyond each theorem's own. Written by our program oprint.py over the kit's print. -/
import Derived.Test.YtgjamcfnpofbhaaQx0
import Derived.Test.YtgjamcfnpofbhaaQx4
import Derived.Shelf.Abstract
namespace Go.Proofs.Ytgjamcfnpofbhaa.Q
open Go.RowKit Go.Proofs.YtgjamcfnpofbhaaW.PrintWords Go.Proofs.YtgjamcfnpofbhaaW.PrintLast Go.Proofs.YtgjamcfnpofbhaaW.PrintMore
attribute [local go_sem] max2_int min2_int max_two min_two max_three min_three max_four min_four   -- for this text's walks alone
set_option linter.unusedVariables false
set_option linter.unusedSimpArgs false

/-! ### impl_isHome_1: function 70 -/
-- GIVEN impl_isHome_1
def impl_isHome_1.f (a0 : Int) : Option (Bool) := some (a0 != 0)
set_option maxHeartbeats 4000000 in
set_option maxRecDepth 100000 in
theorem impl_isHome_1.calls (a0 : Int) (r : Bool) (w : World) (h : impl_isHome_1.f a0 = some r) :
    Calls Try.prog 70 #[.int .i64 a0] w fun e w' => e = .returned (.bool r) ∧ Drawn0 w w' := by
  have hr := (Option.some.inj h).symm
  have h1 : r = decide (¬ a0 = 0) := by rw [hr]; by_cases h : a0 = 0 <;> simp [h]
  clear h hr
  subst h1
  go_enter Try.func70, Try.ntmps70
  go_wp2
  go_ret
  exact ⟨by by_cases h : a0 = 0 <;> simp [h], by repeat (first | exact Drawn0.refl _ | apply Drawn0.step)⟩
/-- slices.ContainsFunc at this one function value: is one of the numbers other than 0? -/
def slices_ContainsFunc_int_int.f (l0 : List Int) : Option (Bool) := some (l0.any fun x => x != 0)
theorem slices_ContainsFunc_int_int.calls (A0 : Option Addr) (c0 : Nat) (l0 : List Int) (r : Bool) (w : World) (hr0 : Kd.C (Kd.int .i64) w A0 l0.length l0) (hc0 : l0.length ≤ c0) (h : slices_ContainsFunc_int_int.f l0 = some r) :
    Calls Try.prog 62 #[.slice A0 l0.length c0, .func (.func 70) #[] #[]] w fun e w' => e = .returned (.bool r) ∧ Drawn0 w w' := by
  have hr := (Option.some.inj h).symm
  subst hr
  exact slices_ContainsFunc_int.calls 70 #[] (fun x => x != 0) A0 c0 l0 w hr0 hc0 (enters_of Try.func70 (by kernel_rfl) rfl) (fun x n => by simpa using impl_isHome_1.calls x _ _ rfl)

end Go.Proofs.Ytgjamcfnpofbhaa.Q
