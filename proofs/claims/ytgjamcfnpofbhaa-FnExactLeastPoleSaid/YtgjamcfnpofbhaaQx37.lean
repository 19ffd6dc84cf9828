/- Each function below comes to the Lean function beside it (theorems '.calls'); no condition beyond each theorem's own. Written by our program oprint.py over the kit's print. -/
import Derived.Test.YtgjamcfnpofbhaaQx0
import Derived.Test.YtgjamcfnpofbhaaQx24
namespace Go.Proofs.Ytgjamcfnpofbhaa.Q
open Go.RowKit Go.Proofs.YtgjamcfnpofbhaaW.PrintWords Go.Proofs.YtgjamcfnpofbhaaW.PrintLast Go.Proofs.YtgjamcfnpofbhaaW.PrintMore
attribute [local go_sem] max2_int min2_int max_two min_two max_three min_three max_four min_four   -- for this text's walks alone
set_option linter.unusedVariables false
set_option linter.unusedSimpArgs false

/-! a struct of two slices that was boxed -/
/-- A struct of two slices that was boxed, in a later world. -/
theorem boxedTurned (w W : World) (A0 A1 : Option Addr) (c0 c1 : Nat) (l0 l1 : List Int) (h0 : Kd.C (Kd.int .i64) w A0 l0.length l0) (h1 : Kd.C (Kd.int .i64) w A1 l1.length l1)
  (hb : Below (w.alloc (.cells #[.slice A0 l0.length c0, .slice A1 l1.length c1] 36)).heap.size (w.alloc (.cells #[.slice A0 l0.length c0, .slice A1 l1.length c1] 36)) W) :
  IsS36 w W w.heap.size l0 l1 := by
 refine ⟨A0, c0, A1, c1, ?_, Nat.le_refl _, h0, h1⟩
 rw [hb.block w.heap.size (by show w.heap.size < (w.heap.push _).size; rw [Array.size_push]; omega)]
 show (w.heap.push _)[w.heap.size]? = _
 exact Array.getElem?_push_size

end Go.Proofs.Ytgjamcfnpofbhaa.Q
