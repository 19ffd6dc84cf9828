/- Each function below comes to the Lean function beside it (theorems '.calls'); no condition beyond each theorem's own. Written by our program oprint.py over the kit's print. -/
import Derived.Test.YtgjamcfnpofbhaaQx0
namespace Go.Proofs.Ytgjamcfnpofbhaa.Q
open Go.RowKit Go.Proofs.YtgjamcfnpofbhaaW.PrintWords Go.Proofs.YtgjamcfnpofbhaaW.PrintLast Go.Proofs.YtgjamcfnpofbhaaW.PrintMore
attribute [local go_sem] max2_int min2_int max_two min_two max_three min_three max_four min_four   -- for this text's walks alone
set_option linter.unusedVariables false
set_option linter.unusedSimpArgs false

/-! ### spec_poOver: function 78 -/
def spec_poOver.f (a0 : Int) (a1 : Int) (a2 : Int) : Option (Int × Int) := if a0 = 0 then (none) else (if a1 = a2 then (if (Int.tmod (wrap64 (a2 + 1)) a0) = 0 then (some (0, 1)) else (some (Int.tmod (wrap64 (a2 + 1)) a0, 0))) else (if a1 = (Int.tmod (wrap64 (a2 + 1)) a0) then (if (Int.tmod (wrap64 (a2 + 1)) a0) = 0 then (some (a2, (-1))) else (some (a2, 0))) else (some (a1, 0))))
/-! ### spec_poDown: function 71 -/
def spec_poDown.l0 : Nat → Int → List Int → Int → List Int → Int → Int → Int → List Int → Option (List Int × Int)
 | 0, _, _, _, _, _, _, _, _ => none
 | k + 1, x1, x6, x7, x15, x16, x17, x490000, x490001 => if x17 < x16 then (if 0 ≤ x17 then (if x17 < (x15.length : Int) then ((spec_poOver.f x490000 x1 (rd x15 x17)).bind fun bt494 => (if x6.length < 17592186044416 then (spec_poDown.l0 k bt494.1 (x6 ++ [bt494.1]) (wrap64 (x7 + bt494.2)) x15 x16 (wrap64 (x17 + 1)) x490000 x490001) else (none))) else (none)) else (none)) else (some (x6, x7))
def spec_poDown.f (k : Nat) (a0_0 : Int) (l0_1 : List Int) (a1 : Int) : Option (List Int × Int) := spec_poDown.l0 k a1 (([a1] : List Int)) 0 l0_1 (l0_1.length : Int) 0 a0_0 l0_1
end Go.Proofs.Ytgjamcfnpofbhaa.Q
