/- Each function below comes to the Lean function beside it (theorems '.calls'); no condition beyond each theorem's own. Written by our program oprint.py over the kit's print. -/
import Derived.Test.YtgjamcfnpofbhaaQx0
import Derived.Test.YtgjamcfnpofbhaaQx20
namespace Go.Proofs.Ytgjamcfnpofbhaa.Q
open Go.RowKit Go.Proofs.YtgjamcfnpofbhaaW.PrintWords Go.Proofs.YtgjamcfnpofbhaaW.PrintLast Go.Proofs.YtgjamcfnpofbhaaW.PrintMore
attribute [local go_sem] max2_int min2_int max_two min_two max_three min_three max_four min_four   -- for this text's walks alone
set_option linter.unusedVariables false
set_option linter.unusedSimpArgs false

/-! ### spec_poResult: function 52 -/
def spec_poResult.l0 : Nat → Int → Int → List Int → List Int → List Int → Option (List Int × List Int)
 | 0, _, _, _, _, _ => none
 | k + 1, x4, x500000, x500001, x502000, x502001 => if x4 < x500000 then ((spec_poDown.f k x500000 x500001 x4).bind fun bt502 => (if 0 ≤ (x500001.length : Int) then (if (x500001.length : Int) < (bt502.1.length : Int) then (if x502000.length < 17592186044416 then (if x502001.length < 17592186044416 then (spec_poResult.l0 k (wrap64 (x4 + 1)) x500000 x500001 (x502000 ++ [rd bt502.1 (x500001.length : Int)]) (x502001 ++ [bt502.2])) else (none)) else (none)) else (none)) else (none))) else (some (x502000, x502001))
def spec_poResult.f (k : Nat) (a0_0 : Int) (l0_1 : List Int) : Option (List Int × List Int) := spec_poResult.l0 k 0 a0_0 l0_1 ([] : List Int) ([] : List Int)
end Go.Proofs.Ytgjamcfnpofbhaa.Q
