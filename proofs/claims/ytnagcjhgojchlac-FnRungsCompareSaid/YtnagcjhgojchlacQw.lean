/- Each function below comes to the Lean function beside it (theorems '.calls'); no condition beyond each theorem's own. Written by our program oprint.py over the kit's print. -/
import Derived.Test.YtnagcjhgojchlacQwp0
import Derived.Test.YtnagcjhgojchlacQwp92
import Derived.Test.YtnagcjhgojchlacQwp152
import Derived.Test.YtnagcjhgojchlacQwp163
import Derived.Test.YtnagcjhgojchlacQwp273
import Derived.Test.YtnagcjhgojchlacQwp340
import Derived.Test.YtnagcjhgojchlacQwp481
import Derived.Test.YtnagcjhgojchlacQwp494
import Derived.Test.YtnagcjhgojchlacQwp584
import Derived.Test.YtnagcjhgojchlacQwp605
import Derived.Test.YtnagcjhgojchlacQwp679
import Derived.Test.YtnagcjhgojchlacQwp744
import Derived.Test.YtnagcjhgojchlacQwp825

namespace Go.Proofs.Ytnagcjhgojchlac.Q
open Go.RowKit Go.Proofs.YtnagcjhgojchlacW.PrintWords Go.Proofs.YtnagcjhgojchlacW.PrintLast Go.Proofs.YtnagcjhgojchlacW.PrintMore
attribute [local go_sem] max2_int min2_int max_two min_two max_three min_three max_four min_four   -- for this text's walks alone
set_option linter.unusedVariables false
set_option linter.unusedSimpArgs false

theorem laws_FnRungsCompare.calls (k : Nat) (A0 : Option Addr) (c0 : Nat) (l0 : List Int) (A1 : Option Addr) (c1 : Nat) (l1 : List Int) (r : Bool) (w : World) (hr0 : Kd.C (Kd.int .u8) w A0 l0.length l0) (hc0 : l0.length ≤ c0) (hr1 : Kd.C (Kd.int .u8) w A1 l1.length l1) (hc1 : l1.length ≤ c1) (h : laws_FnRungsCompare.f k l0 l1 = some r) :
  Calls Try.prog 3 #[.slice A0 l0.length c0, .slice A1 l1.length c1] w fun e w' => e = .returned (.bool r) ∧ Below w.heap.size w w' :=
  (laws_FnRungsCompare_p0.imp ⟨(laws_FnRungsCompare_p92.imp ⟨(laws_FnRungsCompare_p152.imp ⟨laws_FnRungsCompare_p163⟩ ⟨(laws_FnRungsCompare_p273.imp ⟨laws_FnRungsCompare_p340⟩)⟩)⟩ ⟨(laws_FnRungsCompare_p481.imp ⟨laws_FnRungsCompare_p494⟩ ⟨(laws_FnRungsCompare_p584.imp ⟨(laws_FnRungsCompare_p605.imp ⟨laws_FnRungsCompare_p679⟩ ⟨laws_FnRungsCompare_p744⟩)⟩ ⟨laws_FnRungsCompare_p825⟩)⟩)⟩)⟩) k A0 c0 l0 A1 c1 l1 r w hr0 hc0 hr1 hc1 h

end Go.Proofs.Ytnagcjhgojchlac.Q
