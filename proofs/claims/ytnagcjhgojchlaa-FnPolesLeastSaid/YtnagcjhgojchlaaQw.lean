/- Each function below comes to the Lean function beside it (theorems '.calls'); no condition beyond each theorem's own. Written by our program oprint.py over the kit's print. -/
import Derived.Test.YtnagcjhgojchlaaQwp0
import Derived.Test.YtnagcjhgojchlaaQwp78
import Derived.Test.YtnagcjhgojchlaaQwp169
import Derived.Test.YtnagcjhgojchlaaQwp287
import Derived.Test.YtnagcjhgojchlaaQwp343
import Derived.Test.YtnagcjhgojchlaaQwp387
import Derived.Test.YtnagcjhgojchlaaQwp434
import Derived.Test.YtnagcjhgojchlaaQwp529
import Derived.Test.YtnagcjhgojchlaaQwp555
import Derived.Test.YtnagcjhgojchlaaQwp579
import Derived.Test.YtnagcjhgojchlaaQwp615
import Derived.Test.YtnagcjhgojchlaaQwp690
import Derived.Test.YtnagcjhgojchlaaQwp726
import Derived.Test.YtnagcjhgojchlaaQwp752
namespace Go.Proofs.Ytnagcjhgojchlaa.Q
open Go.RowKit Go.Proofs.YtnagcjhgojchlaaW.PrintWords Go.Proofs.YtnagcjhgojchlaaW.PrintLast Go.Proofs.YtnagcjhgojchlaaW.PrintMore
attribute [local go_sem] max2_int min2_int max_two min_two max_three min_three max_four min_four
set_option linter.unusedVariables false
set_option linter.unusedSimpArgs false
theorem laws_FnPolesLeast.calls (k:Nat) (A0:Option Addr) (c0:Nat) (l0:List Int) (A1:Option Addr) (c1:Nat) (l1:List Int) (r:Bool) (w:World) (a4:Kd.C (Kd.int .u8) w A0 l0.length l0) (a5:l0.length≤c0) (a6:Kd.C (Kd.int .u8) w A1 l1.length l1) (a7:l1.length≤c1) (h:laws_FnPolesLeast.f k l0 l1=some r):
  Calls Try.prog 3 #[.slice A0 l0.length c0,.slice A1 l1.length c1] w fun e w'=>e= .returned (.bool r)∧Below w.heap.size w w':=
  (laws_FnPolesLeast_p0.imp ⟨laws_FnPolesLeast_p78⟩ ⟨laws_FnPolesLeast_p169⟩ ⟨(laws_FnPolesLeast_p287.imp ⟨(laws_FnPolesLeast_p343.imp ⟨laws_FnPolesLeast_p387⟩ ⟨laws_FnPolesLeast_p434⟩ ⟨(laws_FnPolesLeast_p529.imp ⟨(laws_FnPolesLeast_p555.imp ⟨(laws_FnPolesLeast_p579.imp ⟨laws_FnPolesLeast_p615⟩)⟩ ⟨(laws_FnPolesLeast_p690.imp ⟨(laws_FnPolesLeast_p726.imp ⟨laws_FnPolesLeast_p752⟩)⟩)⟩)⟩)⟩)⟩)⟩) k A0 c0 l0 A1 c1 l1 r w a4 a5 a6 a7 h
end Go.Proofs.Ytnagcjhgojchlaa.Q
