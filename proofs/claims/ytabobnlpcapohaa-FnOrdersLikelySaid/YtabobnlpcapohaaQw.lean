/- Each function below comes to the Lean function beside it (theorems '.calls'); no condition beyond each theorem's own. Written by our program oprint.py over the kit's print. -/
import Derived.Test.YtabobnlpcapohaaQwp0
import Derived.Test.YtabobnlpcapohaaQwp90
import Derived.Test.YtabobnlpcapohaaQwp111
import Derived.Test.YtabobnlpcapohaaQwp189
import Derived.Test.YtabobnlpcapohaaQwp214
import Derived.Test.YtabobnlpcapohaaQwp338
import Derived.Test.YtabobnlpcapohaaQwp462
import Derived.Test.YtabobnlpcapohaaQwp536
import Derived.Test.YtabobnlpcapohaaQwp602
import Derived.Test.YtabobnlpcapohaaQwp624
import Derived.Test.YtabobnlpcapohaaQwp695
import Derived.Test.YtabobnlpcapohaaQwp755
namespace Go.Proofs.Ytabobnlpcapohaa.Q
open Go.RowKit Go.Proofs.YtabobnlpcapohaaW.PrintWords Go.Proofs.YtabobnlpcapohaaW.PrintLast Go.Proofs.YtabobnlpcapohaaW.PrintMore
attribute [local go_sem] max2_int min2_int max_two min_two max_three min_three max_four min_four
set_option linter.unusedVariables false
set_option linter.unusedSimpArgs false

attribute [local go_sem high] eqA30
theorem laws_FnOrdersLikely.calls (k : Nat) (A0 : Option Addr) (c0 : Nat) (l0 : List Int) (A1 : Option Addr) (c1 : Nat) (l1 : List Int) (r : Bool) (w : World) (hr0 : Kd.C (Kd.int .u8) w A0 l0.length l0) (hc0 : l0.length ≤ c0) (hr1 : Kd.C (Kd.int .u8) w A1 l1.length l1) (hc1 : l1.length ≤ c1) (h : laws_FnOrdersLikely.f k l0 l1 = some r) :
  Calls Try.prog 3 #[.slice A0 l0.length c0, .slice A1 l1.length c1] w fun e w' => e = .returned (.bool r) ∧ Below w.heap.size w w' :=
  (laws_FnOrdersLikely_p0.imp ⟨(laws_FnOrdersLikely_p90.imp ⟨(laws_FnOrdersLikely_p111.imp ⟨(laws_FnOrdersLikely_p189.imp ⟨laws_FnOrdersLikely_p214⟩ ⟨laws_FnOrdersLikely_p338⟩ ⟨laws_FnOrdersLikely_p462⟩)⟩)⟩ ⟨(laws_FnOrdersLikely_p536.imp ⟨(laws_FnOrdersLikely_p602.imp ⟨laws_FnOrdersLikely_p624⟩ ⟨(laws_FnOrdersLikely_p695.imp ⟨laws_FnOrdersLikely_p755⟩)⟩)⟩)⟩)⟩) k A0 c0 l0 A1 c1 l1 r w hr0 hc0 hr1 hc1 h

end Go.Proofs.Ytabobnlpcapohaa.Q
