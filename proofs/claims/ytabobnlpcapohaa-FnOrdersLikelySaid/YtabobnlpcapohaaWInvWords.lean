import Derived.Test.YtabobnlpcapohaaWInv
import Derived.Test.YtabobnlpcapohaaWFootNe
namespace Go.Proofs.YtabobnlpcapohaaW.PrintWords
open Go.RowKit
end Go.Proofs.YtabobnlpcapohaaW.PrintWords
namespace Go.Proofs.YtabobnlpcapohaaW.PrintLast
section
variable {ops : Array Oper} {a : Act} {o og : Oper} {g : Nat} {t : Tmp} {u : Bool}
end
end Go.Proofs.YtabobnlpcapohaaW.PrintLast
