
import Derived.Test.YtnagcjhgojchlaaWInv
import Derived.Test.YtnagcjhgojchlaaWFootNe
namespace Go.Proofs.YtnagcjhgojchlaaW.PrintWords
open Go.RowKit
end Go.Proofs.YtnagcjhgojchlaaW.PrintWords
namespace Go.Proofs.YtnagcjhgojchlaaW.PrintLast
section
variable {ops:Array Oper} {a:Act} {o og:Oper} {g:Nat} {t:Tmp} {u:Bool}
end
end Go.Proofs.YtnagcjhgojchlaaW.PrintLast
