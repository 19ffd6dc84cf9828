
import Derived.SizedLaws
import Derived.ChangeSlices
namespace Go.Proofs.YtnagcjhgojchlaaW.PrintWords
open Go.ChangeShapes Go.WideShapes
end Go.Proofs.YtnagcjhgojchlaaW.PrintWords
