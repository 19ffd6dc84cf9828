import Derived.SizedLaws
import Derived.ChangeSlices
namespace Go.Proofs.YtabobnlpcapohaaW.PrintWords
open Go.ChangeShapes Go.WideShapes
end Go.Proofs.YtabobnlpcapohaaW.PrintWords
