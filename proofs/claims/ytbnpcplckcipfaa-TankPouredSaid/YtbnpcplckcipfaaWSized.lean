import Derived.SizedLaws
import Derived.ChangeSlices
namespace Go.Proofs.YtbnpcplckcipfaaW.PrintWords
open Go.ChangeShapes Go.WideShapes
end Go.Proofs.YtbnpcplckcipfaaW.PrintWords
