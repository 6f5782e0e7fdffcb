import Derived.SizedLaws
import Derived.ChangeSlices
namespace Go.Proofs.YtpnfdhhfdidlmaaW.PrintWords
open Go.ChangeShapes Go.WideShapes
end Go.Proofs.YtpnfdhhfdidlmaaW.PrintWords
