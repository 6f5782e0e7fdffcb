import Derived.SizedLaws
import Derived.ChangeSlices
namespace Go.Proofs.YtpjcpgobdiahpaaW.PrintWords
open Go.ChangeShapes Go.WideShapes
end Go.Proofs.YtpjcpgobdiahpaaW.PrintWords
