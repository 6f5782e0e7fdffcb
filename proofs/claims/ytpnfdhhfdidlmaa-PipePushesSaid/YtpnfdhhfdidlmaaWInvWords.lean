import Derived.Test.YtpnfdhhfdidlmaaWInv
import Derived.Test.YtpnfdhhfdidlmaaWFootNe
namespace Go.Proofs.YtpnfdhhfdidlmaaW.PrintWords
open Go.RowKit
end Go.Proofs.YtpnfdhhfdidlmaaW.PrintWords
namespace Go.Proofs.YtpnfdhhfdidlmaaW.PrintLast
section
variable {ops : Array Oper} {a : Act} {o og : Oper} {g : Nat} {t : Tmp} {u : Bool}
end
end Go.Proofs.YtpnfdhhfdidlmaaW.PrintLast
