import Derived.Test.YtblifmmcmngdnaaWInv
import Derived.Test.YtblifmmcmngdnaaWFootNe
namespace Go.Proofs.YtblifmmcmngdnaaW.PrintWords
open Go.RowKit
end Go.Proofs.YtblifmmcmngdnaaW.PrintWords
namespace Go.Proofs.YtblifmmcmngdnaaW.PrintLast
section
variable {ops : Array Oper} {a : Act} {o og : Oper} {g : Nat} {t : Tmp} {u : Bool}
end
end Go.Proofs.YtblifmmcmngdnaaW.PrintLast
