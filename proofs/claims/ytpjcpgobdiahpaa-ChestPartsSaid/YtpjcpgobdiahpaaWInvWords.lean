import Derived.Test.YtpjcpgobdiahpaaWInv
import Derived.Test.YtpjcpgobdiahpaaWFootNe
namespace Go.Proofs.YtpjcpgobdiahpaaW.PrintWords
open Go.RowKit
end Go.Proofs.YtpjcpgobdiahpaaW.PrintWords
namespace Go.Proofs.YtpjcpgobdiahpaaW.PrintLast
section
variable {ops : Array Oper} {a : Act} {o og : Oper} {g : Nat} {t : Tmp} {u : Bool}
end
end Go.Proofs.YtpjcpgobdiahpaaW.PrintLast
