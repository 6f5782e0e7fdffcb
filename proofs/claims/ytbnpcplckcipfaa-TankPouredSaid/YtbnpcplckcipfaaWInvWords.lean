import Derived.Test.YtbnpcplckcipfaaWInv
import Derived.Test.YtbnpcplckcipfaaWFootNe
namespace Go.Proofs.YtbnpcplckcipfaaW.PrintWords
open Go.RowKit
end Go.Proofs.YtbnpcplckcipfaaW.PrintWords
namespace Go.Proofs.YtbnpcplckcipfaaW.PrintLast
section
variable {ops : Array Oper} {a : Act} {o og : Oper} {g : Nat} {t : Tmp} {u : Bool}
end
end Go.Proofs.YtbnpcplckcipfaaW.PrintLast
