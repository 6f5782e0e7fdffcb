import Derived.Test.YtloihkecfommbaaWInv
import Derived.Test.YtloihkecfommbaaWFootNe
namespace Go.Proofs.YtloihkecfommbaaW.PrintWords
open Go.RowKit
end Go.Proofs.YtloihkecfommbaaW.PrintWords
namespace Go.Proofs.YtloihkecfommbaaW.PrintLast
section
variable {ops : Array Oper} {a : Act} {o og : Oper} {g : Nat} {t : Tmp} {u : Bool}
end
end Go.Proofs.YtloihkecfommbaaW.PrintLast
