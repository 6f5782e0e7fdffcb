import Derived.Test.YtlnboodobmbcjaaWInv
import Derived.Test.YtlnboodobmbcjaaWFootNe
namespace Go.Proofs.YtlnboodobmbcjaaW.PrintWords
open Go.RowKit
end Go.Proofs.YtlnboodobmbcjaaW.PrintWords
namespace Go.Proofs.YtlnboodobmbcjaaW.PrintLast
section
variable {ops : Array Oper} {a : Act} {o og : Oper} {g : Nat} {t : Tmp} {u : Bool}
end
end Go.Proofs.YtlnboodobmbcjaaW.PrintLast
