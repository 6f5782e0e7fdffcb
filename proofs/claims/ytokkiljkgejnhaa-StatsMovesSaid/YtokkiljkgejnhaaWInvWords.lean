import Derived.Test.YtokkiljkgejnhaaWInv
import Derived.Test.YtokkiljkgejnhaaWFootNe
namespace Go.Proofs.YtokkiljkgejnhaaW.PrintWords
open Go.RowKit
end Go.Proofs.YtokkiljkgejnhaaW.PrintWords
namespace Go.Proofs.YtokkiljkgejnhaaW.PrintLast
section
variable {ops : Array Oper} {a : Act} {o og : Oper} {g : Nat} {t : Tmp} {u : Bool}
end
end Go.Proofs.YtokkiljkgejnhaaW.PrintLast
