import Derived.Test.YtokkiljkgejnhaaGreatWInv
import Derived.Test.YtokkiljkgejnhaaGreatWFootNe
namespace Go.Proofs.YtokkiljkgejnhaaGreatW.PrintWords
open Go.RowKit
end Go.Proofs.YtokkiljkgejnhaaGreatW.PrintWords
namespace Go.Proofs.YtokkiljkgejnhaaGreatW.PrintLast
section
variable {ops : Array Oper} {a : Act} {o og : Oper} {g : Nat} {t : Tmp} {u : Bool}
end
end Go.Proofs.YtokkiljkgejnhaaGreatW.PrintLast
