import Derived.Test.YtnklckihalhlmaaWInv
import Derived.Test.YtnklckihalhlmaaWFootNe
namespace Go.Proofs.YtnklckihalhlmaaW.PrintWords
open Go.RowKit
end Go.Proofs.YtnklckihalhlmaaW.PrintWords
namespace Go.Proofs.YtnklckihalhlmaaW.PrintLast
section
variable {ops : Array Oper} {a : Act} {o og : Oper} {g : Nat} {t : Tmp} {u : Bool}
end
end Go.Proofs.YtnklckihalhlmaaW.PrintLast
