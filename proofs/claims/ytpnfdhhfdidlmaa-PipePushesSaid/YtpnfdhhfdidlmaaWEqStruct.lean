import Derived.Test.YtpnfdhhfdidlmaaWWords
import Derived.Laws.StructEq
namespace Go.Proofs.YtpnfdhhfdidlmaaW.PrintWords
open Go.RowKit
section
variable {P : Program} {d : Nat} {xs ys : Array Value} {f : Field} {fs : List Field} {a b : Value} {r s : Bool} {w : World}
end
end Go.Proofs.YtpnfdhhfdidlmaaW.PrintWords
