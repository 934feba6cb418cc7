import Derived.Test.YthbbcnjnbfhcbaaWInv
import Derived.Test.YthbbcnjnbfhcbaaWFootNe
namespace Go.Proofs.YthbbcnjnbfhcbaaW.PrintWords
open Go.RowKit
end Go.Proofs.YthbbcnjnbfhcbaaW.PrintWords
namespace Go.Proofs.YthbbcnjnbfhcbaaW.PrintLast
section
variable {ops : Array Oper} {a : Act} {o og : Oper} {g : Nat} {t : Tmp} {u : Bool}
end
end Go.Proofs.YthbbcnjnbfhcbaaW.PrintLast
