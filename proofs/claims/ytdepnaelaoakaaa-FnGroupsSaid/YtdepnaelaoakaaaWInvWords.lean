import Derived.Test.YtdepnaelaoakaaaWInv
import Derived.Test.YtdepnaelaoakaaaWFootNe
namespace Go.Proofs.YtdepnaelaoakaaaW.PrintWords
open Go.RowKit
end Go.Proofs.YtdepnaelaoakaaaW.PrintWords
namespace Go.Proofs.YtdepnaelaoakaaaW.PrintLast
section
variable {ops : Array Oper} {a : Act} {o og : Oper} {g : Nat} {t : Tmp} {u : Bool}
end
end Go.Proofs.YtdepnaelaoakaaaW.PrintLast
