import Derived.Test.YtebmncdjlmnbnaaWInv
import Derived.Test.YtebmncdjlmnbnaaWFootNe
namespace Go.Proofs.YtebmncdjlmnbnaaW.PrintWords
open Go.RowKit
end Go.Proofs.YtebmncdjlmnbnaaW.PrintWords
namespace Go.Proofs.YtebmncdjlmnbnaaW.PrintLast
section
variable {ops : Array Oper} {a : Act} {o og : Oper} {g : Nat} {t : Tmp} {u : Bool}
end
end Go.Proofs.YtebmncdjlmnbnaaW.PrintLast
