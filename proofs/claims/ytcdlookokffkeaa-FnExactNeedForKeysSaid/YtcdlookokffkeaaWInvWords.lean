import Derived.Test.YtcdlookokffkeaaWInv
import Derived.Test.YtcdlookokffkeaaWFootNe
namespace Go.Proofs.YtcdlookokffkeaaW.PrintWords
open Go.RowKit
end Go.Proofs.YtcdlookokffkeaaW.PrintWords
namespace Go.Proofs.YtcdlookokffkeaaW.PrintLast
section
variable {ops : Array Oper} {a : Act} {o og : Oper} {g : Nat} {t : Tmp} {u : Bool}
end
end Go.Proofs.YtcdlookokffkeaaW.PrintLast
