import Derived.Test.YtdlicabmalljpaaWInv
import Derived.Test.YtdlicabmalljpaaWFootNe
namespace Go.Proofs.YtdlicabmalljpaaW.PrintWords
open Go.RowKit
end Go.Proofs.YtdlicabmalljpaaW.PrintWords
namespace Go.Proofs.YtdlicabmalljpaaW.PrintLast
section
variable {ops : Array Oper} {a : Act} {o og : Oper} {g : Nat} {t : Tmp} {u : Bool}
end
end Go.Proofs.YtdlicabmalljpaaW.PrintLast
