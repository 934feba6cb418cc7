import Derived.Test.YtfjboeeogjepeaaWInv
import Derived.Test.YtfjboeeogjepeaaWFootNe
namespace Go.Proofs.YtfjboeeogjepeaaW.PrintWords
open Go.RowKit
end Go.Proofs.YtfjboeeogjepeaaW.PrintWords
namespace Go.Proofs.YtfjboeeogjepeaaW.PrintLast
section
variable {ops : Array Oper} {a : Act} {o og : Oper} {g : Nat} {t : Tmp} {u : Bool}
end
end Go.Proofs.YtfjboeeogjepeaaW.PrintLast
