import Derived.Test.YtolpglcjpknmnaaWInv
import Derived.Test.YtolpglcjpknmnaaWFootNe
namespace Go.Proofs.YtolpglcjpknmnaaW.PrintWords
open Go.RowKit
end Go.Proofs.YtolpglcjpknmnaaW.PrintWords
namespace Go.Proofs.YtolpglcjpknmnaaW.PrintLast
section
variable {ops : Array Oper} {a : Act} {o og : Oper} {g : Nat} {t : Tmp} {u : Bool}
end
end Go.Proofs.YtolpglcjpknmnaaW.PrintLast
