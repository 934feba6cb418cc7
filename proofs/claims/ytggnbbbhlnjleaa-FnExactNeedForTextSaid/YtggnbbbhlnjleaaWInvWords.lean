import Derived.Test.YtggnbbbhlnjleaaWInv
import Derived.Test.YtggnbbbhlnjleaaWFootNe
namespace Go.Proofs.YtggnbbbhlnjleaaW.PrintWords
open Go.RowKit
end Go.Proofs.YtggnbbbhlnjleaaW.PrintWords
namespace Go.Proofs.YtggnbbbhlnjleaaW.PrintLast
section
variable {ops : Array Oper} {a : Act} {o og : Oper} {g : Nat} {t : Tmp} {u : Bool}
end
end Go.Proofs.YtggnbbbhlnjleaaW.PrintLast
