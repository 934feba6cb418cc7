import Derived.Test.YtlphbpaojcdjaaaWInv
import Derived.Test.YtlphbpaojcdjaaaWFootNe
namespace Go.Proofs.YtlphbpaojcdjaaaW.PrintWords
open Go.RowKit
end Go.Proofs.YtlphbpaojcdjaaaW.PrintWords
namespace Go.Proofs.YtlphbpaojcdjaaaW.PrintLast
section
variable {ops : Array Oper} {a : Act} {o og : Oper} {g : Nat} {t : Tmp} {u : Bool}
end
end Go.Proofs.YtlphbpaojcdjaaaW.PrintLast
