import Derived.Test.YtolpglcjpknmnaaWLast
import Derived.Test.YtolpglcjpknmnaaWWords
namespace Go.Proofs.YtolpglcjpknmnaaW.PrintLast
open Go.Proofs.YtolpglcjpknmnaaW.PrintWords (Aside0)
section
variable {md : Region.Mode} {ops : Array Oper} {T : Bool × List (List Nat × List Nat)} {l l' li lj lk : Array Bool} {ds : List Nat} {i j k : Nat}
end
end Go.Proofs.YtolpglcjpknmnaaW.PrintLast
