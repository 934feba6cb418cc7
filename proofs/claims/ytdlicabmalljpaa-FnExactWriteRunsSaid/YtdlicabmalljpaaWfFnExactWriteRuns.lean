/-
What is known of the arguments of FnExactWriteRuns when they can be read as data, and the statement about plain lists and numbers that is left of the law.
-/
import Derived.Test.YtdlicabmalljpaaPFnExactWriteRunsx5
import Derived.Test.YtdlicabmalljpaaLib
namespace Go.Proofs.Ytdlicabmalljpaa.PFnExactWriteRuns
open Go Go.RowKit
set_option linter.unusedVariables false
instance : Inhabited S76 := ⟨z76⟩
def wf76 (x : S76) : Prop := ((Lit.int .i64 x.f0).wf = true) ∧ ((Lit.int .i64 x.f1).wf = true)
def Stated : Prop := ∀ (l0 : List S76) (w0 : l0.length ≤ maxLen ∧ ∀ x_ ∈ l0, wf76 x_), ∃ k, laws_FnExactWriteRuns.f k l0 = some true
end Go.Proofs.Ytdlicabmalljpaa.PFnExactWriteRuns
