/-
What is known of the arguments of FnCovers when they can be read as data, and the statement about plain lists and numbers that is left of the law.
-/
import Derived.Test.YtolpglcjpknmnaaPFnCoversx4
import Derived.Test.YtolpglcjpknmnaaLib
namespace Go.Proofs.Ytolpglcjpknmnaa.PFnCovers
open Go Go.RowKit
set_option linter.unusedVariables false


def Stated : Prop := ∀ (l0 : List Int) (w0 : l0.length ≤ maxLen ∧ ∀ x_ ∈ l0, (Lit.int .u8 x_).wf = true), ∃ k, laws_FnCovers.f k l0 = some true
end Go.Proofs.Ytolpglcjpknmnaa.PFnCovers
