/-
What is known of the arguments of FnExactGoodRuns when they can be read as data, and the statement about plain lists and numbers that is left of the law.
-/
import Derived.Test.YtgeobmfiblgkgaaPFnExactGoodRunsx3
import Derived.Test.YtgeobmfiblgkgaaLib
namespace Go.Proofs.Ytgeobmfiblgkgaa.PFnExactGoodRuns
open Go Go.RowKit
set_option linter.unusedVariables false
instance : Inhabited S72 := ⟨z72⟩
def wf72 (x : S72) : Prop := ((Lit.int .i64 x.f0).wf = true) ∧ ((Lit.int .i64 x.f1).wf = true)
def Stated : Prop := ∀ (l0 : List S72) (a1 : Int) (a2 : Int) (w0 : l0.length ≤ maxLen ∧ ∀ x_ ∈ l0, wf72 x_) (w1 : (Lit.int .i64 a1).wf = true) (w2 : (Lit.int .i64 a2).wf = true), ∃ k, laws_FnExactGoodRuns.f k l0 a1 a2 = some true
end Go.Proofs.Ytgeobmfiblgkgaa.PFnExactGoodRuns
