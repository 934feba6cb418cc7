/-
What is known of the arguments of FnExactHeaderOf when they can be read as data, and the statement about plain lists and numbers that is left of the law.
-/
import Derived.Test.YtfjboeeogjepeaaPFnExactHeaderOfx5
import Derived.Test.YtfjboeeogjepeaaLib
namespace Go.Proofs.Ytfjboeeogjepeaa.PFnExactHeaderOf
open Go Go.RowKit
set_option linter.unusedVariables false
instance : Inhabited S61 := ⟨z61⟩
def wf61 (x : S61) : Prop := ((Lit.int .i64 x.f0).wf = true) ∧ (x.f1.length ≤ maxLen ∧ ∀ x_ ∈ x.f1, (Lit.int .u8 x_).wf = true)
def Stated : Prop := ∀ (l0 : List S61) (w0 : l0.length ≤ maxLen ∧ ∀ x_ ∈ l0, wf61 x_), ∃ k, laws_FnExactHeaderOf.f k l0 = some true
end Go.Proofs.Ytfjboeeogjepeaa.PFnExactHeaderOf
