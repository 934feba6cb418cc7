/-
What is known of the arguments of FnExactNormalOf when they can be read as data, and the statement about plain lists and numbers that is left of the law.
-/
import Derived.Test.YtebmncdjlmnbnaaPFnExactNormalOfx9
import Derived.Test.YtebmncdjlmnbnaaLib
namespace Go.Proofs.Ytebmncdjlmnbnaa.PFnExactNormalOf
open Go Go.RowKit
set_option linter.unusedVariables false
instance : Inhabited S73 := ⟨z73⟩
def wf73 (x : S73) : Prop := ((Lit.int .i64 x.f0).wf = true) ∧ ((Lit.int .i64 x.f1).wf = true) ∧ (x.f2.size ≤ maxLen)
def Stated : Prop := ∀ (l0 : List S73) (w0 : l0.length ≤ maxLen ∧ ∀ x_ ∈ l0, wf73 x_), ∃ k, laws_FnExactNormalOf.f k l0 = some true
end Go.Proofs.Ytebmncdjlmnbnaa.PFnExactNormalOf
