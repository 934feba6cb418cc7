/-
What is known of the arguments of FnExactComposeChanges when they can be read as data, and the statement about plain lists and numbers that is left of the law.
-/
import Derived.Test.YtebmncdjlmnbnaaPFnExactComposeChangesx15
import Derived.Test.YtebmncdjlmnbnaaLib
namespace Go.Proofs.Ytebmncdjlmnbnaa.PFnExactComposeChanges
open Go Go.RowKit
set_option linter.unusedVariables false
instance : Inhabited S73 := ⟨z73⟩
def wf73 (x : S73) : Prop := ((Lit.int .i64 x.f0).wf = true) ∧ ((Lit.int .i64 x.f1).wf = true) ∧ (x.f2.size ≤ maxLen)
def Stated : Prop := ∀ (l0 : List S73) (l1 : List S73) (w0 : l0.length ≤ maxLen ∧ ∀ x_ ∈ l0, wf73 x_) (w1 : l1.length ≤ maxLen ∧ ∀ x_ ∈ l1, wf73 x_), ∃ k, laws_FnExactComposeChanges.f k l0 l1 = some true
end Go.Proofs.Ytebmncdjlmnbnaa.PFnExactComposeChanges
