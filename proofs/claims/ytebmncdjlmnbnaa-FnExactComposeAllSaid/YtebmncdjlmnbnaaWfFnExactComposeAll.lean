/-
What is known of the arguments of FnExactComposeAll when they can be read as data, and the statement about plain lists and numbers that is left of the law.
-/
import Derived.Test.YtebmncdjlmnbnaaPFnExactComposeAllx17
import Derived.Test.YtebmncdjlmnbnaaLib
namespace Go.Proofs.Ytebmncdjlmnbnaa.PFnExactComposeAll
open Go Go.RowKit
set_option linter.unusedVariables false
instance : Inhabited S73 := ⟨z73⟩
instance : Inhabited S98 := ⟨z98⟩
def wf73 (x : S73) : Prop := ((Lit.int .i64 x.f0).wf = true) ∧ ((Lit.int .i64 x.f1).wf = true) ∧ (x.f2.size ≤ maxLen)
def wf98 (x : S98) : Prop := (x.f0.length ≤ maxLen ∧ ∀ x_ ∈ x.f0, wf73 x_)
def Stated : Prop := ∀ (l0 : List S98) (w0 : l0.length ≤ maxLen ∧ ∀ x_ ∈ l0, wf98 x_), ∃ k, laws_FnExactComposeAll.f k l0 = some true
end Go.Proofs.Ytebmncdjlmnbnaa.PFnExactComposeAll
