/-
What is known of the arguments of FnExactInvertChange when they can be read as data, and the statement about plain lists and numbers that is left of the law.
-/
import Derived.Test.YtebmncdjlmnbnaaPFnExactInvertChangex6
import Derived.Test.YtebmncdjlmnbnaaLib
namespace Go.Proofs.Ytebmncdjlmnbnaa.PFnExactInvertChange
open Go Go.RowKit
set_option linter.unusedVariables false
instance : Inhabited S73 := ⟨z73⟩
def wf73 (x : S73) : Prop := ((Lit.int .i64 x.f0).wf = true) ∧ ((Lit.int .i64 x.f1).wf = true) ∧ (x.f2.size ≤ maxLen)
def Stated : Prop := ∀ (a0 : ByteArray) (l1 : List S73) (w0 : a0.size ≤ maxLen) (w1 : l1.length ≤ maxLen ∧ ∀ x_ ∈ l1, wf73 x_), ∃ k, laws_FnExactInvertChange.f k a0 l1 = some true
end Go.Proofs.Ytebmncdjlmnbnaa.PFnExactInvertChange
