/-
What is known of the arguments of FnExactCommitGroup when they can be read as data, and the statement about plain lists and numbers that is left of the law.
-/
import Derived.Test.YtfjboeeogjepeaaPFnExactCommitGroupx13
import Derived.Test.YtfjboeeogjepeaaLib
namespace Go.Proofs.Ytfjboeeogjepeaa.PFnExactCommitGroup
open Go Go.RowKit
set_option linter.unusedVariables false
instance : Inhabited S61 := ⟨z61⟩
def wf61 (x : S61) : Prop := ((Lit.int .i64 x.f0).wf = true) ∧ (x.f1.length ≤ maxLen ∧ ∀ x_ ∈ x.f1, (Lit.int .u8 x_).wf = true)
def Stated : Prop := ∀ (l0_0 : List (List Int)) (a0_1 : Int) (a0_2 : Bool) (a0_3 : Int) (l1 : List S61) (w0_0 : l0_0.length ≤ maxLen ∧ ∀ x_ ∈ l0_0, x_.length ≤ maxLen ∧ ∀ x__ ∈ x_, (Lit.int .u8 x__).wf = true) (w0_1 : (Lit.int .i64 a0_1).wf = true) (w0_2 : True) (w0_3 : (Lit.int .i64 a0_3).wf = true) (w1 : l1.length ≤ maxLen ∧ ∀ x_ ∈ l1, wf61 x_), ∃ k, laws_FnExactCommitGroup.f k l0_0 a0_1 a0_2 a0_3 l1 = some true
end Go.Proofs.Ytfjboeeogjepeaa.PFnExactCommitGroup
