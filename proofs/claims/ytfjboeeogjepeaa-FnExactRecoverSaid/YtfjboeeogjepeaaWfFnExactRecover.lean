/-
What is known of the arguments of FnExactRecover when they can be read as data, and the statement about plain lists and numbers that is left of the law.
-/
import Derived.Test.YtfjboeeogjepeaaPFnExactRecoverx14
import Derived.Test.YtfjboeeogjepeaaLib
namespace Go.Proofs.Ytfjboeeogjepeaa.PFnExactRecover
open Go Go.RowKit
set_option linter.unusedVariables false


def Stated : Prop := ∀ (l0_0 : List (List Int)) (a0_1 : Int) (a0_2 : Bool) (a0_3 : Int) (w0_0 : l0_0.length ≤ maxLen ∧ ∀ x_ ∈ l0_0, x_.length ≤ maxLen ∧ ∀ x__ ∈ x_, (Lit.int .u8 x__).wf = true) (w0_1 : (Lit.int .i64 a0_1).wf = true) (w0_2 : True) (w0_3 : (Lit.int .i64 a0_3).wf = true), ∃ k, laws_FnExactRecover.f k l0_0 a0_1 a0_2 a0_3 = some true
end Go.Proofs.Ytfjboeeogjepeaa.PFnExactRecover
