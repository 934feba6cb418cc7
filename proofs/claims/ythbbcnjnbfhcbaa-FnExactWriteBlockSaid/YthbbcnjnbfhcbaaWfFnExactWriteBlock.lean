/-
What is known of the arguments of FnExactWriteBlock when they can be read as data, and the statement about plain lists and numbers that is left of the law.
-/
import Derived.Test.YthbbcnjnbfhcbaaPFnExactWriteBlockx7
import Derived.Test.YthbbcnjnbfhcbaaLib
namespace Go.Proofs.Ythbbcnjnbfhcbaa.PFnExactWriteBlock
open Go Go.RowKit
set_option linter.unusedVariables false


def Stated : Prop := ∀ (l0_0 : List (List Int)) (a0_1 : Int) (a0_2 : Bool) (a0_3 : Int) (a1 : Int) (l2 : List Int) (w0_0 : l0_0.length ≤ maxLen ∧ ∀ x_ ∈ l0_0, x_.length ≤ maxLen ∧ ∀ x__ ∈ x_, (Lit.int .u8 x__).wf = true) (w0_1 : (Lit.int .i64 a0_1).wf = true) (w0_2 : True) (w0_3 : (Lit.int .i64 a0_3).wf = true) (w1 : (Lit.int .i64 a1).wf = true) (w2 : l2.length ≤ maxLen ∧ ∀ x_ ∈ l2, (Lit.int .u8 x_).wf = true), ∃ k, laws_FnExactWriteBlock.f k l0_0 a0_1 a0_2 a0_3 a1 l2 = some true
end Go.Proofs.Ythbbcnjnbfhcbaa.PFnExactWriteBlock
