/-
What is known of the arguments of FnExactCloseSpace when they can be read as data, and the statement about plain lists and numbers that is left of the law.
-/
import Derived.Test.YtlphbpaojcdjaaaPFnExactCloseSpacex10
import Derived.Test.YtlphbpaojcdjaaaLib
namespace Go.Proofs.Ytlphbpaojcdjaaa.PFnExactCloseSpace
open Go Go.RowKit
set_option linter.unusedVariables false


def Stated : Prop := ∀ (l0_0 : List (List Int)) (l0_1 : List Int) (l0_2 : List Int) (l0_3 : List Int) (l1 : List Int) (w0_0 : l0_0.length ≤ maxLen ∧ ∀ x_ ∈ l0_0, x_.length ≤ maxLen ∧ ∀ x__ ∈ x_, (Lit.int .u8 x__).wf = true) (w0_1 : l0_1.length ≤ maxLen ∧ ∀ x_ ∈ l0_1, (Lit.int .u8 x_).wf = true) (w0_2 : l0_2.length ≤ maxLen ∧ ∀ x_ ∈ l0_2, (Lit.int .i64 x_).wf = true) (w0_3 : l0_3.length ≤ maxLen ∧ ∀ x_ ∈ l0_3, (Lit.int .i64 x_).wf = true) (w1 : l1.length ≤ maxLen ∧ ∀ x_ ∈ l1, (Lit.int .u8 x_).wf = true), ∃ k, laws_FnExactCloseSpace.f k l0_0 l0_1 l0_2 l0_3 l1 = some true
end Go.Proofs.Ytlphbpaojcdjaaa.PFnExactCloseSpace
