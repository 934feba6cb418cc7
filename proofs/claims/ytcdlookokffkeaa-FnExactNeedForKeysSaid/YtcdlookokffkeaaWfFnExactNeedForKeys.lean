/-
What is known of the arguments of FnExactNeedForKeys when they can be read as data, and the statement about plain lists and numbers that is left of the law.
-/
import Derived.Test.YtcdlookokffkeaaPFnExactNeedForKeysx18
import Derived.Test.YtcdlookokffkeaaLib
namespace Go.Proofs.Ytcdlookokffkeaa.PFnExactNeedForKeys
open Go Go.RowKit
set_option linter.unusedVariables false
instance : Inhabited S79 := ⟨z79⟩
def wf79 (x : S79) : Prop := ((Lit.int .i64 x.f0).wf = true) ∧ ((Lit.int .i64 x.f1).wf = true)
def Stated : Prop := ∀ (l0_0 : List (List Int)) (l0_1 : List Int) (l0_2 : List Int) (l0_3 : List Int) (a1 : Int) (l2 : List S79) (w0_0 : l0_0.length ≤ maxLen ∧ ∀ x_ ∈ l0_0, x_.length ≤ maxLen ∧ ∀ x__ ∈ x_, (Lit.int .u8 x__).wf = true) (w0_1 : l0_1.length ≤ maxLen ∧ ∀ x_ ∈ l0_1, (Lit.int .u8 x_).wf = true) (w0_2 : l0_2.length ≤ maxLen ∧ ∀ x_ ∈ l0_2, (Lit.int .i64 x_).wf = true) (w0_3 : l0_3.length ≤ maxLen ∧ ∀ x_ ∈ l0_3, (Lit.int .i64 x_).wf = true) (w1 : (Lit.int .i64 a1).wf = true) (w2 : l2.length ≤ maxLen ∧ ∀ x_ ∈ l2, wf79 x_), ∃ k, laws_FnExactNeedForKeys.f k l0_0 l0_1 l0_2 l0_3 a1 l2 = some true
end Go.Proofs.Ytcdlookokffkeaa.PFnExactNeedForKeys
