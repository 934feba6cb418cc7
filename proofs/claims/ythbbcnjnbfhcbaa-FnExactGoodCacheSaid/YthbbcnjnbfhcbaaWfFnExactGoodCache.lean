/-
What is known of the arguments of FnExactGoodCache when they can be read as data, and the statement about plain lists and numbers that is left of the law.
-/
import Derived.Test.YthbbcnjnbfhcbaaPFnExactGoodCachex8
import Derived.Test.YthbbcnjnbfhcbaaLib
namespace Go.Proofs.Ythbbcnjnbfhcbaa.PFnExactGoodCache
open Go Go.RowKit
set_option linter.unusedVariables false
instance : Inhabited S85 := ⟨z85⟩
def wf85 (x : S85) : Prop := ((Lit.int .i64 x.f0).wf = true) ∧ (x.f1.length ≤ maxLen ∧ ∀ x_ ∈ x.f1, (Lit.int .u8 x_).wf = true) ∧ (True) ∧ ((Lit.int .i64 x.f3).wf = true) ∧ ((Lit.int .i64 x.f4).wf = true)
def Stated : Prop := ∀ (a0_0 : Int) (a0_1 : Int) (l0_2 : List S85) (l1_0 : List (List Int)) (a1_1 : Int) (a1_2 : Bool) (a1_3 : Int) (w0_0 : (Lit.int .i64 a0_0).wf = true) (w0_1 : (Lit.int .i64 a0_1).wf = true) (w0_2 : l0_2.length ≤ maxLen ∧ ∀ x_ ∈ l0_2, wf85 x_) (w1_0 : l1_0.length ≤ maxLen ∧ ∀ x_ ∈ l1_0, x_.length ≤ maxLen ∧ ∀ x__ ∈ x_, (Lit.int .u8 x__).wf = true) (w1_1 : (Lit.int .i64 a1_1).wf = true) (w1_2 : True) (w1_3 : (Lit.int .i64 a1_3).wf = true), ∃ k, laws_FnExactGoodCache.f k a0_0 a0_1 l0_2 l1_0 a1_1 a1_2 a1_3 = some true
end Go.Proofs.Ythbbcnjnbfhcbaa.PFnExactGoodCache
