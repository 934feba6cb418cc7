/-
What is known of the arguments of FnExactGoodHistory when they can be read as data, and the statement about plain lists and numbers that is left of the law.
-/
import Derived.Test.YtebmncdjlmnbnaaPFnExactGoodHistoryx9
import Derived.Test.YtebmncdjlmnbnaaLib
namespace Go.Proofs.Ytebmncdjlmnbnaa.PFnExactGoodHistory
open Go Go.RowKit
set_option linter.unusedVariables false
instance : Inhabited S119 := ⟨z119⟩
instance : Inhabited S73 := ⟨z73⟩
instance : Inhabited S98 := ⟨z98⟩
def wf119 (x : S119) : Prop := ((Lit.int .i64 x.f0).wf = true) ∧ ((Lit.int .i64 x.f1).wf = true)
def wf73 (x : S73) : Prop := ((Lit.int .i64 x.f0).wf = true) ∧ ((Lit.int .i64 x.f1).wf = true) ∧ (x.f2.size ≤ maxLen)
def wf98 (x : S98) : Prop := (x.f0.length ≤ maxLen ∧ ∀ x_ ∈ x.f0, wf73 x_)
def Stated : Prop := ∀ (a0_0 : Int) (a0_1 : ByteArray) (l0_2 : List S119) (l0_3 : List S98) (w0_0 : (Lit.int .i64 a0_0).wf = true) (w0_1 : a0_1.size ≤ maxLen) (w0_2 : l0_2.length ≤ maxLen ∧ ∀ x_ ∈ l0_2, wf119 x_) (w0_3 : l0_3.length ≤ maxLen ∧ ∀ x_ ∈ l0_3, wf98 x_), ∃ k, laws_FnExactGoodHistory.f k a0_0 a0_1 l0_2 l0_3 = some true
end Go.Proofs.Ytebmncdjlmnbnaa.PFnExactGoodHistory
