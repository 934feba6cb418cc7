/-
What is known of the arguments of FnExactCarryRuns when they can be read as data, and the statement about plain lists and numbers that is left of the law.
-/
import Derived.Test.YtdlicabmalljpaaPFnExactCarryRunsx10
import Derived.Test.YtdlicabmalljpaaLib
namespace Go.Proofs.Ytdlicabmalljpaa.PFnExactCarryRuns
open Go Go.RowKit
set_option linter.unusedVariables false
instance : Inhabited S76 := ⟨z76⟩
instance : Inhabited S84 := ⟨z84⟩
def wf76 (x : S76) : Prop := ((Lit.int .i64 x.f0).wf = true) ∧ ((Lit.int .i64 x.f1).wf = true)
def wf84 (x : S84) : Prop := ((Lit.int .i64 x.f0).wf = true) ∧ ((Lit.int .i64 x.f1).wf = true) ∧ (x.f2.size ≤ maxLen)
def Stated : Prop := ∀ (l0 : List S76) (l1 : List S84) (a2 : Int) (w0 : l0.length ≤ maxLen ∧ ∀ x_ ∈ l0, wf76 x_) (w1 : l1.length ≤ maxLen ∧ ∀ x_ ∈ l1, wf84 x_) (w2 : (Lit.int .i64 a2).wf = true), ∃ k, laws_FnExactCarryRuns.f k l0 l1 a2 = some true
end Go.Proofs.Ytdlicabmalljpaa.PFnExactCarryRuns
