/-
What is known of the arguments of FnExactTextAt when they can be read as data, and the statement about plain lists and numbers that is left of the law.
-/
import Derived.Test.YtdlicabmalljpaaPFnExactTextAtx10
import Derived.Test.YtdlicabmalljpaaLib
namespace Go.Proofs.Ytdlicabmalljpaa.PFnExactTextAt
open Go Go.RowKit
set_option linter.unusedVariables false
instance : Inhabited S76 := ⟨z76⟩
instance : Inhabited S84 := ⟨z84⟩
instance : Inhabited S108 := ⟨z108⟩
def wf76 (x : S76) : Prop := ((Lit.int .i64 x.f0).wf = true) ∧ ((Lit.int .i64 x.f1).wf = true)
def wf84 (x : S84) : Prop := ((Lit.int .i64 x.f0).wf = true) ∧ ((Lit.int .i64 x.f1).wf = true) ∧ (x.f2.size ≤ maxLen)
def wf108 (x : S108) : Prop := (x.f0.length ≤ maxLen ∧ ∀ x_ ∈ x.f0, wf84 x_)
def Stated : Prop := ∀ (a0_0 : Int) (a0_1 : ByteArray) (l0_2 : List S76) (l0_3 : List S108) (a1 : Int) (w0_0 : (Lit.int .i64 a0_0).wf = true) (w0_1 : a0_1.size ≤ maxLen) (w0_2 : l0_2.length ≤ maxLen ∧ ∀ x_ ∈ l0_2, wf76 x_) (w0_3 : l0_3.length ≤ maxLen ∧ ∀ x_ ∈ l0_3, wf108 x_) (w1 : (Lit.int .i64 a1).wf = true), ∃ k, laws_FnExactTextAt.f k a0_0 a0_1 l0_2 l0_3 a1 = some true
end Go.Proofs.Ytdlicabmalljpaa.PFnExactTextAt
