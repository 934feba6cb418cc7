/-
What is known of the arguments of FnGroups when they can be read as data, and the statement about plain lists and numbers that is left of the law.
-/
import Derived.Test.YtdepnaelaoakaaaPFnGroupsx15
import Derived.Test.YtdepnaelaoakaaaLib
namespace Go.Proofs.Ytdepnaelaoakaaa.PFnGroups
open Go Go.RowKit
set_option linter.unusedVariables false


def Stated : Prop := ∀ (l0 : List Int) (l1 : List Int) (w0 : l0.length ≤ maxLen ∧ ∀ x_ ∈ l0, (Lit.int .u8 x_).wf = true) (w1 : l1.length ≤ maxLen ∧ ∀ x_ ∈ l1, (Lit.int .u8 x_).wf = true), ∃ k, laws_FnGroups.f k l0 l1 = some true
end Go.Proofs.Ytdepnaelaoakaaa.PFnGroups
