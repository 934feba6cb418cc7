/-
What is known of the arguments of FnExactNewDisk when they can be read as data, and the statement about plain lists and numbers that is left of the law.
-/
import Derived.Test.YthbbcnjnbfhcbaaPFnExactNewDiskx3
import Derived.Test.YthbbcnjnbfhcbaaLib
namespace Go.Proofs.Ythbbcnjnbfhcbaa.PFnExactNewDisk
open Go Go.RowKit
set_option linter.unusedVariables false


def Stated : Prop := ∀ (a0 : Int) (w0 : (Lit.int .i64 a0).wf = true), ∃ k, laws_FnExactNewDisk.f k a0 = some true
end Go.Proofs.Ythbbcnjnbfhcbaa.PFnExactNewDisk
