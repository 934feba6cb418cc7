/-
What is known of the arguments of FnExactKeyOf when they can be read as data, and the statement about plain lists and numbers that is left of the law.
-/
import Derived.Test.YtgeobmfiblgkgaaPFnExactKeyOfx1
import Derived.Test.YtgeobmfiblgkgaaLib
namespace Go.Proofs.Ytgeobmfiblgkgaa.PFnExactKeyOf
open Go Go.RowKit
set_option linter.unusedVariables false


def Stated : Prop := ∀ (a0_0 : Int) (a0_1 : Int) (w0_0 : (Lit.int .i64 a0_0).wf = true) (w0_1 : (Lit.int .i64 a0_1).wf = true), laws_FnExactKeyOf.f a0_0 a0_1 = some true
end Go.Proofs.Ytgeobmfiblgkgaa.PFnExactKeyOf
