/-
What is known of the arguments of FnExactNewCache when they can be read as data, and the statement about plain lists and numbers that is left of the law.
-/
import Derived.Test.YtgeobmfiblgkgaaPFnExactNewCachex3
import Derived.Test.YtgeobmfiblgkgaaLib
namespace Go.Proofs.Ytgeobmfiblgkgaa.PFnExactNewCache
open Go Go.RowKit
set_option linter.unusedVariables false


def Stated : Prop := ∀ (a0 : Int) (w0 : (Lit.int .i64 a0).wf = true), ∃ k, laws_FnExactNewCache.f k a0 = some true
end Go.Proofs.Ytgeobmfiblgkgaa.PFnExactNewCache
