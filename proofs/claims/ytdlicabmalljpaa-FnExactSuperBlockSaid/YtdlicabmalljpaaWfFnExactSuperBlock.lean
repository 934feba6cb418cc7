/-
What is known of the arguments of FnExactSuperBlock when they can be read as data, and the statement about plain lists and numbers that is left of the law.
-/
import Derived.Test.YtdlicabmalljpaaPFnExactSuperBlockx3
import Derived.Test.YtdlicabmalljpaaLib
namespace Go.Proofs.Ytdlicabmalljpaa.PFnExactSuperBlock
open Go Go.RowKit
set_option linter.unusedVariables false


def Stated : Prop := ∀ (a0_0 : Int) (a0_1 : Int) (a0_2 : Int) (a0_3 : Int) (a0_4 : Int) (w0_0 : (Lit.int .i64 a0_0).wf = true) (w0_1 : (Lit.int .i64 a0_1).wf = true) (w0_2 : (Lit.int .i64 a0_2).wf = true) (w0_3 : (Lit.int .i64 a0_3).wf = true) (w0_4 : (Lit.int .i64 a0_4).wf = true), ∃ k, laws_FnExactSuperBlock.f k a0_0 a0_1 a0_2 a0_3 a0_4 = some true
end Go.Proofs.Ytdlicabmalljpaa.PFnExactSuperBlock
