/-
The pure statement of FnExactKeyOf: the printed functions of the program and of the reference answer alike for every argument within the bounds that the statement tells.
-/
import Derived.Test.YtgeobmfiblgkgaaWfFnExactKeyOf
namespace Go.Proofs.Ytgeobmfiblgkgaa.Pure
open Go Go.RowKit Go.Proofs.Ytgeobmfiblgkgaa.PFnExactKeyOf Go.Proofs.YtgeobmfiblgkgaaW.PrintWords Go.Proofs.YtgeobmfiblgkgaaW.PrintLast Go.Proofs.YtgeobmfiblgkgaaW.PrintMore Go.Proofs.Ytgeobmfiblgkgaa.Lib
set_option linter.unusedVariables false
set_option linter.unusedSimpArgs false
theorem FnExactKeyOf : Stated := by
  intro a0 a1 h0 h1
  simp only [laws_FnExactKeyOf.f, laws_toStratum.f, spec_KeyOf.f, impl_KeyOf.f, impl_within.f, spec_l1In.f, Option.bind_some]
  by_cases c1 : 0 ≤ a0 <;> by_cases c2 : a0 ≤ 5 <;> by_cases c3 : 0 ≤ a1 <;> by_cases c4 : a1 ≤ 63 <;> simp [c1, c2, c3, c4]
end Go.Proofs.Ytgeobmfiblgkgaa.Pure
