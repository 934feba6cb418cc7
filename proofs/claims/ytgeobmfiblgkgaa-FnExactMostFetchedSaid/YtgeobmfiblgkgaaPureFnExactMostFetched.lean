/-
The pure statement of FnExactMostFetched: the printed functions of the program and of the reference answer alike for every argument within the bounds that the statement tells.
-/
import Derived.Test.YtgeobmfiblgkgaaPFnExactMostFetchedx1
import Derived.Test.YtgeobmfiblgkgaaLib
namespace Go.Proofs.Ytgeobmfiblgkgaa.Pure
open Go Go.RowKit Go.Proofs.Ytgeobmfiblgkgaa.PFnExactMostFetched Go.Proofs.YtgeobmfiblgkgaaW.PrintWords Go.Proofs.YtgeobmfiblgkgaaW.PrintLast Go.Proofs.YtgeobmfiblgkgaaW.PrintMore Go.Proofs.Ytgeobmfiblgkgaa.Lib
set_option linter.unusedVariables false
set_option linter.unusedSimpArgs false
theorem FnExactMostFetched : laws_FnExactMostFetched.Pure := by
  intro a0 a1 h0 h1
  simp only [laws_FnExactMostFetched.f, spec_MostFetched.f, impl_MostFetched.f, spec_l8Range.f, impl_isHistory.f, spec_l1In.f]
  by_cases c1 : a0 ≥ 0 <;> by_cases c2 : a0 ≤ a1 <;> by_cases c3 : a1 ≤ 60 <;> simp [c1, c2, c3]
end Go.Proofs.Ytgeobmfiblgkgaa.Pure
