/- The law FnExactBefore answers true for all arguments that can be read: the pure statement, without Go and memory. No condition. -/
import Derived.Test.YtkjakmbmnbjpbaaF0
import Derived.Test.YtkjakmbmnbjpbaaF3
import Derived.Test.YtkjakmbmnbjpbaaF5
import Derived.Test.YtkjakmbmnbjpbaaQBase
import Derived.Test.YtkjakmbmnbjpbaaQTimer
import Derived.Test.YtkjakmbmnbjpbaaQHeap
import Derived.Test.YtkjakmbmnbjpbaaSFnExactBefore
namespace Go.Proofs.Ytkjakmbmnbjpbaa.Print
open Go.RowKit Go.Proofs.YtkjakmbmnbjpbaaW.PrintWords Go.Proofs.YtkjakmbmnbjpbaaW.PrintLast Go.Proofs.YtkjakmbmnbjpbaaW.PrintMore
set_option linter.unusedVariables false
set_option linter.unusedSimpArgs false
theorem pure_FnExactBefore : laws_FnExactBefore.Pure := by
  intro a b c d _ _ _ _
  have h1 := specBefore ⟨a, b⟩ ⟨c, d⟩
  have h2 := implBefore ⟨a, b⟩ ⟨c, d⟩
  simp only at h1 h2
  simp [laws_FnExactBefore.f, laws_toTimer.f, h1, h2]

end Go.Proofs.Ytkjakmbmnbjpbaa.Print
