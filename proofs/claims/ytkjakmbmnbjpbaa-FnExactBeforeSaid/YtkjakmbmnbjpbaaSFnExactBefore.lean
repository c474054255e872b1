-- Written by printx.py, a program of this session (wip/gen), over the kit's print.py.
import Derived.Test.YtkjakmbmnbjpbaaOpen
import Derived.Test.YtkjakmbmnbjpbaaF5
namespace Go.Proofs.Ytkjakmbmnbjpbaa.Print
open Go.RowKit Go.Proofs.YtkjakmbmnbjpbaaW.PrintWords Go.Proofs.YtkjakmbmnbjpbaaW.PrintLast Go.Proofs.YtkjakmbmnbjpbaaW.PrintMore
set_option linter.unusedVariables false
/-- The pure statement of laws_FnExactBefore. -/
def laws_FnExactBefore.Pure : Prop := ∀ (a0_0 : Int) (a0_1 : Int) (a1_0 : Int) (a1_1 : Int), (Lit.int .i64 a0_0).wf = true → (Lit.int .i64 a0_1).wf = true → (Lit.int .i64 a1_0).wf = true → (Lit.int .i64 a1_1).wf = true → laws_FnExactBefore.f a0_0 a0_1 a1_0 a1_1 = some true
end Go.Proofs.Ytkjakmbmnbjpbaa.Print
