-- Written by printx.py, a program of this session (wip/gen), over the kit's print.py.
import Derived.Test.YtkjakmbmnbjpbaaOpen
import Derived.Test.YtkjakmbmnbjpbaaF18
namespace Go.Proofs.Ytkjakmbmnbjpbaa.Print
open Go.RowKit Go.Proofs.YtkjakmbmnbjpbaaW.PrintWords Go.Proofs.YtkjakmbmnbjpbaaW.PrintLast Go.Proofs.YtkjakmbmnbjpbaaW.PrintMore
set_option linter.unusedVariables false
/-- The pure statement of laws_FnExactHeapPut. -/
def laws_FnExactHeapPut.Pure : Prop := ∀ (l0 : List (S23)) (a1_0 : Int) (a1_1 : Int), (l0.length ≤ maxLen ∧ ∀ y ∈ l0, B23 y) → (Lit.int .i64 a1_0).wf = true → (Lit.int .i64 a1_1).wf = true → ∃ k, laws_FnExactHeapPut.f k l0 a1_0 a1_1 = some true
end Go.Proofs.Ytkjakmbmnbjpbaa.Print
