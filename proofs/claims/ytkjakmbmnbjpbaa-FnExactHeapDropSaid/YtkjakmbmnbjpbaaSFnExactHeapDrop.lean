-- Written by printx.py, a program of this session (wip/gen), over the kit's print.py.
import Derived.Test.YtkjakmbmnbjpbaaOpen
import Derived.Test.YtkjakmbmnbjpbaaF32
namespace Go.Proofs.Ytkjakmbmnbjpbaa.Print
open Go.RowKit Go.Proofs.YtkjakmbmnbjpbaaV.PrintWords Go.Proofs.YtkjakmbmnbjpbaaV.PrintLast Go.Proofs.YtkjakmbmnbjpbaaV.PrintMore
set_option linter.unusedVariables false
/-- The pure statement of laws_FnExactHeapDrop. -/
def laws_FnExactHeapDrop.Pure : Prop := ∀ (l0 : List (S23)) (a1 : Int), (l0.length ≤ maxLen ∧ ∀ y ∈ l0, B23 y) → (Lit.int .i64 a1).wf = true → ∃ k, laws_FnExactHeapDrop.f k l0 a1 = some true
end Go.Proofs.Ytkjakmbmnbjpbaa.Print
