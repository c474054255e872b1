-- Written by printx.py, a program of this session (wip/gen), over the kit's print.py.
import Derived.Test.YtkjakmbmnbjpbaaOpen
import Derived.Test.YtkjakmbmnbjpbaaF59
namespace Go.Proofs.Ytkjakmbmnbjpbaa.Print
open Go.RowKit Go.Proofs.YtkjakmbmnbjpbaaV.PrintWords Go.Proofs.YtkjakmbmnbjpbaaV.PrintLast Go.Proofs.YtkjakmbmnbjpbaaV.PrintMore
set_option linter.unusedVariables false
/-- The pure statement of laws_FnExactSorted. -/
def laws_FnExactSorted.Pure : Prop := ∀ (l0 : List (S23)), (l0.length ≤ maxLen ∧ ∀ y ∈ l0, B23 y) → ∃ k, laws_FnExactSorted.f k l0 = some true
end Go.Proofs.Ytkjakmbmnbjpbaa.Print
