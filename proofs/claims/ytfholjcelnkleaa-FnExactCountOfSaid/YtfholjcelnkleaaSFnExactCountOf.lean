-- Written by printx.py, a program of this session (wip/gen), over the kit's print.py.
import Derived.Test.YtfholjcelnkleaaOpen
import Derived.Test.YtfholjcelnkleaaF28
namespace Go.Proofs.Ytfholjcelnkleaa.Print
open Go.RowKit Go.Proofs.YtfholjcelnkleaaV.PrintWords Go.Proofs.YtfholjcelnkleaaV.PrintLast Go.Proofs.YtfholjcelnkleaaV.PrintMore
set_option linter.unusedVariables false
/-- The pure statement of laws_FnExactCountOf. -/
def laws_FnExactCountOf.Pure : Prop := ∀ (l0 : List (S120)), (l0.length ≤ maxLen ∧ ∀ y ∈ l0, B120 y) → ∃ k, laws_FnExactCountOf.f k l0 = some true
end Go.Proofs.Ytfholjcelnkleaa.Print
