-- Written by printx.py, a program of this session (wip/gen), over the kit's print.py.
import Derived.Test.YtfholjcelnkleaaOpen
import Derived.Test.YtfholjcelnkleaaF56
namespace Go.Proofs.Ytfholjcelnkleaa.Print
open Go.RowKit Go.Proofs.YtfholjcelnkleaaV.PrintWords Go.Proofs.YtfholjcelnkleaaV.PrintLast Go.Proofs.YtfholjcelnkleaaV.PrintMore
set_option linter.unusedVariables false
/-- The pure statement of laws_FnExactHeard. -/
def laws_FnExactHeard.Pure : Prop := ∀ (l0 : List (S34)) (l1_0 : List (S34)) (a1_1 : Bool), (l0.length ≤ maxLen ∧ ∀ y ∈ l0, B34 y) → (l1_0.length ≤ maxLen ∧ ∀ y ∈ l1_0, B34 y) → True → ∃ k, laws_FnExactHeard.f k l0 l1_0 a1_1 = some true
end Go.Proofs.Ytfholjcelnkleaa.Print
