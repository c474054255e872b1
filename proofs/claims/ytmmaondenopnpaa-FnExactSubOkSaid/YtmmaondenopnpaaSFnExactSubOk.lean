-- Written by printx.py, a program of this session (wip/gen), over the kit's print.py.
import Derived.Test.YtmmaondenopnpaaOpen
import Derived.Test.YtmmaondenopnpaaF100
namespace Go.Proofs.Ytmmaondenopnpaa.Print
open Go.RowKit Go.Proofs.YtmmaondenopnpaaV.PrintWords Go.Proofs.YtmmaondenopnpaaV.PrintLast Go.Proofs.YtmmaondenopnpaaV.PrintMore
set_option linter.unusedVariables false
/-- The pure statement of laws_FnExactSubOk. -/
def laws_FnExactSubOk.Pure : Prop := ∀ (l0_0 : List (S50)) (a0_1 : Bool), (l0_0.length ≤ maxLen ∧ ∀ y ∈ l0_0, B50 y) → True → ∃ k, laws_FnExactSubOk.f k l0_0 a0_1 = some true
end Go.Proofs.Ytmmaondenopnpaa.Print
