-- Written by printx.py, a program of this session (wip/gen), over the kit's print.py.
import Derived.Test.YtmmaondenopnpaaOpen
import Derived.Test.YtmmaondenopnpaaF104
namespace Go.Proofs.Ytmmaondenopnpaa.Print
open Go.RowKit Go.Proofs.YtmmaondenopnpaaV.PrintWords Go.Proofs.YtmmaondenopnpaaV.PrintLast Go.Proofs.YtmmaondenopnpaaV.PrintMore
set_option linter.unusedVariables false
/-- The pure statement of laws_FnExactMemberOf. -/
def laws_FnExactMemberOf.Pure : Prop := ∀ (l0 : List (S64)) (l1 : List (S115)), (l0.length ≤ maxLen ∧ ∀ y ∈ l0, B64 y) → (l1.length ≤ maxLen ∧ ∀ y ∈ l1, B115 y) → ∃ k, laws_FnExactMemberOf.f k l0 l1 = some true
end Go.Proofs.Ytmmaondenopnpaa.Print
