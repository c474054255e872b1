-- Written by printx.py, a program of this session (wip/gen), over the kit's print.py.
import Derived.Test.YtmmaondenopnpaaOpen
import Derived.Test.YtmmaondenopnpaaF34
namespace Go.Proofs.Ytmmaondenopnpaa.Print
open Go.RowKit Go.Proofs.YtmmaondenopnpaaV.PrintWords Go.Proofs.YtmmaondenopnpaaV.PrintLast Go.Proofs.YtmmaondenopnpaaV.PrintMore
set_option linter.unusedVariables false
/-- The pure statement of laws_FnExactGroupAt. -/
def laws_FnExactGroupAt.Pure : Prop := ∀ (l0 : List (S64)) (a1 : Int), (l0.length ≤ maxLen ∧ ∀ y ∈ l0, B64 y) → (Lit.int .i64 a1).wf = true → ∃ k, laws_FnExactGroupAt.f k l0 a1 = some true
end Go.Proofs.Ytmmaondenopnpaa.Print
