-- Written by printx.py, a program of this session (wip/gen), over the kit's print.py.
import Derived.Test.YtmmaondenopnpaaOpen
import Derived.Test.YtmmaondenopnpaaF55
namespace Go.Proofs.Ytmmaondenopnpaa.Print
open Go.RowKit Go.Proofs.YtmmaondenopnpaaV.PrintWords Go.Proofs.YtmmaondenopnpaaV.PrintLast Go.Proofs.YtmmaondenopnpaaV.PrintMore
set_option linter.unusedVariables false
/-- The pure statement of laws_FnExactSameGroup. -/
def laws_FnExactSameGroup.Pure : Prop := ∀ (a0_0 : Int) (l0_1 : List (S115)) (a0_2 : Int) (a0_3 : Int) (l0_4 : List (S50)) (a1_0 : Int) (l1_1 : List (S115)) (a1_2 : Int) (a1_3 : Int) (l1_4 : List (S50)), (Lit.int .i64 a0_0).wf = true → (l0_1.length ≤ maxLen ∧ ∀ y ∈ l0_1, B115 y) → (Lit.int .i64 a0_2).wf = true → (Lit.int .i64 a0_3).wf = true → (l0_4.length ≤ maxLen ∧ ∀ y ∈ l0_4, B50 y) → (Lit.int .i64 a1_0).wf = true → (l1_1.length ≤ maxLen ∧ ∀ y ∈ l1_1, B115 y) → (Lit.int .i64 a1_2).wf = true → (Lit.int .i64 a1_3).wf = true → (l1_4.length ≤ maxLen ∧ ∀ y ∈ l1_4, B50 y) → ∃ k, laws_FnExactSameGroup.f k a0_0 l0_1 a0_2 a0_3 l0_4 a1_0 l1_1 a1_2 a1_3 l1_4 = some true
end Go.Proofs.Ytmmaondenopnpaa.Print
