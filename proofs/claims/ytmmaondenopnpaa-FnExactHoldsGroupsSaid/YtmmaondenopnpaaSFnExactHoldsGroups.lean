-- Written by printx.py, a program of this session (wip/gen), over the kit's print.py.
import Derived.Test.YtmmaondenopnpaaOpen
import Derived.Test.YtmmaondenopnpaaF49
namespace Go.Proofs.Ytmmaondenopnpaa.Print
open Go.RowKit Go.Proofs.YtmmaondenopnpaaV.PrintWords Go.Proofs.YtmmaondenopnpaaV.PrintLast Go.Proofs.YtmmaondenopnpaaV.PrintMore
set_option linter.unusedVariables false
/-- The pure statement of laws_FnExactHoldsGroups. -/
def laws_FnExactHoldsGroups.Pure : Prop := ∀ (a0_0 : Int) (a0_1 : Int) (l0_2 : List (S115)) (a0_3 : Int) (a0_4 : Int) (a0_5 : ByteArray) (l0_6 : List (S115)) (a0_7 : Int) (l0_8 : List Int) (l0_9 : List (S50)) (a0_10 : Int) (a0_11 : Int), (Lit.int .i64 a0_0).wf = true → (Lit.int .i64 a0_1).wf = true → (l0_2.length ≤ maxLen ∧ ∀ y ∈ l0_2, B115 y) → (Lit.int .i64 a0_3).wf = true → (Lit.int .i64 a0_4).wf = true → a0_5.size ≤ maxLen → (l0_6.length ≤ maxLen ∧ ∀ y ∈ l0_6, B115 y) → (Lit.int .i64 a0_7).wf = true → (l0_8.length ≤ maxLen ∧ ∀ y ∈ l0_8, (Lit.int .i64 y).wf = true) → (l0_9.length ≤ maxLen ∧ ∀ y ∈ l0_9, B50 y) → (Lit.int .i64 a0_10).wf = true → (Lit.int .i64 a0_11).wf = true → ∃ k, laws_FnExactHoldsGroups.f k a0_0 a0_1 l0_2 a0_3 a0_4 a0_5 l0_6 a0_7 l0_8 l0_9 a0_10 a0_11 = some true
end Go.Proofs.Ytmmaondenopnpaa.Print
