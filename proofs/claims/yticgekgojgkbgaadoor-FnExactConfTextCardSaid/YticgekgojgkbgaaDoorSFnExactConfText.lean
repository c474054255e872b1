-- Written by printx.py, a program of this session (wip/gen), over the kit's print.py.
import Derived.Test.YticgekgojgkbgaaDoorOpen
import Derived.Test.YticgekgojgkbgaaDoorF44
namespace Go.Proofs.YticgekgojgkbgaaDoor.Print
open Go.RowKit Go.Proofs.YticgekgojgkbgaaDoorV.PrintWords Go.Proofs.YticgekgojgkbgaaDoorV.PrintLast Go.Proofs.YticgekgojgkbgaaDoorV.PrintMore
set_option linter.unusedVariables false
/-- The pure statement of laws_FnExactConfText. -/
def laws_FnExactConfText.Pure : Prop := ∀ (a0_0 : Int) (a0_1 : Int) (a0_2 : Int) (a0_3 : Int) (a0_4 : Int) (l0_5 : List ByteArray), (Lit.int .i64 a0_0).wf = true → (Lit.int .i64 a0_1).wf = true → (Lit.int .i64 a0_2).wf = true → (Lit.int .i64 a0_3).wf = true → (Lit.int .i64 a0_4).wf = true → (l0_5.length ≤ maxLen ∧ ∀ y ∈ l0_5, y.size ≤ maxLen) → ∃ k, laws_FnExactConfText.f k a0_0 a0_1 a0_2 a0_3 a0_4 l0_5 = some true
end Go.Proofs.YticgekgojgkbgaaDoor.Print
