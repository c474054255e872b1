/- The law FnExactNextDue answers true for all arguments that can be read: the pure statement, without Go and memory. No condition. -/
import Derived.Test.YtkjakmbmnbjpbaaF0
import Derived.Test.YtkjakmbmnbjpbaaF65
import Derived.Test.YtkjakmbmnbjpbaaF71
import Derived.Test.YtkjakmbmnbjpbaaF77
import Derived.Test.YtkjakmbmnbjpbaaQBase
import Derived.Test.YtkjakmbmnbjpbaaQFamGroup
import Derived.Test.YtkjakmbmnbjpbaaSFnExactNextDue
namespace Go.Proofs.Ytkjakmbmnbjpbaa.Print
open Go.RowKit Go.Proofs.YtkjakmbmnbjpbaaV.PrintWords Go.Proofs.YtkjakmbmnbjpbaaV.PrintLast Go.Proofs.YtkjakmbmnbjpbaaV.PrintMore
set_option linter.unusedVariables false
set_option linter.unusedSimpArgs false
theorem pure_FnExactNextDue : laws_FnExactNextDue.Pure := by
  intro p0_0 p0_1 p0_2 p0_3 p0_4 p1 p2 hp0_0 hp0_1 hp0_2 hp0_3 hp0_4 hp1 hp2
  obtain ⟨r0, ⟨K0, g0⟩, le0, w0⟩ := szGroup_ev (⟨p0_0, p0_1, p0_2, p0_3, p0_4⟩ : S60) ⟨hp0_0, hp0_1, hp0_2, hp0_3, hp0_4⟩ 1048576 (by omega) (by omega)
  simp only at g0
  by_cases c0 : r0 < 0
  · exact ⟨K0, by simp [laws_FnExactNextDue.f, g0 (K0) (by omega), c0]⟩
  obtain ⟨b, hs, hi⟩ : ∃ b, spec_NextDue.f (cvGroup (⟨p0_0, p0_1, p0_2, p0_3, p0_4⟩ : S60)).f0 (cvGroup (⟨p0_0, p0_1, p0_2, p0_3, p0_4⟩ : S60)).f1 (cvGroup (⟨p0_0, p0_1, p0_2, p0_3, p0_4⟩ : S60)).f2 (cvGroup (⟨p0_0, p0_1, p0_2, p0_3, p0_4⟩ : S60)).f3 (cvGroup (⟨p0_0, p0_1, p0_2, p0_3, p0_4⟩ : S60)).f4 p1 p2 = some b ∧ impl_NextDue.f (cvGroup (⟨p0_0, p0_1, p0_2, p0_3, p0_4⟩ : S60)).f0 (cvGroup (⟨p0_0, p0_1, p0_2, p0_3, p0_4⟩ : S60)).f1 (cvGroup (⟨p0_0, p0_1, p0_2, p0_3, p0_4⟩ : S60)).f2 (cvGroup (⟨p0_0, p0_1, p0_2, p0_3, p0_4⟩ : S60)).f3 (cvGroup (⟨p0_0, p0_1, p0_2, p0_3, p0_4⟩ : S60)).f4 p1 p2 = some b := by
    unfold spec_NextDue.f impl_NextDue.f
    split <;> exact ⟨_, rfl, rfl⟩
  obtain ⟨L0, f0⟩ := toGroup_ev (⟨p0_0, p0_1, p0_2, p0_3, p0_4⟩ : S60) (w0 (by omega))
  obtain ⟨L1, f1⟩ := eqGroup_ev (cvGroup (⟨p0_0, p0_1, p0_2, p0_3, p0_4⟩ : S60)) (Wi_cvGroup (w0 (by omega)))
  have G0 := fun m => g0 (K0 + L0 + L1 + m) (by omega)
  have F0 := fun m => f0 (K0 + L0 + L1 + m) (by omega)
  have F1 := fun m => f1 (K0 + L0 + L1 + m) (by omega)
  simp only at F0 F1
  exact ⟨K0 + L0 + L1 + 3, by simp [laws_FnExactNextDue.f, G0, F0, F1, c0, hs, hi]⟩

end Go.Proofs.Ytkjakmbmnbjpbaa.Print
