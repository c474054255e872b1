/- The law FnExactConfOk answers true for all arguments that can be read: the pure statement, without Go and memory. No condition. -/
import Derived.Test.YtkjakmbmnbjpbaaF0
import Derived.Test.YtkjakmbmnbjpbaaF57
import Derived.Test.YtkjakmbmnbjpbaaQBase
import Derived.Test.YtkjakmbmnbjpbaaQConfs
import Derived.Test.YtkjakmbmnbjpbaaSFnExactConfOk
namespace Go.Proofs.Ytkjakmbmnbjpbaa.Print
open Go.RowKit Go.Proofs.YtkjakmbmnbjpbaaV.PrintWords Go.Proofs.YtkjakmbmnbjpbaaV.PrintLast Go.Proofs.YtkjakmbmnbjpbaaV.PrintMore
set_option linter.unusedVariables false
set_option linter.unusedSimpArgs false
theorem pure_FnExactConfOk : laws_FnExactConfOk.Pure := by
  intro p0_0 p0_1 p0_2 p0_3 p0_4 p0_5 hp0_0 hp0_1 hp0_2 hp0_3 hp0_4 hp0_5
  obtain ⟨r0, ⟨K0, g0⟩, le0, w0⟩ := szConf_ev (⟨p0_0, p0_1, p0_2, p0_3, p0_4, p0_5⟩ : S40) ⟨hp0_0, hp0_1, hp0_2, hp0_3, hp0_4, hp0_5⟩ 1048576 (by omega) (by omega)
  simp only at g0
  by_cases c0 : r0 < 0
  · exact ⟨K0, by simp [laws_FnExactConfOk.f, g0 (K0) (by omega), c0]⟩
  obtain ⟨L0, f0⟩ := toConf_ev (⟨p0_0, p0_1, p0_2, p0_3, p0_4, p0_5⟩ : S40) (w0 (by omega))
  obtain ⟨L1, f1⟩ := eqConf_ev (cvConf (⟨p0_0, p0_1, p0_2, p0_3, p0_4, p0_5⟩ : S40)) (Wi_cvConf (w0 (by omega)))
  obtain ⟨L2, f2⟩ := specConfOk_ev (cvConf (⟨p0_0, p0_1, p0_2, p0_3, p0_4, p0_5⟩ : S40)) (Wi_cvConf (w0 (by omega)))
  obtain ⟨L3, f3⟩ := implConfOk_ev (cvConf (⟨p0_0, p0_1, p0_2, p0_3, p0_4, p0_5⟩ : S40)) (Wi_cvConf (w0 (by omega)))
  have G0 := fun m => g0 (K0 + L0 + L1 + L2 + L3 + m) (by omega)
  have F0 := fun m => f0 (K0 + L0 + L1 + L2 + L3 + m) (by omega)
  have F1 := fun m => f1 (K0 + L0 + L1 + L2 + L3 + m) (by omega)
  have F2 := fun m => f2 (K0 + L0 + L1 + L2 + L3 + m) (by omega)
  have F3 := fun m => f3 (K0 + L0 + L1 + L2 + L3 + m) (by omega)
  simp only at F0 F1 F2 F3
  exact ⟨K0 + L0 + L1 + L2 + L3 + 3, by simp [laws_FnExactConfOk.f, G0, F0, F1, F2, F3, c0]⟩

end Go.Proofs.Ytkjakmbmnbjpbaa.Print
