/- The law FnExactSameConf answers true for all arguments that can be read: the pure statement, without Go and memory. No condition. -/
import Derived.Test.YtkjakmbmnbjpbaaF0
import Derived.Test.YtkjakmbmnbjpbaaF29
import Derived.Test.YtkjakmbmnbjpbaaQBase
import Derived.Test.YtkjakmbmnbjpbaaQConfSame
import Derived.Test.YtkjakmbmnbjpbaaSFnExactSameConf
namespace Go.Proofs.Ytkjakmbmnbjpbaa.Print
open Go.RowKit Go.Proofs.YtkjakmbmnbjpbaaV.PrintWords Go.Proofs.YtkjakmbmnbjpbaaV.PrintLast Go.Proofs.YtkjakmbmnbjpbaaV.PrintMore
set_option linter.unusedVariables false
set_option linter.unusedSimpArgs false
theorem pure_FnExactSameConf : laws_FnExactSameConf.Pure := by
  intro p0_0 p0_1 p0_2 p0_3 p0_4 p0_5 p1_0 p1_1 p1_2 p1_3 p1_4 p1_5 hp0_0 hp0_1 hp0_2 hp0_3 hp0_4 hp0_5 hp1_0 hp1_1 hp1_2 hp1_3 hp1_4 hp1_5
  obtain ⟨r0, ⟨K0, g0⟩, le0, w0⟩ := szConf_ev (⟨p0_0, p0_1, p0_2, p0_3, p0_4, p0_5⟩ : S40) ⟨hp0_0, hp0_1, hp0_2, hp0_3, hp0_4, hp0_5⟩ 1048576 (by omega) (by omega)
  simp only at g0
  by_cases c0 : r0 < 0
  · exact ⟨K0, by simp [laws_FnExactSameConf.f, g0 (K0) (by omega), c0]⟩
  obtain ⟨r1, ⟨K1, g1⟩, le1, w1⟩ := szConf_ev (⟨p1_0, p1_1, p1_2, p1_3, p1_4, p1_5⟩ : S40) ⟨hp1_0, hp1_1, hp1_2, hp1_3, hp1_4, hp1_5⟩ r0 (by omega) (by omega)
  simp only at g1
  by_cases c1 : r1 < 0
  · exact ⟨K0 + K1, by simp [laws_FnExactSameConf.f, g0 (K0 + K1) (by omega), c0, g1 (K0 + K1) (by omega), c1]⟩
  obtain ⟨L0, f0⟩ := toConf_ev (⟨p0_0, p0_1, p0_2, p0_3, p0_4, p0_5⟩ : S40) (w0 (by omega))
  obtain ⟨L1, f1⟩ := eqConf_ev (cvConf (⟨p0_0, p0_1, p0_2, p0_3, p0_4, p0_5⟩ : S40)) (Wi_cvConf (w0 (by omega)))
  obtain ⟨L2, f2⟩ := toConf_ev (⟨p1_0, p1_1, p1_2, p1_3, p1_4, p1_5⟩ : S40) (w1 (by omega))
  obtain ⟨L3, f3⟩ := eqConf_ev (cvConf (⟨p1_0, p1_1, p1_2, p1_3, p1_4, p1_5⟩ : S40)) (Wi_cvConf (w1 (by omega)))
  obtain ⟨L4, f4⟩ := specSameConf_ev (cvConf (⟨p0_0, p0_1, p0_2, p0_3, p0_4, p0_5⟩ : S40)) (cvConf (⟨p1_0, p1_1, p1_2, p1_3, p1_4, p1_5⟩ : S40)) (Wi_cvConf (w0 (by omega)))
  obtain ⟨L5, f5⟩ := implSameConf_ev (cvConf (⟨p0_0, p0_1, p0_2, p0_3, p0_4, p0_5⟩ : S40)) (cvConf (⟨p1_0, p1_1, p1_2, p1_3, p1_4, p1_5⟩ : S40)) (Wi_cvConf (w0 (by omega)))
  have G0 := fun m => g0 (K0 + K1 + L0 + L1 + L2 + L3 + L4 + L5 + m) (by omega)
  have G1 := fun m => g1 (K0 + K1 + L0 + L1 + L2 + L3 + L4 + L5 + m) (by omega)
  have F0 := fun m => f0 (K0 + K1 + L0 + L1 + L2 + L3 + L4 + L5 + m) (by omega)
  have F1 := fun m => f1 (K0 + K1 + L0 + L1 + L2 + L3 + L4 + L5 + m) (by omega)
  have F2 := fun m => f2 (K0 + K1 + L0 + L1 + L2 + L3 + L4 + L5 + m) (by omega)
  have F3 := fun m => f3 (K0 + K1 + L0 + L1 + L2 + L3 + L4 + L5 + m) (by omega)
  have F4 := fun m => f4 (K0 + K1 + L0 + L1 + L2 + L3 + L4 + L5 + m) (by omega)
  have F5 := fun m => f5 (K0 + K1 + L0 + L1 + L2 + L3 + L4 + L5 + m) (by omega)
  simp only at F0 F1 F2 F3 F4 F5
  exact ⟨K0 + K1 + L0 + L1 + L2 + L3 + L4 + L5 + 3, by simp [laws_FnExactSameConf.f, G0, G1, F0, F1, F2, F3, F4, F5, c0, c1]⟩

end Go.Proofs.Ytkjakmbmnbjpbaa.Print
