/- The law FnExactSubOk answers true for all arguments that can be read: the pure statement, without Go and memory. No condition. -/
import Derived.Test.YtmmaondenopnpaaF0
import Derived.Test.YtmmaondenopnpaaF100
import Derived.Test.YtmmaondenopnpaaQBase
import Derived.Test.YtmmaondenopnpaaQFamSub
import Derived.Test.YtmmaondenopnpaaQSubOks
import Derived.Test.YtmmaondenopnpaaSFnExactSubOk
namespace Go.Proofs.Ytmmaondenopnpaa.Print
open Go.RowKit Go.Proofs.YtmmaondenopnpaaV.PrintWords Go.Proofs.YtmmaondenopnpaaV.PrintLast Go.Proofs.YtmmaondenopnpaaV.PrintMore
set_option linter.unusedVariables false
set_option linter.unusedSimpArgs false
theorem pure_FnExactSubOk : laws_FnExactSubOk.Pure := by
  intro p0_0 p0_1 hp0_0 hp0_1
  obtain ⟨r0, ⟨K0, g0⟩, le0, w0⟩ := szSub_ev (⟨p0_0, p0_1⟩ : S24) ⟨hp0_0, hp0_1⟩ 1048576 (by omega) (by omega)
  simp only at g0
  by_cases c0 : r0 < 0
  · exact ⟨K0, by simp [laws_FnExactSubOk.f, g0 (K0) (by omega), c0]⟩
  obtain ⟨L0, f0⟩ := toSub_ev (⟨p0_0, p0_1⟩ : S24) (w0 (by omega))
  obtain ⟨L1, f1⟩ := eqSub_ev (cvSub (⟨p0_0, p0_1⟩ : S24)) (Wi_cvSub (w0 (by omega)))
  obtain ⟨L2, f2⟩ := specSubOk_ev (cvSub (⟨p0_0, p0_1⟩ : S24)) (Wi_cvSub (w0 (by omega)))
  obtain ⟨L3, f3⟩ := implSubOk_ev (cvSub (⟨p0_0, p0_1⟩ : S24)) (Wi_cvSub (w0 (by omega)))
  have G0 := fun m => g0 (K0 + L0 + L1 + L2 + L3 + m) (by omega)
  have F0 := fun m => f0 (K0 + L0 + L1 + L2 + L3 + m) (by omega)
  have F1 := fun m => f1 (K0 + L0 + L1 + L2 + L3 + m) (by omega)
  have F2 := fun m => f2 (K0 + L0 + L1 + L2 + L3 + m) (by omega)
  have F3 := fun m => f3 (K0 + L0 + L1 + L2 + L3 + m) (by omega)
  simp only at F0 F1 F2 F3
  exact ⟨K0 + L0 + L1 + L2 + L3 + 3, by simp [laws_FnExactSubOk.f, G0, F0, F1, F2, F3, c0]⟩

end Go.Proofs.Ytmmaondenopnpaa.Print
