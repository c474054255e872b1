/- The law FnExactCountOf answers true for all arguments that can be read: the pure statement, without Go and memory. No condition. -/
import Derived.Test.YtfholjcelnkleaaF0
import Derived.Test.YtfholjcelnkleaaF28
import Derived.Test.YtfholjcelnkleaaQBase
import Derived.Test.YtfholjcelnkleaaQFamPartS
import Derived.Test.YtfholjcelnkleaaQMapPart
import Derived.Test.YtfholjcelnkleaaQCount
import Derived.Test.YtfholjcelnkleaaSFnExactCountOf
namespace Go.Proofs.Ytfholjcelnkleaa.Print
open Go.RowKit Go.Proofs.YtfholjcelnkleaaV.PrintWords Go.Proofs.YtfholjcelnkleaaV.PrintLast Go.Proofs.YtfholjcelnkleaaV.PrintMore
set_option linter.unusedVariables false
set_option linter.unusedSimpArgs false
theorem pure_FnExactCountOf : laws_FnExactCountOf.Pure := by
  intro p0 hp0
  obtain ⟨r0, ⟨K0, g0⟩, le0, w0⟩ := szPartS_ev p0 hp0 1048576 (by omega) (by omega)
  simp only at g0
  by_cases c0 : r0 < 0
  · exact ⟨K0, by simp [laws_FnExactCountOf.f, g0 (K0) (by omega), c0]⟩
  obtain ⟨L0, f0⟩ := toPartS_ev p0 (w0 (by omega))
  obtain ⟨L1, f1⟩ := eqPartS_ev (p0.map cvPart) (Wi_mapPart (w0 (by omega)))
  obtain ⟨L2, f2⟩ := specCountOf_ev (p0.map cvPart) (Wi_mapPart (w0 (by omega)))
  obtain ⟨L3, f3⟩ := implCountOf_ev (p0.map cvPart) (Wi_mapPart (w0 (by omega)))
  have G0 := fun m => g0 (K0 + L0 + L1 + L2 + L3 + m) (by omega)
  have F0 := fun m => f0 (K0 + L0 + L1 + L2 + L3 + m) (by omega)
  have F1 := fun m => f1 (K0 + L0 + L1 + L2 + L3 + m) (by omega)
  have F2 := fun m => f2 (K0 + L0 + L1 + L2 + L3 + m) (by omega)
  have F3 := fun m => f3 (K0 + L0 + L1 + L2 + L3 + m) (by omega)
  simp only at F0 F1 F2 F3
  exact ⟨K0 + L0 + L1 + L2 + L3 + 3, by simp [laws_FnExactCountOf.f, G0, F0, F1, F2, F3, c0]⟩

end Go.Proofs.Ytfholjcelnkleaa.Print
