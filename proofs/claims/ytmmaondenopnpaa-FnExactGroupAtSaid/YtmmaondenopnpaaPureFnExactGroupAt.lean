/- The law FnExactGroupAt answers true for all arguments that can be read: the pure statement, without Go and memory. No condition. -/
import Derived.Test.YtmmaondenopnpaaF0
import Derived.Test.YtmmaondenopnpaaF34
import Derived.Test.YtmmaondenopnpaaQBase
import Derived.Test.YtmmaondenopnpaaQFamGroupS
import Derived.Test.YtmmaondenopnpaaQMaps
import Derived.Test.YtmmaondenopnpaaQGroups
import Derived.Test.YtmmaondenopnpaaSFnExactGroupAt
namespace Go.Proofs.Ytmmaondenopnpaa.Print
open Go.RowKit Go.Proofs.YtmmaondenopnpaaV.PrintWords Go.Proofs.YtmmaondenopnpaaV.PrintLast Go.Proofs.YtmmaondenopnpaaV.PrintMore
set_option linter.unusedVariables false
set_option linter.unusedSimpArgs false
theorem pure_FnExactGroupAt : laws_FnExactGroupAt.Pure := by
  intro p0 p1 hp0 hp1
  obtain ⟨r0, ⟨K0, g0⟩, le0, w0⟩ := szGroupS_ev p0 hp0 1048576 (by omega) (by omega)
  simp only at g0
  by_cases c0 : r0 < 0
  · exact ⟨K0, by simp [laws_FnExactGroupAt.f, g0 (K0) (by omega), c0]⟩
  obtain ⟨L0, f0⟩ := toGroupS_ev p0 (w0 (by omega))
  obtain ⟨L1, f1⟩ := eqGroupS_ev (p0.map cvGroup) (Wi_mapGroup (w0 (by omega)))
  obtain ⟨L2, f2⟩ := specGroupAt_ev (p0.map cvGroup) p1 (Wi_mapGroup (w0 (by omega)))
  obtain ⟨L3, f3⟩ := implGroupAt_ev (p0.map cvGroup) p1 (Wi_mapGroup (w0 (by omega)))
  have G0 := fun m => g0 (K0 + L0 + L1 + L2 + L3 + m) (by omega)
  have F0 := fun m => f0 (K0 + L0 + L1 + L2 + L3 + m) (by omega)
  have F1 := fun m => f1 (K0 + L0 + L1 + L2 + L3 + m) (by omega)
  have F2 := fun m => f2 (K0 + L0 + L1 + L2 + L3 + m) (by omega)
  have F3 := fun m => f3 (K0 + L0 + L1 + L2 + L3 + m) (by omega)
  simp only at F0 F1 F2 F3
  exact ⟨K0 + L0 + L1 + L2 + L3 + 3, by simp [laws_FnExactGroupAt.f, G0, F0, F1, F2, F3, c0]⟩

end Go.Proofs.Ytmmaondenopnpaa.Print
