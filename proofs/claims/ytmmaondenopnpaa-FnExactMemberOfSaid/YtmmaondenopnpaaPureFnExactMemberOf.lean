/- The law FnExactMemberOf answers true for all arguments that can be read: the pure statement, without Go and memory. No condition. -/
import Derived.Test.YtmmaondenopnpaaF0
import Derived.Test.YtmmaondenopnpaaF104
import Derived.Test.YtmmaondenopnpaaQBase
import Derived.Test.YtmmaondenopnpaaQFamGroupS
import Derived.Test.YtmmaondenopnpaaQMaps
import Derived.Test.YtmmaondenopnpaaQGroups
import Derived.Test.YtmmaondenopnpaaSFnExactMemberOf
namespace Go.Proofs.Ytmmaondenopnpaa.Print
open Go.RowKit Go.Proofs.YtmmaondenopnpaaV.PrintWords Go.Proofs.YtmmaondenopnpaaV.PrintLast Go.Proofs.YtmmaondenopnpaaV.PrintMore
set_option linter.unusedVariables false
set_option linter.unusedSimpArgs false
theorem pure_FnExactMemberOf : laws_FnExactMemberOf.Pure := by
  intro p0 p1 hp0 hp1
  obtain ⟨r0, ⟨K0, g0⟩, le0, w0⟩ := szGroupS_ev p0 hp0 1048576 (by omega) (by omega)
  simp only at g0
  by_cases c0 : r0 < 0
  · exact ⟨K0, by simp [laws_FnExactMemberOf.f, g0 (K0) (by omega), c0]⟩
  obtain ⟨r1, ⟨K1, g1⟩, le1, w1⟩ := szLabelS_ev p1 hp1 r0 (by omega) (by omega)
  simp only at g1
  by_cases c1 : r1 < 0
  · exact ⟨K0 + K1, by simp [laws_FnExactMemberOf.f, g0 (K0 + K1) (by omega), c0, g1 (K0 + K1) (by omega), c1]⟩
  obtain ⟨L0, f0⟩ := toGroupS_ev p0 (w0 (by omega))
  obtain ⟨L1, f1⟩ := eqGroupS_ev (p0.map cvGroup) (Wi_mapGroup (w0 (by omega)))
  obtain ⟨L2, f2⟩ := toLabelS_ev p1 (w1 (by omega))
  obtain ⟨L3, f3⟩ := eqLabelS_ev (p1.map cvLabel) (Wi_mapLabel (w1 (by omega)))
  obtain ⟨L4, f4⟩ := specMemberOf_ev (p0.map cvGroup) (p1.map cvLabel) (Wi_mapGroup (w0 (by omega)))
  obtain ⟨L5, f5⟩ := implMemberOf_ev (p0.map cvGroup) (p1.map cvLabel) (Wi_mapGroup (w0 (by omega)))
  have G0 := fun m => g0 (K0 + K1 + L0 + L1 + L2 + L3 + L4 + L5 + m) (by omega)
  have G1 := fun m => g1 (K0 + K1 + L0 + L1 + L2 + L3 + L4 + L5 + m) (by omega)
  have F0 := fun m => f0 (K0 + K1 + L0 + L1 + L2 + L3 + L4 + L5 + m) (by omega)
  have F1 := fun m => f1 (K0 + K1 + L0 + L1 + L2 + L3 + L4 + L5 + m) (by omega)
  have F2 := fun m => f2 (K0 + K1 + L0 + L1 + L2 + L3 + L4 + L5 + m) (by omega)
  have F3 := fun m => f3 (K0 + K1 + L0 + L1 + L2 + L3 + L4 + L5 + m) (by omega)
  have F4 := fun m => f4 (K0 + K1 + L0 + L1 + L2 + L3 + L4 + L5 + m) (by omega)
  have F5 := fun m => f5 (K0 + K1 + L0 + L1 + L2 + L3 + L4 + L5 + m) (by omega)
  simp only at F0 F1 F2 F3 F4 F5
  exact ⟨K0 + K1 + L0 + L1 + L2 + L3 + L4 + L5 + 3, by simp [laws_FnExactMemberOf.f, G0, G1, F0, F1, F2, F3, F4, F5, c0, c1]⟩

end Go.Proofs.Ytmmaondenopnpaa.Print
