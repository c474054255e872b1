/- The law FnExactHeard answers true for all arguments that can be read: the pure statement, without Go and memory. No condition. -/
import Derived.Test.YtfholjcelnkleaaF0
import Derived.Test.YtfholjcelnkleaaF44
import Derived.Test.YtfholjcelnkleaaF56
import Derived.Test.YtfholjcelnkleaaQBase
import Derived.Test.YtfholjcelnkleaaQMkWi
import Derived.Test.YtfholjcelnkleaaQFamSub
import Derived.Test.YtfholjcelnkleaaQMapAlarm
import Derived.Test.YtfholjcelnkleaaQSubs
import Derived.Test.YtfholjcelnkleaaSFnExactHeard
namespace Go.Proofs.Ytfholjcelnkleaa.Print
open Go.RowKit Go.Proofs.YtfholjcelnkleaaV.PrintWords Go.Proofs.YtfholjcelnkleaaV.PrintLast Go.Proofs.YtfholjcelnkleaaV.PrintMore
set_option linter.unusedVariables false
set_option linter.unusedSimpArgs false
theorem pure_FnExactHeard : laws_FnExactHeard.Pure := by
  intro p0 p1_0 p1_1 hp0 hp1_0 hp1_1
  obtain ⟨r0, ⟨K0, g0⟩, le0, w0⟩ := szAlarmS_ev p0 hp0 1048576 (by omega) (by omega)
  simp only at g0
  by_cases c0 : r0 < 0
  · exact ⟨K0, by simp [laws_FnExactHeard.f, g0 (K0) (by omega), c0]⟩
  obtain ⟨r1, ⟨K1, g1⟩, le1, w1⟩ := szSub_ev (⟨p1_0, p1_1⟩ : S31) ⟨hp1_0, hp1_1⟩ r0 (by omega) (by omega)
  simp only at g1
  by_cases c1 : r1 < 0
  · exact ⟨K0 + K1, by simp [laws_FnExactHeard.f, g0 (K0 + K1) (by omega), c0, g1 (K0 + K1) (by omega), c1]⟩
  obtain ⟨g, hg, hw⟩ : ∃ g, heard (p0.map cvAlarm) (cvSub (⟨p1_0, p1_1⟩ : S31)) = g ∧ (g.length ≤ 4000000 ∧ ∀ y ∈ g, WiAlarm y) := ⟨_, rfl, heard_wi (Wi_mapAlarm (w0 (by omega))) (Wi_cvSub (w1 (by omega)))⟩
  have b0 := cnAlarms_wi (Wi_mapAlarm (w0 (by omega)))
  have n0 : ((1 + (cnAlarms (p0.map cvAlarm) : Int)) < 0) = False := eq_false (by omega)
  have b1 := cnAlarms_wi (Wi_cvSub (w1 (by omega))).1
  have n1 : (((1 + (cnAlarms (p0.map cvAlarm) : Int)) + (cnAlarms (cvSub (⟨p1_0, p1_1⟩ : S31)).f0 : Int)) < 0) = False := eq_false (by omega)
  have b2 := cnAlarms_wi hw
  have n2 : ((1 + (cnAlarms g : Int)) < 0) = False := eq_false (by omega)
  obtain ⟨L0, f0⟩ := toAlarmS_ev p0 (w0 (by omega))
  obtain ⟨L1, f1⟩ := eqAlarmS_ev (p0.map cvAlarm) (Wi_mapAlarm (w0 (by omega)))
  obtain ⟨L2, f2⟩ := toSub_ev (⟨p1_0, p1_1⟩ : S31) (w1 (by omega))
  obtain ⟨L3, f3⟩ := eqSub_ev (cvSub (⟨p1_0, p1_1⟩ : S31)) (Wi_cvSub (w1 (by omega)))
  obtain ⟨L4, f4⟩ := hg ▸ specHeard_ev (p0.map cvAlarm) (cvSub (⟨p1_0, p1_1⟩ : S31)) (okl_wi (Wi_mapAlarm (w0 (by omega)))) (ok_wi (Wi_cvSub (w1 (by omega))))
  obtain ⟨L5, f5⟩ := hg ▸ implHeard_ev (p0.map cvAlarm) (cvSub (⟨p1_0, p1_1⟩ : S31)) (okl_wi (Wi_mapAlarm (w0 (by omega)))) (ok_wi (Wi_cvSub (w1 (by omega))))
  obtain ⟨L6, f6⟩ := markAlarmS_ev (p0.map cvAlarm) 1 (by omega) (by omega)
  obtain ⟨L7, f7⟩ := markAlarmS_ev (cvSub (⟨p1_0, p1_1⟩ : S31)).f0 (1 + (cnAlarms (p0.map cvAlarm) : Int)) (by omega) (by omega)
  obtain ⟨L8, f8⟩ := eqAlarmS_ev g hw
  obtain ⟨L9, f9⟩ := markAlarmS_ev g 1 (by omega) (by omega)
  obtain ⟨L10, f10⟩ := heldAlarmS_ev g 1 (by omega) (by omega)
  have G0 := fun m => g0 (K0 + K1 + L0 + L1 + L2 + L3 + L4 + L5 + L6 + L7 + L8 + L9 + L10 + m) (by omega)
  have G1 := fun m => g1 (K0 + K1 + L0 + L1 + L2 + L3 + L4 + L5 + L6 + L7 + L8 + L9 + L10 + m) (by omega)
  have F0 := fun m => f0 (K0 + K1 + L0 + L1 + L2 + L3 + L4 + L5 + L6 + L7 + L8 + L9 + L10 + m) (by omega)
  have F1 := fun m => f1 (K0 + K1 + L0 + L1 + L2 + L3 + L4 + L5 + L6 + L7 + L8 + L9 + L10 + m) (by omega)
  have F2 := fun m => f2 (K0 + K1 + L0 + L1 + L2 + L3 + L4 + L5 + L6 + L7 + L8 + L9 + L10 + m) (by omega)
  have F3 := fun m => f3 (K0 + K1 + L0 + L1 + L2 + L3 + L4 + L5 + L6 + L7 + L8 + L9 + L10 + m) (by omega)
  have F4 := fun m => f4 (K0 + K1 + L0 + L1 + L2 + L3 + L4 + L5 + L6 + L7 + L8 + L9 + L10 + m) (by omega)
  have F5 := fun m => f5 (K0 + K1 + L0 + L1 + L2 + L3 + L4 + L5 + L6 + L7 + L8 + L9 + L10 + m) (by omega)
  have F6 := fun m => f6 (K0 + K1 + L0 + L1 + L2 + L3 + L4 + L5 + L6 + L7 + L8 + L9 + L10 + m) (by omega)
  have F7 := fun m => f7 (K0 + K1 + L0 + L1 + L2 + L3 + L4 + L5 + L6 + L7 + L8 + L9 + L10 + m) (by omega)
  have F8 := fun m => f8 (K0 + K1 + L0 + L1 + L2 + L3 + L4 + L5 + L6 + L7 + L8 + L9 + L10 + m) (by omega)
  have F9 := fun m => f9 (K0 + K1 + L0 + L1 + L2 + L3 + L4 + L5 + L6 + L7 + L8 + L9 + L10 + m) (by omega)
  have F10 := fun m => f10 (K0 + K1 + L0 + L1 + L2 + L3 + L4 + L5 + L6 + L7 + L8 + L9 + L10 + m) (by omega)
  simp only at F0 F1 F2 F3 F4 F5 F6 F7 F8 F9 F10
  exact ⟨K0 + K1 + L0 + L1 + L2 + L3 + L4 + L5 + L6 + L7 + L8 + L9 + L10 + 3, by simp [laws_FnExactHeard.f, laws_markSub.f, G0, G1, F0, F1, F2, F3, F4, F5, F6, F7, F8, F9, F10, c0, c1, n0, n1, n2]⟩

end Go.Proofs.Ytfholjcelnkleaa.Print
