/- The law FnExactWantsGroups answers true for all arguments that can be read: the pure statement, without Go and memory. No condition. -/
import Derived.Test.YtmmaondenopnpaaF0
import Derived.Test.YtmmaondenopnpaaF50
import Derived.Test.YtmmaondenopnpaaF51
import Derived.Test.YtmmaondenopnpaaF52
import Derived.Test.YtmmaondenopnpaaQBase
import Derived.Test.YtmmaondenopnpaaQFamTask
import Derived.Test.YtmmaondenopnpaaSFnExactWantsGroups
namespace Go.Proofs.Ytmmaondenopnpaa.Print
open Go.RowKit Go.Proofs.YtmmaondenopnpaaV.PrintWords Go.Proofs.YtmmaondenopnpaaV.PrintLast Go.Proofs.YtmmaondenopnpaaV.PrintMore
set_option linter.unusedVariables false
set_option linter.unusedSimpArgs false
theorem pure_FnExactWantsGroups : laws_FnExactWantsGroups.Pure := by
  intro p0_0 p0_1 p0_2 p0_3 p0_4 p0_5 p0_6 p0_7 p0_8 p0_9 p0_10 p0_11 hp0_0 hp0_1 hp0_2 hp0_3 hp0_4 hp0_5 hp0_6 hp0_7 hp0_8 hp0_9 hp0_10 hp0_11
  obtain ⟨r0, ⟨K0, g0⟩, le0, w0⟩ := szTask_ev (⟨p0_0, p0_1, ⟨p0_2, p0_3, p0_4, p0_5⟩, p0_6, p0_7, p0_8, p0_9, p0_10, p0_11⟩ : S53) ⟨hp0_0, hp0_1, ⟨hp0_2, hp0_3, hp0_4, hp0_5⟩, hp0_6, hp0_7, hp0_8, hp0_9, hp0_10, hp0_11⟩ 1048576 (by omega) (by omega)
  simp only at g0
  by_cases c0 : r0 < 0
  · exact ⟨K0, by simp [laws_FnExactWantsGroups.f, g0 (K0) (by omega), c0]⟩
  obtain ⟨b, hs, hi⟩ : ∃ b, spec_WantsGroups.f (cvTask (⟨p0_0, p0_1, ⟨p0_2, p0_3, p0_4, p0_5⟩, p0_6, p0_7, p0_8, p0_9, p0_10, p0_11⟩ : S53)).f0 (cvTask (⟨p0_0, p0_1, ⟨p0_2, p0_3, p0_4, p0_5⟩, p0_6, p0_7, p0_8, p0_9, p0_10, p0_11⟩ : S53)).f1 (cvTask (⟨p0_0, p0_1, ⟨p0_2, p0_3, p0_4, p0_5⟩, p0_6, p0_7, p0_8, p0_9, p0_10, p0_11⟩ : S53)).f2.f0 (cvTask (⟨p0_0, p0_1, ⟨p0_2, p0_3, p0_4, p0_5⟩, p0_6, p0_7, p0_8, p0_9, p0_10, p0_11⟩ : S53)).f2.f1 (cvTask (⟨p0_0, p0_1, ⟨p0_2, p0_3, p0_4, p0_5⟩, p0_6, p0_7, p0_8, p0_9, p0_10, p0_11⟩ : S53)).f2.f2 (cvTask (⟨p0_0, p0_1, ⟨p0_2, p0_3, p0_4, p0_5⟩, p0_6, p0_7, p0_8, p0_9, p0_10, p0_11⟩ : S53)).f2.f3 (cvTask (⟨p0_0, p0_1, ⟨p0_2, p0_3, p0_4, p0_5⟩, p0_6, p0_7, p0_8, p0_9, p0_10, p0_11⟩ : S53)).f3 (cvTask (⟨p0_0, p0_1, ⟨p0_2, p0_3, p0_4, p0_5⟩, p0_6, p0_7, p0_8, p0_9, p0_10, p0_11⟩ : S53)).f4 (cvTask (⟨p0_0, p0_1, ⟨p0_2, p0_3, p0_4, p0_5⟩, p0_6, p0_7, p0_8, p0_9, p0_10, p0_11⟩ : S53)).f5 (cvTask (⟨p0_0, p0_1, ⟨p0_2, p0_3, p0_4, p0_5⟩, p0_6, p0_7, p0_8, p0_9, p0_10, p0_11⟩ : S53)).f6 (cvTask (⟨p0_0, p0_1, ⟨p0_2, p0_3, p0_4, p0_5⟩, p0_6, p0_7, p0_8, p0_9, p0_10, p0_11⟩ : S53)).f7 (cvTask (⟨p0_0, p0_1, ⟨p0_2, p0_3, p0_4, p0_5⟩, p0_6, p0_7, p0_8, p0_9, p0_10, p0_11⟩ : S53)).f8 = some b ∧ impl_WantsGroups.f (cvTask (⟨p0_0, p0_1, ⟨p0_2, p0_3, p0_4, p0_5⟩, p0_6, p0_7, p0_8, p0_9, p0_10, p0_11⟩ : S53)).f0 (cvTask (⟨p0_0, p0_1, ⟨p0_2, p0_3, p0_4, p0_5⟩, p0_6, p0_7, p0_8, p0_9, p0_10, p0_11⟩ : S53)).f1 (cvTask (⟨p0_0, p0_1, ⟨p0_2, p0_3, p0_4, p0_5⟩, p0_6, p0_7, p0_8, p0_9, p0_10, p0_11⟩ : S53)).f2.f0 (cvTask (⟨p0_0, p0_1, ⟨p0_2, p0_3, p0_4, p0_5⟩, p0_6, p0_7, p0_8, p0_9, p0_10, p0_11⟩ : S53)).f2.f1 (cvTask (⟨p0_0, p0_1, ⟨p0_2, p0_3, p0_4, p0_5⟩, p0_6, p0_7, p0_8, p0_9, p0_10, p0_11⟩ : S53)).f2.f2 (cvTask (⟨p0_0, p0_1, ⟨p0_2, p0_3, p0_4, p0_5⟩, p0_6, p0_7, p0_8, p0_9, p0_10, p0_11⟩ : S53)).f2.f3 (cvTask (⟨p0_0, p0_1, ⟨p0_2, p0_3, p0_4, p0_5⟩, p0_6, p0_7, p0_8, p0_9, p0_10, p0_11⟩ : S53)).f3 (cvTask (⟨p0_0, p0_1, ⟨p0_2, p0_3, p0_4, p0_5⟩, p0_6, p0_7, p0_8, p0_9, p0_10, p0_11⟩ : S53)).f4 (cvTask (⟨p0_0, p0_1, ⟨p0_2, p0_3, p0_4, p0_5⟩, p0_6, p0_7, p0_8, p0_9, p0_10, p0_11⟩ : S53)).f5 (cvTask (⟨p0_0, p0_1, ⟨p0_2, p0_3, p0_4, p0_5⟩, p0_6, p0_7, p0_8, p0_9, p0_10, p0_11⟩ : S53)).f6 (cvTask (⟨p0_0, p0_1, ⟨p0_2, p0_3, p0_4, p0_5⟩, p0_6, p0_7, p0_8, p0_9, p0_10, p0_11⟩ : S53)).f7 (cvTask (⟨p0_0, p0_1, ⟨p0_2, p0_3, p0_4, p0_5⟩, p0_6, p0_7, p0_8, p0_9, p0_10, p0_11⟩ : S53)).f8 = some b := by
    unfold spec_WantsGroups.f impl_WantsGroups.f
    split
    · exact ⟨_, rfl, rfl⟩
    · split <;> exact ⟨_, rfl, rfl⟩
  obtain ⟨L0, f0⟩ := toTask_ev (⟨p0_0, p0_1, ⟨p0_2, p0_3, p0_4, p0_5⟩, p0_6, p0_7, p0_8, p0_9, p0_10, p0_11⟩ : S53) (w0 (by omega))
  obtain ⟨L1, f1⟩ := eqTask_ev (cvTask (⟨p0_0, p0_1, ⟨p0_2, p0_3, p0_4, p0_5⟩, p0_6, p0_7, p0_8, p0_9, p0_10, p0_11⟩ : S53)) (Wi_cvTask (w0 (by omega)))
  have G0 := fun m => g0 (K0 + L0 + L1 + m) (by omega)
  have F0 := fun m => f0 (K0 + L0 + L1 + m) (by omega)
  have F1 := fun m => f1 (K0 + L0 + L1 + m) (by omega)
  simp only at F0 F1
  exact ⟨K0 + L0 + L1 + 3, by simp [laws_FnExactWantsGroups.f, G0, F0, F1, c0, hs, hi]⟩

end Go.Proofs.Ytmmaondenopnpaa.Print
