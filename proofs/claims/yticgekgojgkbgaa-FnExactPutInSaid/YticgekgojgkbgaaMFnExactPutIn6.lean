import Derived.Test.YticgekgojgkbgaaMFnExactPutIn1
import Derived.Test.YticgekgojgkbgaaMFnExactPutIn4
import Derived.Test.YticgekgojgkbgaaMFnExactPutIn5
section
/- The law FnExactPutIn answers true for all arguments that can be read: the pure statement, without Go and memory. No condition. -/
namespace Go.Proofs.Yticgekgojgkbgaa.Print
open Go.RowKit Go.Proofs.YticgekgojgkbgaaV.PrintWords Go.Proofs.YticgekgojgkbgaaV.PrintLast Go.Proofs.YticgekgojgkbgaaV.PrintMore
set_option linter.unusedVariables false
set_option linter.unusedSimpArgs false
theorem pure_FnExactPutIn : laws_FnExactPutIn.Pure := by
  intro p0_0 p0_1 p0_2 p1_0 p1_1 p1_2 p1_3 hp0_0 hp0_1 hp0_2 hp1_0 hp1_1 hp1_2 hp1_3
  obtain ⟨r0, ⟨K0, g0⟩, le0, w0⟩ := szPart_ev (⟨p0_0, p0_1, p0_2⟩ : S52) ⟨hp0_0, hp0_1, hp0_2⟩ 1048576 (by omega) (by omega)
  simp only at g0
  by_cases c0 : r0 < 0
  · exact ⟨K0, by simp [laws_FnExactPutIn.f, g0 (K0) (by omega), c0]⟩
  obtain ⟨nl0, nb0⟩ := szPart_nn (⟨p0_0, p0_1, p0_2⟩ : S52) ⟨hp0_0, hp0_1, hp0_2⟩ K0 1048576 r0 (g0 K0 (Nat.le_refl _)) (by omega) (by omega) (by omega)
  simp only at nb0
  obtain ⟨r1, ⟨K1, g1⟩, le1, w1⟩ := szAlarm_ev (⟨p1_0, p1_1, p1_2, p1_3⟩ : S35) ⟨hp1_0, hp1_1, hp1_2, hp1_3⟩ r0 (by omega) (by omega)
  simp only at g1
  by_cases c1 : r1 < 0
  · exact ⟨K0 + K1, by simp [laws_FnExactPutIn.f, g0 (K0 + K1) (by omega), c0, g1 (K0 + K1) (by omega), c1]⟩
  obtain ⟨nl1, nb1⟩ := szAlarm_nn (⟨p1_0, p1_1, p1_2, p1_3⟩ : S35) ⟨hp1_0, hp1_1, hp1_2, hp1_3⟩ K1 r0 r1 (g1 K1 (Nat.le_refl _)) (by omega) (by omega) (by omega)
  simp only at nb1
  obtain ⟨g, hg, hw, hc⟩ : ∃ g, putIn (cvPart (⟨p0_0, p0_1, p0_2⟩ : S52)) (cvAlarm (⟨p1_0, p1_1, p1_2, p1_3⟩ : S35)) = g ∧ WiPart g.1 ∧ cnChains g.1.f2 ≤ 100000000 := ⟨_, rfl, putIn_wi (by show (List.map cvChain _).length ≤ 1048576; rw [List.length_map]; exact (w0 (by omega)).2.2.1) (fun y hy => by obtain ⟨z, hz, rfl⟩ := List.mem_map.1 hy; show (List.map cvAlarm _).length ≤ 1048576; rw [List.length_map]; exact ((w0 (by omega)).2.2.2 z hz).2.1) (Wi_cvPart (w0 (by omega))) (Wi_cvAlarm (w1 (by omega))), cnPutIn_le (Wi_cvAlarm (w1 (by omega))) (Nat.le_trans (cnChains_cv (⟨p0_0, p0_1, p0_2⟩ : S52).f2) (by simp only; omega))⟩
  have b0 : cnChains (cvPart (⟨p0_0, p0_1, p0_2⟩ : S52)).f2 ≤ 6 * nnChains (⟨p0_0, p0_1, p0_2⟩ : S52).f2 := cnChains_cv _
  simp only at b0
  have n0 : ((1 + (cnChains (cvPart (⟨p0_0, p0_1, p0_2⟩ : S52)).f2 : Int)) < 0) = False := eq_false (by omega)
  have b1 : cnLabels (cvAlarm (⟨p1_0, p1_1, p1_2, p1_3⟩ : S35)).f0 ≤ 6 * nnLabels (⟨p1_0, p1_1, p1_2, p1_3⟩ : S35).f0 := cnLabels_cv _
  simp only at b1
  have n1 : (((1 + (cnChains (cvPart (⟨p0_0, p0_1, p0_2⟩ : S52)).f2 : Int)) + (cnLabels (cvAlarm (⟨p1_0, p1_1, p1_2, p1_3⟩ : S35)).f0 : Int)) < 0) = False := eq_false (by omega)
  have b2 := hc
  have n2 : ((1 + (cnChains g.1.f2 : Int)) < 0) = False := eq_false (by omega)
  obtain ⟨L0, f0⟩ := toPart_ev (⟨p0_0, p0_1, p0_2⟩ : S52) (w0 (by omega))
  obtain ⟨L1, f1⟩ := eqPart_ev (cvPart (⟨p0_0, p0_1, p0_2⟩ : S52)) (Wi_cvPart (w0 (by omega)))
  obtain ⟨L2, f2⟩ := toAlarm_ev (⟨p1_0, p1_1, p1_2, p1_3⟩ : S35) (w1 (by omega))
  obtain ⟨L3, f3⟩ := eqAlarm_ev (cvAlarm (⟨p1_0, p1_1, p1_2, p1_3⟩ : S35)) (Wi_cvAlarm (w1 (by omega)))
  obtain ⟨L4, f4⟩ := hg ▸ specPutIn_ev (cvPart (⟨p0_0, p0_1, p0_2⟩ : S52)) (cvAlarm (⟨p1_0, p1_1, p1_2, p1_3⟩ : S35)) (Wi_cvPart (w0 (by omega))) (Wi_cvAlarm (w1 (by omega)))
  obtain ⟨L5, f5⟩ := hg ▸ implPutIn_ev (cvPart (⟨p0_0, p0_1, p0_2⟩ : S52)) (cvAlarm (⟨p1_0, p1_1, p1_2, p1_3⟩ : S35)) (Wi_cvPart (w0 (by omega))) (Wi_cvAlarm (w1 (by omega)))
  obtain ⟨L6, f6⟩ := markChainS_ev (cvPart (⟨p0_0, p0_1, p0_2⟩ : S52)).f2 1 (by omega) (by omega)
  obtain ⟨L7, f7⟩ := markLabelS_ev (cvAlarm (⟨p1_0, p1_1, p1_2, p1_3⟩ : S35)).f0 (1 + (cnChains (cvPart (⟨p0_0, p0_1, p0_2⟩ : S52)).f2 : Int)) (by omega) (by omega)
  obtain ⟨L8, f8⟩ := eqPart_ev g.1 hw
  obtain ⟨L9, f9⟩ := markChainS_ev g.1.f2 1 (by omega) (by omega)
  obtain ⟨L10, f10⟩ := heldChainS_ev g.1.f2 1 (by omega) (by omega)
  have G0 := fun m => g0 (K0 + K1 + L0 + L1 + L2 + L3 + L4 + L5 + L6 + L7 + L8 + L9 + L10 + m) (by omega)
  have G1 := fun m => g1 (K0 + K1 + L0 + L1 + L2 + L3 + L4 + L5 + L6 + L7 + L8 + L9 + L10 + m) (by omega)
  have F0 := fun m => f0 (K0 + K1 + L0 + L1 + L2 + L3 + L4 + L5 + L6 + L7 + L8 + L9 + L10 + m) (by omega)
  have F1 := fun m => f1 (K0 + K1 + L0 + L1 + L2 + L3 + L4 + L5 + L6 + L7 + L8 + L9 + L10 + m) (by omega)
  have F2 := fun m => f2 (K0 + K1 + L0 + L1 + L2 + L3 + L4 + L5 + L6 + L7 + L8 + L9 + L10 + m) (by omega)
  have F3 := fun m => f3 (K0 + K1 + L0 + L1 + L2 + L3 + L4 + L5 + L6 + L7 + L8 + L9 + L10 + m) (by omega)
  have F4 := fun m => f4 (K0 + K1 + L0 + L1 + L2 + L3 + L4 + L5 + L6 + L7 + L8 + L9 + L10 + m) (by omega)
  have F5 := fun m => f5 (K0 + K1 + L0 + L1 + L2 + L3 + L4 + L5 + L6 + L7 + L8 + L9 + L10 + m) (by omega)
  have F6 := fun m => f6 (K0 + K1 + L0 + L1 + L2 + L3 + L4 + L5 + L6 + L7 + L8 + L9 + L10 + m) (by omega)
  have F7 := fun m => f7 (K0 + K1 + L0 + L1 + L2 + L3 + L4 + L5 + L6 + L7 + L8 + L9 + L10 + m) (by omega)
  have F8 := fun m => f8 (K0 + K1 + L0 + L1 + L2 + L3 + L4 + L5 + L6 + L7 + L8 + L9 + L10 + m) (by omega)
  have F9 := fun m => f9 (K0 + K1 + L0 + L1 + L2 + L3 + L4 + L5 + L6 + L7 + L8 + L9 + L10 + m) (by omega)
  have F10 := fun m => f10 (K0 + K1 + L0 + L1 + L2 + L3 + L4 + L5 + L6 + L7 + L8 + L9 + L10 + m) (by omega)
  simp only at F0 F1 F2 F3 F4 F5 F6 F7 F8 F9 F10
  exact ⟨K0 + K1 + L0 + L1 + L2 + L3 + L4 + L5 + L6 + L7 + L8 + L9 + L10 + 3, by simp [laws_FnExactPutIn.f, laws_heldPart.f, laws_markAlarm.f, laws_markPart.f, G0, G1, F0, F1, F2, F3, F4, F5, F6, F7, F8, F9, F10, c0, c1, n0, n1, n2]⟩

end Go.Proofs.Yticgekgojgkbgaa.Print
end
