import Derived.Test.YtmmaondenopnpaaF0
import Derived.Test.YtmmaondenopnpaaF42
import Derived.Test.YtmmaondenopnpaaF45
import Derived.Test.YtmmaondenopnpaaF48
import Derived.Test.YtmmaondenopnpaaQBase
import Derived.Test.YtmmaondenopnpaaQFamAlarm
import Derived.Test.YtmmaondenopnpaaQFamAlarmS
import Derived.Test.YtmmaondenopnpaaQFamIntS
import Derived.Test.YtmmaondenopnpaaQFamLabelS
import Derived.Test.YtmmaondenopnpaaOpen
namespace Go.Proofs.Ytmmaondenopnpaa.Print
open Go.RowKit Go.Proofs.YtmmaondenopnpaaV.PrintWords Go.Proofs.YtmmaondenopnpaaV.PrintLast Go.Proofs.YtmmaondenopnpaaV.PrintMore
set_option linter.unusedVariables false
set_option linter.unusedSimpArgs false
def cvTask (x : S53) : S59 := ⟨x.f0, x.f1, (cvAlarm x.f2), (x.f3.map cvLabel), x.f4, x.f5, (x.f6.map cvAlarm), x.f7, x.f8⟩
def WTask (x : S53) : Prop := True ∧ True ∧ WAlarm x.f2 ∧ (x.f3.length ≤ 1048576 ∧ ∀ y ∈ x.f3, WLabel y) ∧ True ∧ (x.f5.length ≤ 1048576 ∧ ∀ y ∈ x.f5, True) ∧ (x.f6.length ≤ 1048576 ∧ ∀ y ∈ x.f6, WAlarm y) ∧ True ∧ True
def WiTask (x : S59) : Prop := True ∧ True ∧ WiAlarm x.f2 ∧ (x.f3.length ≤ 4000000 ∧ ∀ y ∈ x.f3, WiLabel y) ∧ True ∧ (x.f5.length ≤ 4000000 ∧ ∀ y ∈ x.f5, True) ∧ (x.f6.length ≤ 4000000 ∧ ∀ y ∈ x.f6, WiAlarm y) ∧ True ∧ True
theorem Wi_cvTask {x : S53} (h : WTask x) : WiTask (cvTask x) := ⟨trivial, trivial, Wi_cvAlarm h.2.2.1, ⟨by show (List.map cvLabel x.f3).length ≤ 4000000; rw [List.length_map]; exact Nat.le_trans h.2.2.2.1.1 (by decide), fun y hy => by obtain ⟨z, hz, rfl⟩ := List.mem_map.1 hy; exact Wi_cvLabel (h.2.2.2.1.2 z hz)⟩, trivial, ⟨Nat.le_trans h.2.2.2.2.2.1.1 (by decide), fun y hy => trivial⟩, ⟨by show (List.map cvAlarm x.f6).length ≤ 4000000; rw [List.length_map]; exact Nat.le_trans h.2.2.2.2.2.2.1.1 (by decide), fun y hy => by obtain ⟨z, hz, rfl⟩ := List.mem_map.1 hy; exact Wi_cvAlarm (h.2.2.2.2.2.2.1.2 z hz)⟩, trivial, trivial⟩
theorem szTask_ev (x : S53) (hB : B53 x) (n : Int) (h0 : 0 ≤ n) (h1 : n ≤ 1048576) : ∃ r, Ev (fun k => laws_szTask.f k x.f0 x.f1 x.f2.f0 x.f2.f1 x.f2.f2 x.f2.f3 x.f3 x.f4 x.f5 x.f6 x.f7 x.f8 n) r ∧ r ≤ n ∧ (0 ≤ r → WTask x) := by
  obtain ⟨r1, ⟨K1, g1⟩, l1, w1⟩ := szAlarm_ev x.f2 hB.2.2.1 n (by omega) (by omega)
  by_cases c1 : r1 < 0
  · exact ⟨-1, ⟨K1, fun k hk => by simp [laws_szTask.f, g1 k (by omega), c1]⟩, by omega, by omega⟩
  obtain ⟨r2, ⟨K2, g2⟩, l2, w2⟩ := szLabelS_ev x.f3 hB.2.2.2.1 r1 (by omega) (by omega)
  by_cases c2 : r2 < 0
  · exact ⟨-1, ⟨K1 + K2, fun k hk => by simp [laws_szTask.f, g1 k (by omega), c1, g2 k (by omega), c2]⟩, by omega, by omega⟩
  obtain ⟨r3, ⟨K3, g3⟩, l3, w3⟩ := szIntS_ev x.f5 hB.2.2.2.2.2.1 r2 (by omega) (by omega)
  by_cases c3 : r3 < 0
  · exact ⟨-1, ⟨K1 + K2 + K3, fun k hk => by simp [laws_szTask.f, g1 k (by omega), c1, g2 k (by omega), c2, g3 k (by omega), c3]⟩, by omega, by omega⟩
  obtain ⟨r4, ⟨K4, g4⟩, l4, w4⟩ := szAlarmS_ev x.f6 hB.2.2.2.2.2.2.1 r3 (by omega) (by omega)
  by_cases c4 : r4 < 0
  · exact ⟨-1, ⟨K1 + K2 + K3 + K4, fun k hk => by simp [laws_szTask.f, g1 k (by omega), c1, g2 k (by omega), c2, g3 k (by omega), c3, g4 k (by omega), c4]⟩, by omega, by omega⟩
  exact ⟨r4, ⟨K1 + K2 + K3 + K4, fun k hk => by simp [laws_szTask.f, g1 k (by omega), c1, g2 k (by omega), c2, g3 k (by omega), c3, g4 k (by omega), c4]⟩, by omega, fun _ => ⟨trivial, trivial, (w1 (by omega)), (w2 (by omega)), trivial, (w3 (by omega)), (w4 (by omega)), trivial, trivial⟩⟩
theorem toTask_ev (x : S53) (h : WTask x) : Ev (fun k => laws_toTask.f k x.f0 x.f1 x.f2.f0 x.f2.f1 x.f2.f2 x.f2.f3 x.f3 x.f4 x.f5 x.f6 x.f7 x.f8) ((cvTask x).f0, (cvTask x).f1, (cvTask x).f2.f0, (cvTask x).f2.f1, (cvTask x).f2.f2, (cvTask x).f2.f3, (cvTask x).f3, (cvTask x).f4, (cvTask x).f5, (cvTask x).f6, (cvTask x).f7, (cvTask x).f8) := by
  obtain ⟨K2, g2⟩ := toAlarm_ev x.f2 h.2.2.1
  obtain ⟨K3, g3⟩ := toLabelS_ev x.f3 h.2.2.2.1
  obtain ⟨K5, g5⟩ := toIntS_ev x.f5 h.2.2.2.2.2.1
  obtain ⟨K6, g6⟩ := toAlarmS_ev x.f6 h.2.2.2.2.2.2.1
  exact ⟨K2 + K3 + K5 + K6, fun k hk => by simp [laws_toTask.f, cvTask, g2 k (by omega), g3 k (by omega), g5 k (by omega), g6 k (by omega)]⟩
theorem eqTask_ev (x : S59) (h : WiTask x) : Ev (fun k => laws_eqTask.f k x.f0 x.f1 x.f2.f0 x.f2.f1 x.f2.f2 x.f2.f3 x.f3 x.f4 x.f5 x.f6 x.f7 x.f8 x.f0 x.f1 x.f2.f0 x.f2.f1 x.f2.f2 x.f2.f3 x.f3 x.f4 x.f5 x.f6 x.f7 x.f8) true := by
  obtain ⟨K2, g2⟩ := eqAlarm_ev x.f2 h.2.2.1
  obtain ⟨K3, g3⟩ := eqLabelS_ev x.f3 h.2.2.2.1
  obtain ⟨K5, g5⟩ := eqIntS_ev x.f5 h.2.2.2.2.2.1
  obtain ⟨K6, g6⟩ := eqAlarmS_ev x.f6 h.2.2.2.2.2.2.1
  exact ⟨K2 + K3 + K5 + K6, fun k hk => by simp [laws_eqTask.f, g2 k (by omega), g3 k (by omega), g5 k (by omega), g6 k (by omega)]⟩

end Go.Proofs.Ytmmaondenopnpaa.Print
