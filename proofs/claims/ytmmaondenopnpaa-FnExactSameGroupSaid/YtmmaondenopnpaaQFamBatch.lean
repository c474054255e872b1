import Derived.Test.YtmmaondenopnpaaF0
import Derived.Test.YtmmaondenopnpaaF35
import Derived.Test.YtmmaondenopnpaaF37
import Derived.Test.YtmmaondenopnpaaF39
import Derived.Test.YtmmaondenopnpaaQBase
import Derived.Test.YtmmaondenopnpaaQFamAlarmS
import Derived.Test.YtmmaondenopnpaaQFamLabelS
import Derived.Test.YtmmaondenopnpaaOpen
namespace Go.Proofs.Ytmmaondenopnpaa.Print
open Go.RowKit Go.Proofs.YtmmaondenopnpaaV.PrintWords Go.Proofs.YtmmaondenopnpaaV.PrintLast Go.Proofs.YtmmaondenopnpaaV.PrintMore
set_option linter.unusedVariables false
set_option linter.unusedSimpArgs false
def cvBatch (x : S41) : S46 := ⟨x.f0, (x.f1.map cvLabel), x.f2, (x.f3.map cvAlarm)⟩
def WBatch (x : S41) : Prop := True ∧ (x.f1.length ≤ 1048576 ∧ ∀ y ∈ x.f1, WLabel y) ∧ True ∧ (x.f3.length ≤ 1048576 ∧ ∀ y ∈ x.f3, WAlarm y)
def WiBatch (x : S46) : Prop := True ∧ (x.f1.length ≤ 4000000 ∧ ∀ y ∈ x.f1, WiLabel y) ∧ True ∧ (x.f3.length ≤ 4000000 ∧ ∀ y ∈ x.f3, WiAlarm y)
theorem Wi_cvBatch {x : S41} (h : WBatch x) : WiBatch (cvBatch x) := ⟨trivial, ⟨by show (List.map cvLabel x.f1).length ≤ 4000000; rw [List.length_map]; exact Nat.le_trans h.2.1.1 (by decide), fun y hy => by obtain ⟨z, hz, rfl⟩ := List.mem_map.1 hy; exact Wi_cvLabel (h.2.1.2 z hz)⟩, trivial, ⟨by show (List.map cvAlarm x.f3).length ≤ 4000000; rw [List.length_map]; exact Nat.le_trans h.2.2.2.1 (by decide), fun y hy => by obtain ⟨z, hz, rfl⟩ := List.mem_map.1 hy; exact Wi_cvAlarm (h.2.2.2.2 z hz)⟩⟩
theorem szBatch_ev (x : S41) (hB : B41 x) (n : Int) (h0 : 0 ≤ n) (h1 : n ≤ 1048576) : ∃ r, Ev (fun k => laws_szBatch.f k x.f0 x.f1 x.f2 x.f3 n) r ∧ r ≤ n ∧ (0 ≤ r → WBatch x) := by
  obtain ⟨r1, ⟨K1, g1⟩, l1, w1⟩ := szLabelS_ev x.f1 hB.2.1 n (by omega) (by omega)
  by_cases c1 : r1 < 0
  · exact ⟨-1, ⟨K1, fun k hk => by simp [laws_szBatch.f, g1 k (by omega), c1]⟩, by omega, by omega⟩
  obtain ⟨r2, ⟨K2, g2⟩, l2, w2⟩ := szAlarmS_ev x.f3 hB.2.2.2 r1 (by omega) (by omega)
  by_cases c2 : r2 < 0
  · exact ⟨-1, ⟨K1 + K2, fun k hk => by simp [laws_szBatch.f, g1 k (by omega), c1, g2 k (by omega), c2]⟩, by omega, by omega⟩
  exact ⟨r2, ⟨K1 + K2, fun k hk => by simp [laws_szBatch.f, g1 k (by omega), c1, g2 k (by omega), c2]⟩, by omega, fun _ => ⟨trivial, (w1 (by omega)), trivial, (w2 (by omega))⟩⟩
theorem toBatch_ev (x : S41) (h : WBatch x) : Ev (fun k => laws_toBatch.f k x.f0 x.f1 x.f2 x.f3) ((cvBatch x).f0, (cvBatch x).f1, (cvBatch x).f2, (cvBatch x).f3) := by
  obtain ⟨K1, g1⟩ := toLabelS_ev x.f1 h.2.1
  obtain ⟨K3, g3⟩ := toAlarmS_ev x.f3 h.2.2.2
  exact ⟨K1 + K3, fun k hk => by simp [laws_toBatch.f, cvBatch, g1 k (by omega), g3 k (by omega)]⟩
theorem eqBatch_ev (x : S46) (h : WiBatch x) : Ev (fun k => laws_eqBatch.f k x.f0 x.f1 x.f2 x.f3 x.f0 x.f1 x.f2 x.f3) true := by
  obtain ⟨K1, g1⟩ := eqLabelS_ev x.f1 h.2.1
  obtain ⟨K3, g3⟩ := eqAlarmS_ev x.f3 h.2.2.2
  exact ⟨K1 + K3, fun k hk => by simp [laws_eqBatch.f, g1 k (by omega), g3 k (by omega)]⟩

end Go.Proofs.Ytmmaondenopnpaa.Print
