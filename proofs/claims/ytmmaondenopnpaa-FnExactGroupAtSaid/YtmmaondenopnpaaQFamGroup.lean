import Derived.Test.YtmmaondenopnpaaF0
import Derived.Test.YtmmaondenopnpaaF26
import Derived.Test.YtmmaondenopnpaaF29
import Derived.Test.YtmmaondenopnpaaF32
import Derived.Test.YtmmaondenopnpaaQBase
import Derived.Test.YtmmaondenopnpaaQFamAlarmS
import Derived.Test.YtmmaondenopnpaaQFamLabelS
import Derived.Test.YtmmaondenopnpaaOpen
namespace Go.Proofs.Ytmmaondenopnpaa.Print
open Go.RowKit Go.Proofs.YtmmaondenopnpaaV.PrintWords Go.Proofs.YtmmaondenopnpaaV.PrintLast Go.Proofs.YtmmaondenopnpaaV.PrintMore
set_option linter.unusedVariables false
set_option linter.unusedSimpArgs false
def cvGroup (x : S64) : S68 := ⟨x.f0, (x.f1.map cvLabel), x.f2, x.f3, (x.f4.map cvAlarm)⟩
def WGroup (x : S64) : Prop := True ∧ (x.f1.length ≤ 1048576 ∧ ∀ y ∈ x.f1, WLabel y) ∧ True ∧ True ∧ (x.f4.length ≤ 1048576 ∧ ∀ y ∈ x.f4, WAlarm y)
def WiGroup (x : S68) : Prop := True ∧ (x.f1.length ≤ 4000000 ∧ ∀ y ∈ x.f1, WiLabel y) ∧ True ∧ True ∧ (x.f4.length ≤ 4000000 ∧ ∀ y ∈ x.f4, WiAlarm y)
theorem Wi_cvGroup {x : S64} (h : WGroup x) : WiGroup (cvGroup x) := ⟨trivial, ⟨by show (List.map cvLabel x.f1).length ≤ 4000000; rw [List.length_map]; exact Nat.le_trans h.2.1.1 (by decide), fun y hy => by obtain ⟨z, hz, rfl⟩ := List.mem_map.1 hy; exact Wi_cvLabel (h.2.1.2 z hz)⟩, trivial, trivial, ⟨by show (List.map cvAlarm x.f4).length ≤ 4000000; rw [List.length_map]; exact Nat.le_trans h.2.2.2.2.1 (by decide), fun y hy => by obtain ⟨z, hz, rfl⟩ := List.mem_map.1 hy; exact Wi_cvAlarm (h.2.2.2.2.2 z hz)⟩⟩
theorem szGroup_ev (x : S64) (hB : B64 x) (n : Int) (h0 : 0 ≤ n) (h1 : n ≤ 1048576) : ∃ r, Ev (fun k => laws_szGroup.f k x.f0 x.f1 x.f2 x.f3 x.f4 n) r ∧ r ≤ n ∧ (0 ≤ r → WGroup x) := by
  obtain ⟨r1, ⟨K1, g1⟩, l1, w1⟩ := szLabelS_ev x.f1 hB.2.1 n (by omega) (by omega)
  by_cases c1 : r1 < 0
  · exact ⟨-1, ⟨K1, fun k hk => by simp [laws_szGroup.f, g1 k (by omega), c1]⟩, by omega, by omega⟩
  obtain ⟨r2, ⟨K2, g2⟩, l2, w2⟩ := szAlarmS_ev x.f4 hB.2.2.2.2 r1 (by omega) (by omega)
  by_cases c2 : r2 < 0
  · exact ⟨-1, ⟨K1 + K2, fun k hk => by simp [laws_szGroup.f, g1 k (by omega), c1, g2 k (by omega), c2]⟩, by omega, by omega⟩
  exact ⟨r2, ⟨K1 + K2, fun k hk => by simp [laws_szGroup.f, g1 k (by omega), c1, g2 k (by omega), c2]⟩, by omega, fun _ => ⟨trivial, (w1 (by omega)), trivial, trivial, (w2 (by omega))⟩⟩
theorem toGroup_ev (x : S64) (h : WGroup x) : Ev (fun k => laws_toGroup.f k x.f0 x.f1 x.f2 x.f3 x.f4) ((cvGroup x).f0, (cvGroup x).f1, (cvGroup x).f2, (cvGroup x).f3, (cvGroup x).f4) := by
  obtain ⟨K1, g1⟩ := toLabelS_ev x.f1 h.2.1
  obtain ⟨K4, g4⟩ := toAlarmS_ev x.f4 h.2.2.2.2
  exact ⟨K1 + K4, fun k hk => by simp [laws_toGroup.f, cvGroup, g1 k (by omega), g4 k (by omega)]⟩
theorem eqGroup_ev (x : S68) (h : WiGroup x) : Ev (fun k => laws_eqGroup.f k x.f0 x.f1 x.f2 x.f3 x.f4 x.f0 x.f1 x.f2 x.f3 x.f4) true := by
  obtain ⟨K1, g1⟩ := eqLabelS_ev x.f1 h.2.1
  obtain ⟨K4, g4⟩ := eqAlarmS_ev x.f4 h.2.2.2.2
  exact ⟨K1 + K4, fun k hk => by simp [laws_eqGroup.f, g1 k (by omega), g4 k (by omega)]⟩

end Go.Proofs.Ytmmaondenopnpaa.Print
