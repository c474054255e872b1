import Derived.Test.YtmmaondenopnpaaF0
import Derived.Test.YtmmaondenopnpaaF6
import Derived.Test.YtmmaondenopnpaaF15
import Derived.Test.YtmmaondenopnpaaF24
import Derived.Test.YtmmaondenopnpaaQBase
import Derived.Test.YtmmaondenopnpaaQFamAlarmS
import Derived.Test.YtmmaondenopnpaaOpen
namespace Go.Proofs.Ytmmaondenopnpaa.Print
open Go.RowKit Go.Proofs.YtmmaondenopnpaaV.PrintWords Go.Proofs.YtmmaondenopnpaaV.PrintLast Go.Proofs.YtmmaondenopnpaaV.PrintMore
set_option linter.unusedVariables false
set_option linter.unusedSimpArgs false
def cvSub (x : S24) : S29 := ⟨(x.f0.map cvAlarm), x.f1⟩
def WSub (x : S24) : Prop := (x.f0.length ≤ 1048576 ∧ ∀ y ∈ x.f0, WAlarm y) ∧ True
def WiSub (x : S29) : Prop := (x.f0.length ≤ 4000000 ∧ ∀ y ∈ x.f0, WiAlarm y) ∧ True
theorem Wi_cvSub {x : S24} (h : WSub x) : WiSub (cvSub x) := ⟨⟨by show (List.map cvAlarm x.f0).length ≤ 4000000; rw [List.length_map]; exact Nat.le_trans h.1.1 (by decide), fun y hy => by obtain ⟨z, hz, rfl⟩ := List.mem_map.1 hy; exact Wi_cvAlarm (h.1.2 z hz)⟩, trivial⟩
theorem szSub_ev (x : S24) (hB : B24 x) (n : Int) (h0 : 0 ≤ n) (h1 : n ≤ 1048576) : ∃ r, Ev (fun k => laws_szSub.f k x.f0 x.f1 n) r ∧ r ≤ n ∧ (0 ≤ r → WSub x) := by
  obtain ⟨r1, ⟨K1, g1⟩, l1, w1⟩ := szAlarmS_ev x.f0 hB.1 n (by omega) (by omega)
  by_cases c1 : r1 < 0
  · exact ⟨-1, ⟨K1, fun k hk => by simp [laws_szSub.f, g1 k (by omega), c1]⟩, by omega, by omega⟩
  exact ⟨r1, ⟨K1, fun k hk => by simp [laws_szSub.f, g1 k (by omega), c1]⟩, by omega, fun _ => ⟨(w1 (by omega)), trivial⟩⟩
theorem toSub_ev (x : S24) (h : WSub x) : Ev (fun k => laws_toSub.f k x.f0 x.f1) ((cvSub x).f0, (cvSub x).f1) := by
  obtain ⟨K0, g0⟩ := toAlarmS_ev x.f0 h.1
  exact ⟨K0, fun k hk => by simp [laws_toSub.f, cvSub, g0 k (by omega)]⟩
theorem eqSub_ev (x : S29) (h : WiSub x) : Ev (fun k => laws_eqSub.f k x.f0 x.f1 x.f0 x.f1) true := by
  obtain ⟨K0, g0⟩ := eqAlarmS_ev x.f0 h.1
  exact ⟨K0, fun k hk => by simp [laws_eqSub.f, g0 k (by omega)]⟩

end Go.Proofs.Ytmmaondenopnpaa.Print
