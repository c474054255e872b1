import Derived.Test.YtfholjcelnkleaaF0
import Derived.Test.YtfholjcelnkleaaF29
import Derived.Test.YtfholjcelnkleaaF34
import Derived.Test.YtfholjcelnkleaaF40
import Derived.Test.YtfholjcelnkleaaQBase
import Derived.Test.YtfholjcelnkleaaQFamAlarmS
import Derived.Test.YtfholjcelnkleaaOpen
namespace Go.Proofs.Ytfholjcelnkleaa.Print
open Go.RowKit Go.Proofs.YtfholjcelnkleaaV.PrintWords Go.Proofs.YtfholjcelnkleaaV.PrintLast Go.Proofs.YtfholjcelnkleaaV.PrintMore
set_option linter.unusedVariables false
set_option linter.unusedSimpArgs false
def cvSub (x : S31) : S39 := ⟨(x.f0.map cvAlarm), x.f1⟩
def WSub (x : S31) : Prop := (x.f0.length ≤ 1048576 ∧ ∀ y ∈ x.f0, WAlarm y) ∧ True
def WiSub (x : S39) : Prop := (x.f0.length ≤ 4000000 ∧ ∀ y ∈ x.f0, WiAlarm y) ∧ True
theorem Wi_cvSub {x : S31} (h : WSub x) : WiSub (cvSub x) := ⟨⟨by show (List.map cvAlarm x.f0).length ≤ 4000000; rw [List.length_map]; exact Nat.le_trans h.1.1 (by decide), fun y hy => by obtain ⟨z, hz, rfl⟩ := List.mem_map.1 hy; exact Wi_cvAlarm (h.1.2 z hz)⟩, trivial⟩
theorem szSub_ev (x : S31) (hB : B31 x) (n : Int) (h0 : 0 ≤ n) (h1 : n ≤ 1048576) : ∃ r, Ev (fun k => laws_szSub.f k x.f0 x.f1 n) r ∧ r ≤ n ∧ (0 ≤ r → WSub x) := by
  obtain ⟨r1, ⟨K1, g1⟩, l1, w1⟩ := szAlarmS_ev x.f0 hB.1 n (by omega) (by omega)
  by_cases c1 : r1 < 0
  · exact ⟨-1, ⟨K1, fun k hk => by simp [laws_szSub.f, g1 k (by omega), c1]⟩, by omega, by omega⟩
  exact ⟨r1, ⟨K1, fun k hk => by simp [laws_szSub.f, g1 k (by omega), c1]⟩, by omega, fun _ => ⟨(w1 (by omega)), trivial⟩⟩
theorem toSub_ev (x : S31) (h : WSub x) : Ev (fun k => laws_toSub.f k x.f0 x.f1) ((cvSub x).f0, (cvSub x).f1) := by
  obtain ⟨K0, g0⟩ := toAlarmS_ev x.f0 h.1
  exact ⟨K0, fun k hk => by simp [laws_toSub.f, cvSub, g0 k (by omega)]⟩
theorem eqSub_ev (x : S39) (h : WiSub x) : Ev (fun k => laws_eqSub.f k x.f0 x.f1 x.f0 x.f1) true := by
  obtain ⟨K0, g0⟩ := eqAlarmS_ev x.f0 h.1
  exact ⟨K0, fun k hk => by simp [laws_eqSub.f, g0 k (by omega)]⟩

end Go.Proofs.Ytfholjcelnkleaa.Print
