import Derived.Test.YtfholjcelnkleaaF0
import Derived.Test.YtfholjcelnkleaaF2
import Derived.Test.YtfholjcelnkleaaF11
import Derived.Test.YtfholjcelnkleaaF20
import Derived.Test.YtfholjcelnkleaaQBase
import Derived.Test.YtfholjcelnkleaaOpen
namespace Go.Proofs.Ytfholjcelnkleaa.Print
open Go.RowKit Go.Proofs.YtfholjcelnkleaaV.PrintWords Go.Proofs.YtfholjcelnkleaaV.PrintLast Go.Proofs.YtfholjcelnkleaaV.PrintMore
set_option linter.unusedVariables false
set_option linter.unusedSimpArgs false
def cvLabel (x : S163) : S164 := ⟨x.f0, x.f1⟩
def WLabel (x : S163) : Prop := x.f0.size ≤ 1048576 ∧ x.f1.size ≤ 1048576
def WiLabel (x : S164) : Prop := x.f0.size ≤ 4000000 ∧ x.f1.size ≤ 4000000
theorem Wi_cvLabel {x : S163} (h : WLabel x) : WiLabel (cvLabel x) := ⟨Nat.le_trans h.1 (by decide), Nat.le_trans h.2 (by decide)⟩
theorem szLabel_ev (x : S163) (hB : B163 x) (n : Int) (h0 : 0 ≤ n) (h1 : n ≤ 1048576) : ∃ r, Ev (fun k => laws_szLabel.f x.f0 x.f1 n) r ∧ r ≤ n ∧ (0 ≤ r → WLabel x) := by
  have q1 : x.f0.size ≤ 9223372036854775807 := hB.1
  have e1 : wrap64 (n - (x.f0.size : Int)) = n - (x.f0.size : Int) := wrap_id (by omega) (by omega)
  by_cases c1 : n - (x.f0.size : Int) < 0
  · exact ⟨-1, ⟨0, fun k hk => by simp [laws_szLabel.f, e1, c1]⟩, by omega, by omega⟩
  have q2 : x.f1.size ≤ 9223372036854775807 := hB.2
  have e2 : wrap64 ((n - (x.f0.size : Int)) - (x.f1.size : Int)) = (n - (x.f0.size : Int)) - (x.f1.size : Int) := wrap_id (by omega) (by omega)
  by_cases c2 : (n - (x.f0.size : Int)) - (x.f1.size : Int) < 0
  · exact ⟨-1, ⟨0, fun k hk => by simp [laws_szLabel.f, e1, c1, e2, c2]⟩, by omega, by omega⟩
  exact ⟨((n - (x.f0.size : Int)) - (x.f1.size : Int)), ⟨0, fun k hk => by simp [laws_szLabel.f, e1, c1, e2, c2]⟩, by omega, fun _ => ⟨(by omega), (by omega)⟩⟩
theorem toLabel_ev (x : S163) (h : WLabel x) : Ev (fun k => laws_toLabel.f x.f0 x.f1) ((cvLabel x).f0, (cvLabel x).f1) := by
  exact ⟨0, fun k hk => by simp [laws_toLabel.f, cvLabel]⟩
theorem eqLabel_ev (x : S164) (h : WiLabel x) : Ev (fun k => laws_eqLabel.f x.f0 x.f1 x.f0 x.f1) true := by
  exact ⟨0, fun k hk => by simp [laws_eqLabel.f]⟩

end Go.Proofs.Ytfholjcelnkleaa.Print
