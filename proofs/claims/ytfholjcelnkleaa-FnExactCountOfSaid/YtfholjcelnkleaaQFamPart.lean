import Derived.Test.YtfholjcelnkleaaF0
import Derived.Test.YtfholjcelnkleaaF8
import Derived.Test.YtfholjcelnkleaaF17
import Derived.Test.YtfholjcelnkleaaF26
import Derived.Test.YtfholjcelnkleaaQBase
import Derived.Test.YtfholjcelnkleaaQFamChainS
import Derived.Test.YtfholjcelnkleaaOpen
namespace Go.Proofs.Ytfholjcelnkleaa.Print
open Go.RowKit Go.Proofs.YtfholjcelnkleaaV.PrintWords Go.Proofs.YtfholjcelnkleaaV.PrintLast Go.Proofs.YtfholjcelnkleaaV.PrintMore
set_option linter.unusedVariables false
set_option linter.unusedSimpArgs false
def cvPart (x : S120) : S123 := ⟨x.f0, x.f1, (x.f2.map cvChain)⟩
def WPart (x : S120) : Prop := True ∧ True ∧ (x.f2.length ≤ 1048576 ∧ ∀ y ∈ x.f2, WChain y)
def WiPart (x : S123) : Prop := True ∧ True ∧ (x.f2.length ≤ 4000000 ∧ ∀ y ∈ x.f2, WiChain y)
theorem Wi_cvPart {x : S120} (h : WPart x) : WiPart (cvPart x) := ⟨trivial, trivial, ⟨by show (List.map cvChain x.f2).length ≤ 4000000; rw [List.length_map]; exact Nat.le_trans h.2.2.1 (by decide), fun y hy => by obtain ⟨z, hz, rfl⟩ := List.mem_map.1 hy; exact Wi_cvChain (h.2.2.2 z hz)⟩⟩
theorem szPart_ev (x : S120) (hB : B120 x) (n : Int) (h0 : 0 ≤ n) (h1 : n ≤ 1048576) : ∃ r, Ev (fun k => laws_szPart.f k x.f0 x.f1 x.f2 n) r ∧ r ≤ n ∧ (0 ≤ r → WPart x) := by
  obtain ⟨r1, ⟨K1, g1⟩, l1, w1⟩ := szChainS_ev x.f2 hB.2.2 n (by omega) (by omega)
  by_cases c1 : r1 < 0
  · exact ⟨-1, ⟨K1, fun k hk => by simp [laws_szPart.f, g1 k (by omega), c1]⟩, by omega, by omega⟩
  exact ⟨r1, ⟨K1, fun k hk => by simp [laws_szPart.f, g1 k (by omega), c1]⟩, by omega, fun _ => ⟨trivial, trivial, (w1 (by omega))⟩⟩
theorem toPart_ev (x : S120) (h : WPart x) : Ev (fun k => laws_toPart.f k x.f0 x.f1 x.f2) ((cvPart x).f0, (cvPart x).f1, (cvPart x).f2) := by
  obtain ⟨K2, g2⟩ := toChainS_ev x.f2 h.2.2
  exact ⟨K2, fun k hk => by simp [laws_toPart.f, cvPart, g2 k (by omega)]⟩
theorem eqPart_ev (x : S123) (h : WiPart x) : Ev (fun k => laws_eqPart.f k x.f0 x.f1 x.f2 x.f0 x.f1 x.f2) true := by
  obtain ⟨K2, g2⟩ := eqChainS_ev x.f2 h.2.2
  exact ⟨K2, fun k hk => by simp [laws_eqPart.f, g2 k (by omega)]⟩

end Go.Proofs.Ytfholjcelnkleaa.Print
