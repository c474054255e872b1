import Derived.Test.YticgekgojgkbgaaDoorF0
import Derived.Test.YticgekgojgkbgaaDoorF2
import Derived.Test.YticgekgojgkbgaaDoorF12
import Derived.Test.YticgekgojgkbgaaDoorF43
import Derived.Test.YticgekgojgkbgaaDoorQBase
import Derived.Test.YticgekgojgkbgaaDoorQFamStringS
import Derived.Test.YticgekgojgkbgaaDoorOpen
namespace Go.Proofs.YticgekgojgkbgaaDoor.Print
open Go.RowKit Go.Proofs.YticgekgojgkbgaaDoorV.PrintWords Go.Proofs.YticgekgojgkbgaaDoorV.PrintLast Go.Proofs.YticgekgojgkbgaaDoorV.PrintMore
set_option linter.unusedVariables false
set_option linter.unusedSimpArgs false
def cvConf (x : S24) : S27 := ⟨x.f0, x.f1, x.f2, x.f3, x.f4, x.f5⟩
def WConf (x : S24) : Prop := True ∧ True ∧ True ∧ True ∧ True ∧ (x.f5.length ≤ 1048576 ∧ ∀ y ∈ x.f5, y.size ≤ 1048576)
def WiConf (x : S27) : Prop := True ∧ True ∧ True ∧ True ∧ True ∧ (x.f5.length ≤ 4000000 ∧ ∀ y ∈ x.f5, y.size ≤ 4000000)
theorem Wi_cvConf {x : S24} (h : WConf x) : WiConf (cvConf x) := ⟨trivial, trivial, trivial, trivial, trivial, ⟨Nat.le_trans h.2.2.2.2.2.1 (by decide), fun y hy => Nat.le_trans (h.2.2.2.2.2.2 y hy) (by decide)⟩⟩
theorem szConf_ev (x : S24) (hB : B24 x) (n : Int) (h0 : 0 ≤ n) (h1 : n ≤ 1048576) : ∃ r, Ev (fun k => laws_szConf.f k x.f0 x.f1 x.f2 x.f3 x.f4 x.f5 n) r ∧ r ≤ n ∧ (0 ≤ r → WConf x) := by
  obtain ⟨r1, ⟨K1, g1⟩, l1, w1⟩ := szStringS_ev x.f5 hB.2.2.2.2.2 n (by omega) (by omega)
  by_cases c1 : r1 < 0
  · exact ⟨-1, ⟨K1, fun k hk => by simp [laws_szConf.f, g1 k (by omega), c1]⟩, by omega, by omega⟩
  exact ⟨r1, ⟨K1, fun k hk => by simp [laws_szConf.f, g1 k (by omega), c1]⟩, by omega, fun _ => ⟨trivial, trivial, trivial, trivial, trivial, (w1 (by omega))⟩⟩
theorem toConf_ev (x : S24) (h : WConf x) : Ev (fun k => laws_toConf.f k x.f0 x.f1 x.f2 x.f3 x.f4 x.f5) ((cvConf x).f0, (cvConf x).f1, (cvConf x).f2, (cvConf x).f3, (cvConf x).f4, (cvConf x).f5) := by
  obtain ⟨K5, g5⟩ := toStringS_ev x.f5 h.2.2.2.2.2
  exact ⟨K5, fun k hk => by simp [laws_toConf.f, cvConf, g5 k (by omega)]⟩
theorem eqConf_ev (x : S27) (h : WiConf x) : Ev (fun k => laws_eqConf.f k x.f0 x.f1 x.f2 x.f3 x.f4 x.f5 x.f0 x.f1 x.f2 x.f3 x.f4 x.f5) true := by
  obtain ⟨K5, g5⟩ := eqStringS_ev x.f5 h.2.2.2.2.2
  exact ⟨K5, fun k hk => by simp [laws_eqConf.f, g5 k (by omega)]⟩

end Go.Proofs.YticgekgojgkbgaaDoor.Print
