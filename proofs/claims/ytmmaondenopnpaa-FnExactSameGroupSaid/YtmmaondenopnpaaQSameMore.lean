import Derived.Test.YtmmaondenopnpaaF0
import Derived.Test.YtmmaondenopnpaaF10
import Derived.Test.YtmmaondenopnpaaF19
import Derived.Test.YtmmaondenopnpaaF36
import Derived.Test.YtmmaondenopnpaaF38
import Derived.Test.YtmmaondenopnpaaF53
import Derived.Test.YtmmaondenopnpaaF54
import Derived.Test.YtmmaondenopnpaaQSame
import Derived.Test.YtmmaondenopnpaaQFamGroup
import Derived.Test.YtmmaondenopnpaaQFamBatch
import Derived.Test.YtmmaondenopnpaaQFamSub
namespace Go.Proofs.Ytmmaondenopnpaa.Print
open Go.RowKit Go.Proofs.YtmmaondenopnpaaV.PrintWords Go.Proofs.YtmmaondenopnpaaV.PrintLast Go.Proofs.YtmmaondenopnpaaV.PrintMore
set_option linter.unusedVariables false
set_option linter.unusedSimpArgs false
def sameSub (x y : S29) : Bool := (x.f1 == y.f1) && sameAlarms x.f0 y.f0
theorem implSameSub_ev (x y : S29) (h : WiSub x) : Ev (fun k => impl_SameSub.f k x.f0 x.f1 y.f0 y.f1) (sameSub x y) := by
  obtain ⟨K, g⟩ := implSameAlarms_ev x.f0 y.f0 h.1
  refine ⟨K, fun k hk => ?_⟩
  have e := g k hk
  simp only at e
  simp only [impl_SameSub.f, e, Option.bind_some, sameSub]
  cases (x.f1 == y.f1) <;> simp
theorem specSameSub_ev (x y : S29) (h : WiSub x) : Ev (fun k => spec_SameSub.f k x.f0 x.f1 y.f0 y.f1) (sameSub x y) := by
  obtain ⟨K, g⟩ := specSameAlarms_ev x.f0 y.f0 h.1
  refine ⟨K, fun k hk => ?_⟩
  have e := g k hk
  simp only at e
  simp only [spec_SameSub.f, e, Option.bind_some, sameSub]
  cases (x.f1 == y.f1) <;> simp
def sameBatch (x y : S46) : Bool := decide (x.f0 = y.f0) && (sameSet x.f1 y.f1 && (decide (x.f2 = y.f2) && sameAlarms x.f3 y.f3))
theorem implSameBatch_ev (x y : S46) (h : WiBatch x) : Ev (fun k => impl_SameBatch.f k x.f0 x.f1 x.f2 x.f3 y.f0 y.f1 y.f2 y.f3) (sameBatch x y) := by
  have h1 := h.2.1.1
  obtain ⟨K1, g1⟩ := implSameSet_ev x.f1 y.f1 (by omega)
  obtain ⟨K2, g2⟩ := implSameAlarms_ev x.f3 y.f3 h.2.2.2
  refine ⟨K1 + K2, fun k hk => ?_⟩
  have e1 := g1 k (by omega)
  have e2 := g2 k (by omega)
  simp only at e1 e2
  simp only [impl_SameBatch.f, e1, e2, Option.bind_some, sameBatch]
  by_cases c1 : x.f0 = y.f0 <;> by_cases c2 : x.f2 = y.f2 <;> cases sameSet x.f1 y.f1 <;> simp [c1, c2]
theorem specSameBatch_ev (x y : S46) (h : WiBatch x) : Ev (fun k => spec_SameBatch.f k x.f0 x.f1 x.f2 x.f3 y.f0 y.f1 y.f2 y.f3) (sameBatch x y) := by
  have h1 := h.2.1.1
  obtain ⟨K1, g1⟩ := specSameSet_ev x.f1 y.f1 (by omega)
  obtain ⟨K2, g2⟩ := specSameAlarms_ev x.f3 y.f3 h.2.2.2
  refine ⟨K1 + K2, fun k hk => ?_⟩
  have e1 := g1 k (by omega)
  have e2 := g2 k (by omega)
  simp only at e1 e2
  simp only [spec_SameBatch.f, e1, e2, Option.bind_some, sameBatch]
  by_cases c1 : x.f0 = y.f0 <;> by_cases c2 : x.f2 = y.f2 <;> cases sameSet x.f1 y.f1 <;> simp [c1, c2]
def sameGroup (x y : S68) : Bool := decide (x.f0 = y.f0) && (sameSet x.f1 y.f1 && (decide (x.f2 = y.f2) && (decide (x.f3 = y.f3) && sameAlarms x.f4 y.f4)))
theorem implSameGroup_ev (x y : S68) (h : WiGroup x) : Ev (fun k => impl_SameGroup.f k x.f0 x.f1 x.f2 x.f3 x.f4 y.f0 y.f1 y.f2 y.f3 y.f4) (sameGroup x y) := by
  have h1 := h.2.1.1
  obtain ⟨K1, g1⟩ := implSameSet_ev x.f1 y.f1 (by omega)
  obtain ⟨K2, g2⟩ := implSameAlarms_ev x.f4 y.f4 h.2.2.2.2
  refine ⟨K1 + K2, fun k hk => ?_⟩
  have e1 := g1 k (by omega)
  have e2 := g2 k (by omega)
  simp only at e1 e2
  simp only [impl_SameGroup.f, e1, e2, Option.bind_some, sameGroup]
  by_cases c1 : x.f0 = y.f0 <;> by_cases c2 : x.f2 = y.f2 <;> by_cases c3 : x.f3 = y.f3 <;> cases sameSet x.f1 y.f1 <;> simp [c1, c2, c3]
theorem specSameGroup_ev (x y : S68) (h : WiGroup x) : Ev (fun k => spec_SameGroup.f k x.f0 x.f1 x.f2 x.f3 x.f4 y.f0 y.f1 y.f2 y.f3 y.f4) (sameGroup x y) := by
  have h1 := h.2.1.1
  obtain ⟨K1, g1⟩ := specSameSet_ev x.f1 y.f1 (by omega)
  obtain ⟨K2, g2⟩ := specSameAlarms_ev x.f4 y.f4 h.2.2.2.2
  refine ⟨K1 + K2, fun k hk => ?_⟩
  have e1 := g1 k (by omega)
  have e2 := g2 k (by omega)
  simp only at e1 e2
  simp only [spec_SameGroup.f, e1, e2, Option.bind_some, sameGroup]
  by_cases c1 : x.f0 = y.f0 <;> by_cases c2 : x.f2 = y.f2 <;> by_cases c3 : x.f3 = y.f3 <;> cases sameSet x.f1 y.f1 <;> simp [c1, c2, c3]

end Go.Proofs.Ytmmaondenopnpaa.Print
