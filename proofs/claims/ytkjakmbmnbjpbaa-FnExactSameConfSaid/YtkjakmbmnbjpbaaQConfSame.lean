import Derived.Test.YtkjakmbmnbjpbaaF0
import Derived.Test.YtkjakmbmnbjpbaaF21
import Derived.Test.YtkjakmbmnbjpbaaF22
import Derived.Test.YtkjakmbmnbjpbaaF25
import Derived.Test.YtkjakmbmnbjpbaaF26
import Derived.Test.YtkjakmbmnbjpbaaQBase
import Derived.Test.YtkjakmbmnbjpbaaQScan
import Derived.Test.YtkjakmbmnbjpbaaQFamConf
namespace Go.Proofs.Ytkjakmbmnbjpbaa.Print
open Go.RowKit Go.Proofs.YtkjakmbmnbjpbaaV.PrintWords Go.Proofs.YtkjakmbmnbjpbaaV.PrintLast Go.Proofs.YtkjakmbmnbjpbaaV.PrintMore
set_option linter.unusedVariables false
set_option linter.unusedSimpArgs false
theorem rdnString2 (l : List ByteArray) (i : Nat) : rdOf ByteArray.empty l (i : Int) = l.getD i ByteArray.empty := by unfold rdOf; simp
def sameTexts (a b : List ByteArray) : Bool := decide (a.map ByteArray.toList = b.map ByteArray.toList)
theorem map_ne_of_length2 {α β : Type} {f : α → β} {a b : List α} (h : ¬ a.length = b.length) : ¬ (a.map f = b.map f) := fun e => h (by simpa using congrArg List.length e)
theorem implSameTexts_ev (a b : List ByteArray) (h : a.length < 4611686018427387904) : Ev (fun k => impl_sameTexts.f k a b) (sameTexts a b) := by
  unfold impl_sameTexts.f sameTexts
  by_cases hl : a.length = b.length
  · simp only [if_pos (show (a.length : Int) = (b.length : Int) by omega)]
    rw [← scan_same0 ByteArray.toList ByteArray.empty a b hl]
    refine scan_ev (F := fun k i => impl_sameTexts.l0 k a b (a.length : Int) i) (n := a.length) (fun k => ?_) (fun i hi => ⟨0, fun k _ => ?_⟩) a.length 0 (by omega)
    · simp only [impl_sameTexts.l0]; rw [if_neg (by omega)]
    · simp only [impl_sameTexts.l0]
      rw [if_pos (by omega), if_pos (by omega), if_pos (by omega), if_pos (by omega), rdnString2, rdnString2, wrap_up i (by omega)]
      by_cases hc : (a.getD i ByteArray.empty).toList = (b.getD i ByteArray.empty).toList
      · rw [if_pos hc, if_pos hc]; rfl
      · rw [if_neg hc, if_neg hc]; rfl
  · simp only [if_neg (show ¬ (a.length : Int) = (b.length : Int) by omega), decide_eq_false (map_ne_of_length2 hl)]
    exact Ev.now _
theorem specSameTexts_ev (a b : List ByteArray) (h : a.length < 4611686018427387904) : Ev (fun k => spec_l13By.f k a b) (sameTexts a b) := by
  unfold spec_l13By.f sameTexts
  by_cases hl : a.length = b.length
  · simp only [if_pos (show (a.length : Int) = (b.length : Int) by omega)]
    rw [← scan_same0 ByteArray.toList ByteArray.empty a b hl]
    refine scan_ev (F := fun k i => spec_l13By.l0 k a b i) (n := a.length) (fun k => ?_) (fun i hi => ⟨0, fun k _ => ?_⟩) a.length 0 (by omega)
    · simp only [spec_l13By.l0]; rw [if_neg (by omega)]
    · simp only [spec_l13By.l0]
      rw [if_pos (by omega), if_pos (by omega), if_pos (by omega), rdnString2, rdnString2, wrap_up i (by omega)]
      by_cases hc : (a.getD i ByteArray.empty).toList = (b.getD i ByteArray.empty).toList
      · rw [if_pos hc, if_pos hc]; rfl
      · rw [if_neg hc, if_neg hc]; rfl
  · simp only [if_neg (show ¬ (a.length : Int) = (b.length : Int) by omega), decide_eq_false (map_ne_of_length2 hl)]
    exact Ev.now _
def sameConf (x y : S43) : Bool := decide (x.f0 = y.f0) && (decide (x.f1 = y.f1) && (decide (x.f2 = y.f2) && (decide (x.f3 = y.f3) && (decide (x.f4 = y.f4) && sameTexts x.f5 y.f5))))
theorem implSameConf_ev (x y : S43) (h : WiConf x) : Ev (fun k => impl_SameConf.f k x.f0 x.f1 x.f2 x.f3 x.f4 x.f5 y.f0 y.f1 y.f2 y.f3 y.f4 y.f5) (sameConf x y) := by
  have h1 := h.2.2.2.2.2.1
  obtain ⟨K, g⟩ := implSameTexts_ev x.f5 y.f5 (by omega)
  refine ⟨K, fun k hk => ?_⟩
  have e := g k hk
  simp only at e
  simp only [impl_SameConf.f, e, Option.bind_some, sameConf]
  by_cases c0 : x.f0 = y.f0
  · by_cases c1 : x.f1 = y.f1
    · by_cases c2 : x.f2 = y.f2
      · by_cases c3 : x.f3 = y.f3
        · by_cases c4 : x.f4 = y.f4 <;> simp [c0, c1, c2, c3, c4]
        · simp [c0, c1, c2, c3]
      · simp [c0, c1, c2]
    · simp [c0, c1]
  · simp [c0]
theorem specSameConf_ev (x y : S43) (h : WiConf x) : Ev (fun k => spec_SameConf.f k x.f0 x.f1 x.f2 x.f3 x.f4 x.f5 y.f0 y.f1 y.f2 y.f3 y.f4 y.f5) (sameConf x y) := by
  have h1 := h.2.2.2.2.2.1
  obtain ⟨K, g⟩ := specSameTexts_ev x.f5 y.f5 (by omega)
  refine ⟨K, fun k hk => ?_⟩
  have e := g k hk
  simp only at e
  simp only [spec_SameConf.f, e, Option.bind_some, sameConf]
  by_cases c0 : x.f0 = y.f0
  · by_cases c1 : x.f1 = y.f1
    · by_cases c2 : x.f2 = y.f2
      · by_cases c3 : x.f3 = y.f3
        · by_cases c4 : x.f4 = y.f4 <;> simp [c0, c1, c2, c3, c4]
        · simp [c0, c1, c2, c3]
      · simp [c0, c1, c2]
    · simp [c0, c1]
  · simp [c0]

end Go.Proofs.Ytkjakmbmnbjpbaa.Print
