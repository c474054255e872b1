import Derived.Test.YticgekgojgkbgaaDoorF0
import Derived.Test.YticgekgojgkbgaaDoorF5
import Derived.Test.YticgekgojgkbgaaDoorF6
import Derived.Test.YticgekgojgkbgaaDoorF7
import Derived.Test.YticgekgojgkbgaaDoorF8
import Derived.Test.YticgekgojgkbgaaDoorF15
import Derived.Test.YticgekgojgkbgaaDoorF16
import Derived.Test.YticgekgojgkbgaaDoorF17
import Derived.Test.YticgekgojgkbgaaDoorQBase
import Derived.Test.YticgekgojgkbgaaDoorQScan
import Derived.Test.YticgekgojgkbgaaDoorQNames
import Derived.Test.YticgekgojgkbgaaDoorQFamConf
namespace Go.Proofs.YticgekgojgkbgaaDoor.Print
open Go.RowKit Go.Proofs.YticgekgojgkbgaaDoorV.PrintWords Go.Proofs.YticgekgojgkbgaaDoorV.PrintLast Go.Proofs.YticgekgojgkbgaaDoorV.PrintMore
set_option linter.unusedVariables false
set_option linter.unusedSimpArgs false
theorem rdnString (l : List ByteArray) (i : Nat) : rdOf ByteArray.empty l (i : Int) = l.getD i ByteArray.empty := by unfold rdOf; simp
def ordStep (l : List ByteArray) (i : Nat) : Option Bool := if Op.bytesLess (l.getD i ByteArray.empty).toList (l.getD (i + 1) ByteArray.empty).toList = true then none else some false
def inOrder (l : List ByteArray) : Bool := scan (ordStep l) true (l.length - 1) 0
theorem up1 (i : Nat) (hi : i < 4611686018427387904) : wrap64 ((i : Int) + 1 - 1) = (i : Int) := by rw [wrap_id (by omega) (by omega)]; omega
theorem implInOrder_ev (l : List ByteArray) (h : l.length < 4611686018427387904) : Ev (fun k => impl_InOrder.f k l) (inOrder l) := by
  unfold impl_InOrder.f inOrder
  by_cases h0 : l.length = 0
  · rw [h0]
    refine Ev.step (f := fun _ => some true) (fun k => ?_) (Ev.now _)
    simp only [impl_InOrder.l0]; rw [if_neg (by omega)]
  · refine scan_ev (F := fun k i => impl_InOrder.l0 k l (i + 1)) (n := l.length - 1) (fun k => ?_) (fun i hi => ⟨0, fun k _ => ?_⟩) (l.length - 1) 0 (by omega)
    · simp only [impl_InOrder.l0]; rw [if_neg (by omega)]
    · simp only [impl_InOrder.l0]
      rw [if_pos (by omega), up1 i (by omega), if_pos (by omega), if_pos (by omega), if_pos (by omega), show (i : Int) + 1 = ((i + 1 : Nat) : Int) by omega, rdnString, rdnString, wrap_up (i + 1) (by omega)]
      unfold ordStep
      cases Op.bytesLess (l.getD i ByteArray.empty).toList (l.getD (i + 1) ByteArray.empty).toList <;> simp [goOn]
theorem specInOrder_ev (l : List ByteArray) (h : l.length < 4611686018427387904) : Ev (fun k => spec_InOrder.f k l) (inOrder l) := by
  unfold spec_InOrder.f inOrder
  by_cases h0 : l.length = 0
  · rw [h0]
    refine Ev.step (f := fun _ => some true) (fun k => ?_) (Ev.now _)
    simp only [spec_InOrder.l0]; rw [if_neg (by omega)]
  · refine scan_ev (F := fun k i => spec_InOrder.l0 k l (i + 1)) (n := l.length - 1) (fun k => ?_) (fun i hi => ⟨0, fun k _ => ?_⟩) (l.length - 1) 0 (by omega)
    · simp only [spec_InOrder.l0]; rw [if_neg (by omega)]
    · simp only [spec_InOrder.l0, spec_Less.f, Option.bind_some]
      rw [if_pos (by omega), up1 i (by omega), if_pos (by omega), if_pos (by omega), if_pos (by omega), show (i : Int) + 1 = ((i + 1 : Nat) : Int) by omega, rdnString, rdnString, wrap_up (i + 1) (by omega)]
      unfold ordStep
      cases Op.bytesLess (l.getD i ByteArray.empty).toList (l.getD (i + 1) ByteArray.empty).toList <;> simp [goOn]
def byOk (l : List ByteArray) : Bool := l.all nameOk && (decide ((l.length : Int) ≤ 2) && inOrder l)
theorem implByOk_ev (l : List ByteArray) (h : l.length ≤ 4000000 ∧ ∀ y ∈ l, y.size ≤ 4000000) : Ev (fun k => impl_ByOk.f k l) (byOk l) := by
  have h1 := h.1
  unfold impl_ByOk.f byOk
  obtain ⟨K0, g0⟩ := implInOrder_ev l (by omega)
  rw [← scan_all0 nameOk ByteArray.empty _ l]
  refine scan_ev2 (F := fun k i => impl_ByOk.l0 k l l (l.length : Int) i) (n := l.length) ⟨K0, fun k hk => ?_⟩ (fun i hi => ?_) l.length 0 (by omega)
  · have e := g0 k hk
    simp only at e
    simp only [impl_ByOk.l0]
    rw [if_neg (by omega), e]
    by_cases h2 : (l.length : Int) ≤ 2
    · rw [if_pos h2]; simp [h2]
    · rw [if_neg h2]; simp [h2]
  · have hs := h.2 _ (getD_mem l i ByteArray.empty hi)
    obtain ⟨K, g⟩ := implNameOk_ev (l.getD i ByteArray.empty) (by omega)
    refine ⟨K, fun k hk => ?_⟩
    have e := g k hk
    simp only at e
    simp only [impl_ByOk.l0]
    rw [if_pos (by omega), if_pos (by omega), if_pos (by omega), rdnString, e, Option.bind_some, wrap_up i (by omega)]
    cases nameOk (l.getD i ByteArray.empty) <;> simp [goOn]
theorem specByOk_ev (l : List ByteArray) (h : l.length ≤ 4000000 ∧ ∀ y ∈ l, y.size ≤ 4000000) : Ev (fun k => spec_ByOk.f k l) (byOk l) := by
  have h1 := h.1
  unfold spec_ByOk.f byOk
  obtain ⟨K0, g0⟩ := specInOrder_ev l (by omega)
  rw [← scan_all0 nameOk ByteArray.empty _ l]
  refine scan_ev2 (F := fun k i => spec_ByOk.l0 k l i) (n := l.length) ⟨K0, fun k hk => ?_⟩ (fun i hi => ?_) l.length 0 (by omega)
  · have e := g0 k hk
    simp only at e
    simp only [spec_ByOk.l0]
    rw [if_neg (by omega), e]
    by_cases h2 : (l.length : Int) ≤ 2
    · rw [if_pos h2]; simp [h2]
    · rw [if_neg h2]; simp [h2]
  · have hs := h.2 _ (getD_mem l i ByteArray.empty hi)
    obtain ⟨K, g⟩ := specNameOk_ev (l.getD i ByteArray.empty) (by omega)
    refine ⟨K, fun k hk => ?_⟩
    have e := g k hk
    simp only at e
    simp only [spec_ByOk.l0]
    rw [if_pos (by omega), if_pos (by omega), rdnString, e, Option.bind_some, wrap_up i (by omega)]
    cases nameOk (l.getD i ByteArray.empty) <;> simp [goOn]
def confOk (c : S27) : Bool := (decide (1 ≤ c.f0) && decide (c.f0 ≤ 3)) && ((decide (1 ≤ c.f1) && decide (c.f1 ≤ 8)) && ((decide (1 ≤ c.f2) && decide (c.f2 ≤ 2)) && ((decide (1 ≤ c.f3) && decide (c.f3 ≤ 9)) && ((decide (1 ≤ c.f4) && decide (c.f4 ≤ 9)) && byOk c.f5))))
theorem implConfOk_ev (c : S27) (h : WiConf c) : Ev (fun k => impl_ConfOk.f k c.f0 c.f1 c.f2 c.f3 c.f4 c.f5) (confOk c) := by
  obtain ⟨K, g⟩ := implByOk_ev c.f5 h.2.2.2.2.2
  refine ⟨K, fun k hk => ?_⟩
  have e := g k hk
  simp only at e
  simp only [impl_ConfOk.f, inEq, e, Option.bind_some, confOk]
  cases (decide (1 ≤ c.f0) && decide (c.f0 ≤ 3)) <;> cases (decide (1 ≤ c.f1) && decide (c.f1 ≤ 8)) <;> cases (decide (1 ≤ c.f2) && decide (c.f2 ≤ 2)) <;> cases (decide (1 ≤ c.f3) && decide (c.f3 ≤ 9)) <;> cases (decide (1 ≤ c.f4) && decide (c.f4 ≤ 9)) <;> simp
theorem specConfOk_ev (c : S27) (h : WiConf c) : Ev (fun k => spec_ConfOk.f k c.f0 c.f1 c.f2 c.f3 c.f4 c.f5) (confOk c) := by
  obtain ⟨K, g⟩ := specByOk_ev c.f5 h.2.2.2.2.2
  refine ⟨K, fun k hk => ?_⟩
  have e := g k hk
  simp only at e
  simp only [spec_ConfOk.f, l1InEq, e, Option.bind_some, confOk]
  cases (decide (1 ≤ c.f0) && decide (c.f0 ≤ 3)) <;> cases (decide (1 ≤ c.f1) && decide (c.f1 ≤ 8)) <;> cases (decide (1 ≤ c.f2) && decide (c.f2 ≤ 2)) <;> cases (decide (1 ≤ c.f3) && decide (c.f3 ≤ 9)) <;> cases (decide (1 ≤ c.f4) && decide (c.f4 ≤ 9)) <;> simp

end Go.Proofs.YticgekgojgkbgaaDoor.Print
