import Derived.Test.YtfholjcelnkleaaF0
import Derived.Test.YtfholjcelnkleaaF10
import Derived.Test.YtfholjcelnkleaaF19
import Derived.Test.YtfholjcelnkleaaQBase
import Derived.Test.YtfholjcelnkleaaQFamPartS
namespace Go.Proofs.Ytfholjcelnkleaa.Print
open Go.RowKit Go.Proofs.YtfholjcelnkleaaV.PrintWords Go.Proofs.YtfholjcelnkleaaV.PrintLast Go.Proofs.YtfholjcelnkleaaV.PrintMore
set_option linter.unusedVariables false
set_option linter.unusedSimpArgs false
theorem rdnPart (l : List S123) (i : Nat) : rd_T123 l (i : Int) = l.getD i z123 := by unfold rd_T123; simp
theorem rdnChain (l : List S125) (i : Nat) : rd_T125 l (i : Int) = l.getD i z125 := by unfold rd_T125; simp
def cntC (acc : Int) (cs : List S125) : Int := cs.foldl (fun a c => wrap64 (a + (c.f1.length : Int))) acc
def cntP (acc : Int) (ps : List S123) : Int := ps.foldl (fun a p => cntC a p.f2) acc
def countOf (ps : List S123) : Int := cntP 0 ps
theorem implCount_l1 (x8 : List S123) (x9 : Int) (i : Nat) (hi : i < 4611686018427387904) (x15 : List S125) (hx : x15.length ≤ 4000000) (r : Int) : ∀ (suf pre : List S125) (acc : Int), pre ++ suf = x15 → Ev (fun k => impl_CountOf.l0 k (cntC acc suf) x8 x9 ((i + 1 : Nat) : Int)) r →
    Ev (fun k => impl_CountOf.l1 k acc x8 x9 (i : Int) x15 (x15.length : Int) (pre.length : Int)) r
  | [], pre, acc, e, h => by
    refine Ev.step (fun k => ?_) h
    simp only [impl_CountOf.l1]
    rw [if_neg (by rw [← e]; simp), wrap_up i (by omega)]
    rfl
  | y :: suf, pre, acc, e, h => by
    have hl : pre.length < x15.length := by rw [← e]; simp
    have hg : x15.getD pre.length z125 = y := by rw [← e]; simp
    have ih := implCount_l1 x8 x9 i hi x15 hx r suf (pre ++ [y]) (wrap64 (acc + (y.f1.length : Int))) (by rw [← e]; simp) h
    refine Ev.step (f := fun k => impl_CountOf.l1 k (wrap64 (acc + (y.f1.length : Int))) x8 x9 (i : Int) x15 (x15.length : Int) ((pre.length + 1 : Nat) : Int)) (fun k => ?_) (by simpa using ih)
    simp only [impl_CountOf.l1]
    rw [if_pos (by omega), if_pos (by omega), if_pos (by omega), rdnChain, hg, wrap_up _ (by omega)]
theorem implCount_l0 (x8 : List S123) (h : x8.length ≤ 4000000 ∧ ∀ y ∈ x8, WiPart y) : ∀ (suf pre : List S123) (acc : Int), pre ++ suf = x8 → Ev (fun k => impl_CountOf.l0 k acc x8 (x8.length : Int) (pre.length : Int)) (cntP acc suf)
  | [], pre, acc, e => by
    refine Ev.step (f := fun _ => some acc) (fun k => ?_) (Ev.now _)
    simp only [impl_CountOf.l0]
    rw [if_neg (by rw [← e]; simp)]
  | y :: suf, pre, acc, e => by
    have h1 := h.1
    have hl : pre.length < x8.length := by rw [← e]; simp
    have hg : x8.getD pre.length z123 = y := by rw [← e]; simp
    have hy := (h.2 y (by rw [← e]; simp)).2.2.1
    have ih := implCount_l0 x8 h suf (pre ++ [y]) (cntC acc y.f2) (by rw [← e]; simp)
    refine Ev.step (f := fun k => impl_CountOf.l1 k acc x8 (x8.length : Int) (pre.length : Int) y.f2 (y.f2.length : Int) ((([] : List S125).length : Nat) : Int)) (fun k => ?_) (implCount_l1 x8 _ pre.length (by omega) y.f2 hy _ y.f2 [] acc rfl (by simpa [cntP] using ih))
    simp only [impl_CountOf.l0]
    rw [if_pos (by omega), if_pos (by omega), if_pos (by omega), rdnPart, hg]
    rfl
theorem implCountOf_ev (l : List S123) (h : l.length ≤ 4000000 ∧ ∀ y ∈ l, WiPart y) : Ev (fun k => impl_CountOf.f k l) (countOf l) := by
  unfold impl_CountOf.f countOf
  exact implCount_l0 l h l [] 0 rfl
theorem specCount_l1 (x0 : List S123) (i : Nat) (hi : i < x0.length) (h1 : x0.length ≤ 4000000) (hx : (x0.getD i z123).f2.length ≤ 4000000) (r : Int) : ∀ (suf pre : List S125) (acc : Int), pre ++ suf = (x0.getD i z123).f2 → Ev (fun k => spec_CountOf.l0 k x0 (cntC acc suf) ((i + 1 : Nat) : Int)) r →
    Ev (fun k => spec_CountOf.l1 k x0 acc (i : Int) (pre.length : Int)) r
  | [], pre, acc, e, h => by
    refine Ev.step (fun k => ?_) h
    simp only [spec_CountOf.l1]
    rw [if_pos (by omega), if_pos (by omega), rdnPart, if_neg (by rw [← e]; simp), wrap_up i (by omega)]
    rfl
  | y :: suf, pre, acc, e, h => by
    have hl : pre.length < (x0.getD i z123).f2.length := by rw [← e]; simp
    have hg : (x0.getD i z123).f2.getD pre.length z125 = y := by rw [← e]; simp
    have ih := specCount_l1 x0 i hi h1 hx r suf (pre ++ [y]) (wrap64 (acc + (y.f1.length : Int))) (by rw [← e]; simp) h
    refine Ev.step (f := fun k => spec_CountOf.l1 k x0 (wrap64 (acc + (y.f1.length : Int))) (i : Int) ((pre.length + 1 : Nat) : Int)) (fun k => ?_) (by simpa using ih)
    simp only [spec_CountOf.l1]
    rw [if_pos (by omega), if_pos (by omega), rdnPart, if_pos (by omega), if_pos (by omega), rdnChain, hg, wrap_up _ (by omega)]
theorem specCount_l0 (x8 : List S123) (h : x8.length ≤ 4000000 ∧ ∀ y ∈ x8, WiPart y) : ∀ (suf pre : List S123) (acc : Int), pre ++ suf = x8 → Ev (fun k => spec_CountOf.l0 k x8 acc (pre.length : Int)) (cntP acc suf)
  | [], pre, acc, e => by
    refine Ev.step (f := fun _ => some acc) (fun k => ?_) (Ev.now _)
    simp only [spec_CountOf.l0]
    rw [if_neg (by rw [← e]; simp)]
  | y :: suf, pre, acc, e => by
    have h1 := h.1
    have hl : pre.length < x8.length := by rw [← e]; simp
    have hg : x8.getD pre.length z123 = y := by rw [← e]; simp
    have hy := (h.2 y (by rw [← e]; simp)).2.2.1
    have ih := specCount_l0 x8 h suf (pre ++ [y]) (cntC acc y.f2) (by rw [← e]; simp)
    refine Ev.step (f := fun k => spec_CountOf.l1 k x8 acc (pre.length : Int) ((([] : List S125).length : Nat) : Int)) (fun k => ?_) (specCount_l1 x8 pre.length hl h1 (by rw [hg]; exact hy) _ y.f2 [] acc (by rw [hg]; rfl) (by simpa [cntP] using ih))
    simp only [spec_CountOf.l0]
    rw [if_pos (by omega)]
    rfl
theorem specCountOf_ev (l : List S123) (h : l.length ≤ 4000000 ∧ ∀ y ∈ l, WiPart y) : Ev (fun k => spec_CountOf.f k l) (countOf l) := by
  unfold spec_CountOf.f countOf
  exact specCount_l0 l h l [] 0 rfl

end Go.Proofs.Ytfholjcelnkleaa.Print
