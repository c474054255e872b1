import Derived.Test.YtkjakmbmnbjpbaaF0
import Derived.Test.YtkjakmbmnbjpbaaF7
import Derived.Test.YtkjakmbmnbjpbaaF9
import Derived.Test.YtkjakmbmnbjpbaaQBase
import Derived.Test.YtkjakmbmnbjpbaaQTimer
import Derived.Test.YtkjakmbmnbjpbaaQHeap
namespace Go.Proofs.Ytkjakmbmnbjpbaa.Print
open Go.RowKit Go.Proofs.YtkjakmbmnbjpbaaW.PrintWords Go.Proofs.YtkjakmbmnbjpbaaW.PrintLast Go.Proofs.YtkjakmbmnbjpbaaW.PrintMore
set_option linter.unusedVariables false
set_option linter.unusedSimpArgs false
def bad (l : List S25) (i : Nat) : Bool := if (l.getD i z25).f0 < 0 then true else if (l.getD i z25).f1 < 0 then true else if 0 < i then bf (l.getD i z25) (l.getD ((i - 1) / 2) z25) else false
def okFrom (l : List S25) : Nat → Nat → Bool
  | 0, _ => decide ((l.length : Int) ≤ 16)
  | d + 1, i => if bad l i = true then false else okFrom l d (i + 1)
theorem implHeapOk_l0 (l : List S25) (hl : l.length < 4611686018427387904) : ∀ (d i : Nat), d + i = l.length → Ev (fun k => impl_HeapOk.l0 k l l (l.length : Int) (i : Int)) (okFrom l d i)
  | 0, i, h => by
    refine Ev.step (f := fun _ => some (okFrom l 0 i)) (fun k => ?_) (Ev.now _)
    simp only [impl_HeapOk.l0]
    rw [if_neg (by omega)]
    rfl
  | d + 1, i, h => by
    have ih := implHeapOk_l0 l hl d (i + 1) (by omega)
    have hw := wrap_up i (by omega)
    by_cases hb : bad l i = true
    · have e : okFrom l (d + 1) i = false := by simp [okFrom, hb]
      rw [e]
      refine Ev.step (f := fun _ => some false) (fun k => ?_) (Ev.now _)
      simp only [impl_HeapOk.l0]
      unfold bad at hb
      rw [if_pos (by omega), if_pos (by omega), if_pos (by omega), rd_natTi]
      split at hb
      · rename_i h1; rw [if_pos h1]
      · rename_i h1; rw [if_neg h1]
        split at hb
        · rename_i h2; rw [if_pos h2]
        · rename_i h2; rw [if_neg h2]
          split at hb
          · rename_i h3; rw [if_pos (by omega), par_eq i h3 (by omega), if_pos (by omega), if_pos (by omega), rd_natTi, implBefore, Option.bind_some, if_pos hb]
          · cases hb
    · have e : okFrom l (d + 1) i = okFrom l d (i + 1) := by simp [okFrom, hb]
      rw [e]
      refine Ev.step (f := fun k => impl_HeapOk.l0 k l l (l.length : Int) ((i + 1 : Nat) : Int)) (fun k => ?_) ih
      simp only [impl_HeapOk.l0]
      unfold bad at hb
      rw [if_pos (by omega), if_pos (by omega), if_pos (by omega), rd_natTi]
      split at hb
      · exact absurd rfl hb
      · rename_i h1; rw [if_neg h1]
        split at hb
        · exact absurd rfl hb
        · rename_i h2; rw [if_neg h2]
          split at hb
          · rename_i h3; rw [if_pos (by omega), par_eq i h3 (by omega), if_pos (by omega), if_pos (by omega), rd_natTi, implBefore, Option.bind_some, if_neg hb, hw]
          · rename_i h3; rw [if_neg (by omega), hw]
theorem specHeapOk_l0 (l : List S25) (hl : l.length < 4611686018427387904) : ∀ (d i : Nat), d + i = l.length → Ev (fun k => spec_HeapOk.l0 k l (i : Int)) (okFrom l d i)
  | 0, i, h => by
    refine Ev.step (f := fun _ => some (okFrom l 0 i)) (fun k => ?_) (Ev.now _)
    simp only [spec_HeapOk.l0]
    rw [if_neg (by omega)]
    rfl
  | d + 1, i, h => by
    have ih := specHeapOk_l0 l hl d (i + 1) (by omega)
    have hw := wrap_up i (by omega)
    by_cases hb : bad l i = true
    · have e : okFrom l (d + 1) i = false := by simp [okFrom, hb]
      rw [e]
      refine Ev.step (f := fun _ => some false) (fun k => ?_) (Ev.now _)
      simp only [spec_HeapOk.l0]
      unfold bad at hb
      rw [if_pos (by omega), if_pos (by omega), rd_natTi]
      split at hb
      · rename_i h1; rw [if_pos h1]
      · rename_i h1; rw [if_neg h1]
        split at hb
        · rename_i h2; rw [if_pos h2]
        · rename_i h2; rw [if_neg h2]
          split at hb
          · rename_i h3; rw [if_pos (by omega), par_eq i h3 (by omega), if_pos (by omega), if_pos (by omega), rd_natTi, specBefore, Option.bind_some, if_pos hb]
          · cases hb
    · have e : okFrom l (d + 1) i = okFrom l d (i + 1) := by simp [okFrom, hb]
      rw [e]
      refine Ev.step (f := fun k => spec_HeapOk.l0 k l ((i + 1 : Nat) : Int)) (fun k => ?_) ih
      simp only [spec_HeapOk.l0]
      unfold bad at hb
      rw [if_pos (by omega), if_pos (by omega), rd_natTi]
      split at hb
      · exact absurd rfl hb
      · rename_i h1; rw [if_neg h1]
        split at hb
        · exact absurd rfl hb
        · rename_i h2; rw [if_neg h2]
          split at hb
          · rename_i h3; rw [if_pos (by omega), par_eq i h3 (by omega), if_pos (by omega), if_pos (by omega), rd_natTi, specBefore, Option.bind_some, if_neg hb, hw]
          · rename_i h3; rw [if_neg (by omega), hw]
def hOk (l : List S25) : Bool := okFrom l l.length 0
theorem implHeapOk_ev (l : List S25) (hl : l.length < 4611686018427387904) : Ev (fun k => impl_HeapOk.f k l) (hOk l) := by
  unfold impl_HeapOk.f
  exact implHeapOk_l0 l hl l.length 0 (by omega)
theorem specHeapOk_ev (l : List S25) (hl : l.length < 4611686018427387904) : Ev (fun k => spec_HeapOk.f k l) (hOk l) := by
  unfold spec_HeapOk.f
  exact specHeapOk_l0 l hl l.length 0 (by omega)

end Go.Proofs.Ytkjakmbmnbjpbaa.Print
