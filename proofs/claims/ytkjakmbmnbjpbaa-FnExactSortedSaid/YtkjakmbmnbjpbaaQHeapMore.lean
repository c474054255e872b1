import Derived.Test.YtkjakmbmnbjpbaaF0
import Derived.Test.YtkjakmbmnbjpbaaF13
import Derived.Test.YtkjakmbmnbjpbaaF15
import Derived.Test.YtkjakmbmnbjpbaaF30
import Derived.Test.YtkjakmbmnbjpbaaF31
import Derived.Test.YtkjakmbmnbjpbaaF33
import Derived.Test.YtkjakmbmnbjpbaaF34
import Derived.Test.YtkjakmbmnbjpbaaF43
import Derived.Test.YtkjakmbmnbjpbaaF58
import Derived.Test.YtkjakmbmnbjpbaaQBase
import Derived.Test.YtkjakmbmnbjpbaaQTimer
import Derived.Test.YtkjakmbmnbjpbaaQHeap
import Derived.Test.YtkjakmbmnbjpbaaQHeapTake
namespace Go.Proofs.Ytkjakmbmnbjpbaa.Print
open Go.RowKit Go.Proofs.YtkjakmbmnbjpbaaV.PrintWords Go.Proofs.YtkjakmbmnbjpbaaV.PrintLast Go.Proofs.YtkjakmbmnbjpbaaV.PrintMore
set_option linter.unusedVariables false
set_option linter.unusedSimpArgs false
theorem hTake_pos (l : List S25) (h : 0 < l.length) : hTake l = (hRest l, (l.getD 0 z25).f0, (l.getD 0 z25).f1, true) := by unfold hTake; rw [if_neg (by omega)]
theorem hTake_nil (l : List S25) (h : l.length = 0) : hTake l = ([], 0, 0, false) := by unfold hTake; rw [if_pos h]
/-- Timers in order. -/
def srt : Nat → List S25 → List S25
  | 0, _ => []
  | n + 1, l => l.getD 0 z25 :: srt n (hRest l)
theorem srt_length : ∀ (n : Nat) (l : List S25), (srt n l).length = n
  | 0, _ => rfl
  | n + 1, l => by simp [srt, srt_length n]
theorem implSorted_l0 : ∀ (n : Nat) (l acc : List S25), l.length = n → acc.length + n < 4000000000 → Ev (fun k => impl_Sorted.l0 k l acc) (acc ++ srt n l)
  | 0, l, acc, hn, hb => by
    have h1 := implTake_ev l (by omega)
    rw [hTake_nil l hn] at h1
    refine Ev.step (f := fun k => (impl_HeapTake.f k l).bind fun b => if b.2.2.2 = true then (if acc.length < 8796093022208 then impl_Sorted.l0 k b.1 (acc ++ [(⟨b.2.1, b.2.2.1⟩ : S25)]) else none) else some acc) (fun k => by simp only [impl_Sorted.l0]) ?_
    refine Ev.bind h1 ?_
    simp only [Bool.false_eq_true, if_false, srt, List.append_nil]
    exact Ev.now _
  | n + 1, l, acc, hn, hb => by
    have h1 := implTake_ev l (by omega)
    rw [hTake_pos l (by omega)] at h1
    have ih := implSorted_l0 n (hRest l) (acc ++ [l.getD 0 z25]) (by rw [hRest_length]; omega) (by simp; omega)
    refine Ev.step (f := fun k => (impl_HeapTake.f k l).bind fun b => if b.2.2.2 = true then (if acc.length < 8796093022208 then impl_Sorted.l0 k b.1 (acc ++ [(⟨b.2.1, b.2.2.1⟩ : S25)]) else none) else some acc) (fun k => by simp only [impl_Sorted.l0]) ?_
    refine Ev.bind h1 ?_
    simp only [if_true, if_pos (show acc.length < 8796093022208 by omega)]
    simpa [srt] using ih
theorem implSorted_ev (l : List S25) (h : l.length < 1000000000) : Ev (fun k => impl_Sorted.f k l) (srt l.length l) := by
  unfold impl_Sorted.f
  exact implSorted_l0 l.length l [] rfl (by simp; omega)
theorem specSorted_l0 : ∀ (n : Nat) (l acc : List S25), l.length = n → acc.length + n < 4000000000 → Ev (fun k => spec_Sorted.l0 k acc l) (acc ++ srt n l)
  | 0, l, acc, hn, hb => by
    refine Ev.step (f := fun k => some acc) (fun k => ?_) (by simpa [srt] using Ev.now acc)
    simp only [spec_Sorted.l0]
    rw [if_neg (by omega)]
  | n + 1, l, acc, hn, hb => by
    have h1 := specTake_ev l (by omega)
    rw [hTake_pos l (by omega)] at h1
    have ih := specSorted_l0 n (hRest l) (acc ++ [l.getD 0 z25]) (by rw [hRest_length]; omega) (by simp; omega)
    refine Ev.step (f := fun k => (spec_HeapTake.f k l).bind fun b => if acc.length < 8796093022208 then spec_Sorted.l0 k (acc ++ [(⟨b.2.1, b.2.2.1⟩ : S25)]) b.1 else none) (fun k => ?_) ?_
    · simp only [spec_Sorted.l0]
      rw [if_pos (by omega)]
    refine Ev.bind h1 ?_
    simp only [if_pos (show acc.length < 8796093022208 by omega)]
    simpa [srt] using ih
theorem specSorted_ev (l : List S25) (h : l.length < 1000000000) : Ev (fun k => spec_Sorted.f k l) (srt l.length l) := by
  unfold spec_Sorted.f
  simp only [Option.bind_some, List.length_nil, Nat.zero_add, List.nil_append, if_pos (show l.length < 8796093022208 by omega)]
  exact specSorted_l0 l.length l [] rfl (by simp; omega)
/-- What is left behind a drop. -/
def hDrop (n : Int) : List S25 → List S25 → List S25
  | acc, [] => acc
  | acc, t :: l => if t.f1 = n then hDrop n acc l else hDrop n (hPut acc t) l
theorem hDrop_length (n : Int) : ∀ (l acc : List S25), (hDrop n acc l).length ≤ acc.length + l.length
  | [], acc => by simp [hDrop]
  | t :: l, acc => by
    unfold hDrop
    split
    · have := hDrop_length n l acc; simp; omega
    · have := hDrop_length n l (hPut acc t); rw [hPut_length] at this; simp; omega
theorem implDrop_l0 (n : Int) : ∀ (suf pre acc : List S25), (pre ++ suf).length < 1000000000 → acc.length ≤ pre.length → Ev (fun k => impl_HeapDrop.l0 k n acc (pre ++ suf) ((pre ++ suf).length : Int) (pre.length : Int)) (hDrop n acc suf)
  | [], pre, acc, h, h2 => by
    refine Ev.step (f := fun k => some acc) (fun k => ?_) (Ev.now _)
    simp only [impl_HeapDrop.l0]
    rw [if_neg (not_lt_end pre)]
  | y :: suf, pre, acc, h, h2 => by
    have hp : (pre ++ y :: suf).length = pre.length + suf.length + 1 := by simp; omega
    have e1 := lt_mid pre suf y
    unfold hDrop
    by_cases hn : y.f1 = n
    · rw [if_pos hn]
      have ih := implDrop_l0 n suf (pre ++ [y]) acc (by simpa using h) (by simp; omega)
      refine Ev.step (f := fun k => impl_HeapDrop.l0 k n acc ((pre ++ [y]) ++ suf) (((pre ++ [y]) ++ suf).length : Int) ((pre ++ [y]).length : Int)) (fun k => ?_) ih
      simp only [impl_HeapDrop.l0]
      rw [if_pos e1, if_pos (nn _), if_pos e1, rd_midTi, if_pos hn, wrap_up _ (by omega)]
      simp
    · rw [if_neg hn]
      have ih := implDrop_l0 n suf (pre ++ [y]) (hPut acc y) (by simpa using h) (by rw [hPut_length]; simp; omega)
      refine Ev.step (f := fun k => (impl_HeapPut.f k acc y.f0 y.f1).bind fun t => impl_HeapDrop.l0 k n t ((pre ++ [y]) ++ suf) (((pre ++ [y]) ++ suf).length : Int) ((pre ++ [y]).length : Int)) (fun k => ?_) (Ev.bind (implPut_ev acc y (by omega)) ih)
      simp only [impl_HeapDrop.l0]
      rw [if_pos e1, if_pos (nn _), if_pos e1, rd_midTi, if_neg hn, wrap_up _ (by omega)]
      simp
theorem implDrop_ev (l : List S25) (n : Int) (h : l.length < 1000000000) : Ev (fun k => impl_HeapDrop.f k l n) (hDrop n [] l) := by
  unfold impl_HeapDrop.f
  exact implDrop_l0 n l [] [] (by simpa using h) (by simp)
theorem specDrop_l0 (n : Int) : ∀ (suf pre acc : List S25), (pre ++ suf).length < 1000000000 → acc.length ≤ pre.length → Ev (fun k => spec_HeapDrop.l0 k (pre ++ suf) n acc (pre.length : Int)) (hDrop n acc suf)
  | [], pre, acc, h, h2 => by
    refine Ev.step (f := fun k => some acc) (fun k => ?_) (Ev.now _)
    simp only [spec_HeapDrop.l0]
    rw [if_neg (not_lt_end pre)]
  | y :: suf, pre, acc, h, h2 => by
    have hp : (pre ++ y :: suf).length = pre.length + suf.length + 1 := by simp; omega
    have e1 := lt_mid pre suf y
    unfold hDrop
    by_cases hn : y.f1 = n
    · rw [if_pos hn]
      have ih := specDrop_l0 n suf (pre ++ [y]) acc (by simpa using h) (by simp; omega)
      refine Ev.step (f := fun k => spec_HeapDrop.l0 k ((pre ++ [y]) ++ suf) n acc ((pre ++ [y]).length : Int)) (fun k => ?_) ih
      simp only [spec_HeapDrop.l0]
      rw [if_pos e1, if_pos (nn _), rd_midTi, if_pos hn, wrap_up _ (by omega)]
      simp
    · rw [if_neg hn]
      have ih := specDrop_l0 n suf (pre ++ [y]) (hPut acc y) (by simpa using h) (by rw [hPut_length]; simp; omega)
      refine Ev.step (f := fun k => (spec_HeapPut.f k acc y.f0 y.f1).bind fun t => spec_HeapDrop.l0 k ((pre ++ [y]) ++ suf) n t ((pre ++ [y]).length : Int)) (fun k => ?_) (Ev.bind (specPut_ev acc y (by omega)) ih)
      simp only [spec_HeapDrop.l0]
      rw [if_pos e1, if_pos (nn _), rd_midTi, if_neg hn, wrap_up _ (by omega)]
      simp
theorem specDrop_ev (l : List S25) (n : Int) (h : l.length < 1000000000) : Ev (fun k => spec_HeapDrop.f k l n) (hDrop n [] l) := by
  unfold spec_HeapDrop.f
  exact specDrop_l0 n l [] [] (by simpa using h) (by simp)

end Go.Proofs.Ytkjakmbmnbjpbaa.Print
