import Derived.Test.YtkjakmbmnbjpbaaF0
import Derived.Test.YtkjakmbmnbjpbaaF2
import Derived.Test.YtkjakmbmnbjpbaaF4
import Derived.Test.YtkjakmbmnbjpbaaF13
import Derived.Test.YtkjakmbmnbjpbaaF14
import Derived.Test.YtkjakmbmnbjpbaaF15
import Derived.Test.YtkjakmbmnbjpbaaQBase
import Derived.Test.YtkjakmbmnbjpbaaQTimer
namespace Go.Proofs.Ytkjakmbmnbjpbaa.Print
open Go.RowKit Go.Proofs.YtkjakmbmnbjpbaaV.PrintWords Go.Proofs.YtkjakmbmnbjpbaaV.PrintLast Go.Proofs.YtkjakmbmnbjpbaaV.PrintMore
set_option linter.unusedVariables false
set_option linter.unusedSimpArgs false
def bf (a b : S25) : Bool := if a.f0 < b.f0 then true else if a.f0 = b.f0 then decide (a.f1 < b.f1) else false
theorem specBefore (a b : S25) : spec_Before.f a.f0 a.f1 b.f0 b.f1 = some (bf a b) := by
  unfold spec_Before.f bf
  split
  · rfl
  · split <;> rfl
theorem implBefore (a b : S25) : impl_Before.f a.f0 a.f1 b.f0 b.f1 = some (bf a b) := by
  unfold impl_Before.f bf
  split
  · rfl
  · split <;> rfl
theorem rd_natTi (l : List S25) (i : Nat) : rd_T25 l (i : Int) = l.getD i z25 := by unfold rd_T25; simp
def sw (l : List S25) (i j : Nat) : List S25 := (l.set i (l.getD j z25)).set j (l.getD i z25)
theorem sw_length (l : List S25) (i j : Nat) : (sw l i j).length = l.length := by simp [sw]
theorem par_eq (i : Nat) (h : 0 < i) (hi : i < 4611686018427387904) : wrap64 (Int.tdiv (wrap64 ((i : Int) - 1)) 2) = (((i - 1) / 2 : Nat) : Int) := by
  rw [wrap_id (x := (i : Int) - 1) (by omega) (by omega)]
  have e : (i : Int) - 1 = ((i - 1 : Nat) : Int) := by omega
  rw [e, Int.tdiv_eq_ediv_of_nonneg (by omega)]
  rw [wrap_id (by omega) (by omega)]
  omega
def up (l : List S25) (i : Nat) : List S25 :=
  if h : 0 < i then (if bf (l.getD i z25) (l.getD ((i - 1) / 2) z25) = true then up (sw l i ((i - 1) / 2)) ((i - 1) / 2) else l) else l
termination_by i
decreasing_by omega
theorem up_zero (l : List S25) : up l 0 = l := by rw [up]; simp
theorem up_pos (l : List S25) (i : Nat) (h : 0 < i) : up l i = if bf (l.getD i z25) (l.getD ((i - 1) / 2) z25) = true then up (sw l i ((i - 1) / 2)) ((i - 1) / 2) else l := by rw [up]; simp [h]
theorem up_length : ∀ (n i : Nat) (l : List S25), i ≤ n → (up l i).length = l.length
  | 0, i, l, h => by obtain rfl : i = 0 := by omega
                     rw [up_zero]
  | n + 1, i, l, h => by
    by_cases h0 : 0 < i
    · rw [up_pos l i h0]
      split
      · rw [up_length n _ _ (by omega), sw_length]
      · rfl
    · obtain rfl : i = 0 := by omega
      rw [up_zero]
theorem implPut_l0 : ∀ (n i : Nat) (l : List S25), i ≤ n → i < l.length → l.length < 4611686018427387904 → Ev (fun k => impl_HeapPut.l0 k l (i : Int)) (up l i)
  | n, i, l, hn, hi, hl => by
    by_cases h0 : 0 < i
    · have hp := par_eq i h0 (by omega)
      rw [up_pos l i h0]
      by_cases hb : bf (l.getD i z25) (l.getD ((i - 1) / 2) z25) = true
      · rw [if_pos hb]
        obtain ⟨n, rfl⟩ : ∃ m, n = m + 1 := ⟨n - 1, by omega⟩
        have ih := implPut_l0 n ((i - 1) / 2) (sw l i ((i - 1) / 2)) (by omega) (by rw [sw_length]; omega) (by rw [sw_length]; exact hl)
        refine Ev.step (f := fun k => impl_HeapPut.l0 k (sw l i ((i - 1) / 2)) (((i - 1) / 2 : Nat) : Int)) (fun k => ?_) ih
        simp only [impl_HeapPut.l0]
        rw [hp, if_pos (by omega), if_pos (by omega), if_pos (by omega), if_pos (by omega), if_pos (by omega), rd_natTi, rd_natTi, implBefore, Option.bind_some, if_pos hb]
        rfl
      · rw [if_neg hb]
        refine Ev.step (f := fun k => some l) (fun k => ?_) (Ev.now _)
        simp only [impl_HeapPut.l0]
        rw [hp, if_pos (by omega), if_pos (by omega), if_pos (by omega), if_pos (by omega), if_pos (by omega), rd_natTi, rd_natTi, implBefore, Option.bind_some, if_neg hb]
    · obtain rfl : i = 0 := by omega
      rw [up_zero]
      refine Ev.step (f := fun k => some l) (fun k => ?_) (Ev.now _)
      simp only [impl_HeapPut.l0]
      rw [if_neg (by omega)]
theorem specPut_l0 : ∀ (n i : Nat) (l : List S25), i ≤ n → i < l.length → l.length < 4611686018427387904 → Ev (fun k => spec_HeapPut.l0 k l (i : Int)) (up l i)
  | n, i, l, hn, hi, hl => by
    by_cases h0 : 0 < i
    · have hp := par_eq i h0 (by omega)
      rw [up_pos l i h0]
      by_cases hb : bf (l.getD i z25) (l.getD ((i - 1) / 2) z25) = true
      · rw [if_pos hb]
        obtain ⟨n, rfl⟩ : ∃ m, n = m + 1 := ⟨n - 1, by omega⟩
        have ih := specPut_l0 n ((i - 1) / 2) (sw l i ((i - 1) / 2)) (by omega) (by rw [sw_length]; omega) (by rw [sw_length]; exact hl)
        refine Ev.step (f := fun k => spec_HeapPut.l0 k (sw l i ((i - 1) / 2)) (((i - 1) / 2 : Nat) : Int)) (fun k => ?_) ih
        simp only [spec_HeapPut.l0]
        rw [hp, if_pos (by omega), if_pos (by omega), if_pos (by omega), if_pos (by omega), if_pos (by omega), rd_natTi, rd_natTi, specBefore, Option.bind_some, if_pos hb]
        rfl
      · rw [if_neg hb]
        refine Ev.step (f := fun k => some l) (fun k => ?_) (Ev.now _)
        simp only [spec_HeapPut.l0]
        rw [hp, if_pos (by omega), if_pos (by omega), if_pos (by omega), if_pos (by omega), if_pos (by omega), rd_natTi, rd_natTi, specBefore, Option.bind_some, if_neg hb]
    · obtain rfl : i = 0 := by omega
      rw [up_zero]
      refine Ev.step (f := fun k => some l) (fun k => ?_) (Ev.now _)
      simp only [spec_HeapPut.l0]
      rw [if_neg (by omega)]
def hPut (l : List S25) (t : S25) : List S25 := up (l ++ [t]) l.length
theorem hPut_length (l : List S25) (t : S25) : (hPut l t).length = l.length + 1 := by unfold hPut; rw [up_length l.length _ _ (Nat.le_refl _)]; simp
theorem len_sub1 (l : List S25) (t : S25) (h : l.length < 4611686018427387904) : wrap64 (((l ++ [t]).length : Int) - 1) = (l.length : Int) := by
  rw [wrap_id (by simp only [List.length_append, List.length_singleton]; omega) (by simp only [List.length_append, List.length_singleton]; omega)]
  simp only [List.length_append, List.length_singleton]
  omega
theorem implPut_ev (l : List S25) (t : S25) (h : l.length < 4000000000) : Ev (fun k => impl_HeapPut.f k l t.f0 t.f1) (hPut l t) := by
  unfold impl_HeapPut.f impl_copyTimers.f
  simp only [List.length_nil, Nat.zero_add, List.nil_append, if_pos (show l.length < 8796093022208 by omega), Option.bind_some, List.length_singleton, if_pos (show l.length + 1 < 8796093022208 by omega), len_sub1 l t (by omega)]
  exact implPut_l0 l.length l.length (l ++ [t]) (Nat.le_refl _) (by simp) (by simp; omega)
theorem specPut_ev (l : List S25) (t : S25) (h : l.length < 4000000000) : Ev (fun k => spec_HeapPut.f k l t.f0 t.f1) (hPut l t) := by
  unfold spec_HeapPut.f
  simp only [List.length_nil, Nat.zero_add, List.nil_append, if_pos (show l.length < 8796093022208 by omega), Option.bind_some, List.length_singleton, if_pos (show l.length + 1 < 8796093022208 by omega), len_sub1 l t (by omega)]
  exact specPut_l0 l.length l.length (l ++ [t]) (Nat.le_refl _) (by simp) (by simp; omega)

end Go.Proofs.Ytkjakmbmnbjpbaa.Print
