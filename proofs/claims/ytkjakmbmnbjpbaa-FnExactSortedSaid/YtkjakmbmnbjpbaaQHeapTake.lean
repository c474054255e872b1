import Derived.Test.YtkjakmbmnbjpbaaF0
import Derived.Test.YtkjakmbmnbjpbaaF14
import Derived.Test.YtkjakmbmnbjpbaaF33
import Derived.Test.YtkjakmbmnbjpbaaF34
import Derived.Test.YtkjakmbmnbjpbaaQBase
import Derived.Test.YtkjakmbmnbjpbaaQTimer
import Derived.Test.YtkjakmbmnbjpbaaQHeap
namespace Go.Proofs.Ytkjakmbmnbjpbaa.Print
open Go.RowKit Go.Proofs.YtkjakmbmnbjpbaaV.PrintWords Go.Proofs.YtkjakmbmnbjpbaaV.PrintLast Go.Proofs.YtkjakmbmnbjpbaaV.PrintMore
set_option linter.unusedVariables false
set_option linter.unusedSimpArgs false
/-- The child that goes up, of place i among the first n. -/
def kid (n : Nat) (l : List S25) (i : Nat) : Nat := if 2 * i + 2 < n then (if bf (l.getD (2 * i + 2) z25) (l.getD (2 * i + 1) z25) = true then 2 * i + 2 else 2 * i + 1) else 2 * i + 1
theorem kid_lo (n : Nat) (l : List S25) (i : Nat) : 2 * i + 1 ≤ kid n l i := by unfold kid; split <;> (try split) <;> omega
theorem kid_hi (n : Nat) (l : List S25) (i : Nat) (h : 2 * i + 1 < n) : kid n l i < n := by unfold kid; split <;> (try split) <;> omega
def down (n : Nat) : Nat → List S25 → Nat → List S25
  | 0, l, _ => l
  | d + 1, l, i => if 2 * i + 1 < n then (if bf (l.getD (kid n l i) z25) (l.getD i z25) = true then down n d (sw l i (kid n l i)) (kid n l i) else l) else l
theorem down_length (n : Nat) : ∀ (d : Nat) (l : List S25) (i : Nat), (down n d l i).length = l.length
  | 0, _, _ => rfl
  | d + 1, l, i => by
    unfold down
    split
    · split
      · rw [down_length n d, sw_length]
      · rfl
    · rfl
theorem down_end (n d : Nat) (l : List S25) (i : Nat) (h : n ≤ 2 * i + 1) : down n d l i = l := by
  cases d with
  | zero => rfl
  | succ d => unfold down; rw [if_neg (by omega)]
theorem wk1 (i : Nat) (h : i < 1000000000000) : wrap64 (wrap64 (2 * (i : Int)) + 1) = ((2 * i + 1 : Nat) : Int) := by
  rw [wrap_id (x := 2 * (i : Int)) (by omega) (by omega), wrap_id (by omega) (by omega)]; omega
theorem wk2 (i : Nat) (h : i < 1000000000000) : wrap64 (((2 * i + 1 : Nat) : Int) + 1) = ((2 * i + 2 : Nat) : Int) := by
  rw [wrap_id (by omega) (by omega)]; omega
theorem implTake_j1 (n i c : Nat) (l : List S25) (b : Bool) (a0 a1 : Int) (hl : l.length < 1000000000000) (hn : n = l.length) (hi : i < n) (hc : c + (if b = true then 1 else 0) = kid n l i) (hk : 2 * i + 1 ≤ c) (hck : b = true → kid n l i < n) (r : List S25 × Int × Int × Bool)
    (h : Ev (fun k => if kid n l i < n then (if bf (l.getD (kid n l i) z25) (l.getD i z25) = true then impl_HeapTake.l0 k (n : Int) (sw l i (kid n l i)) (kid n l i : Int) a0 a1 else some (l, a0, a1, true)) else some (l, a0, a1, true)) r) :
    Ev (fun k => impl_HeapTake.j1 k (n : Int) l (i : Int) (c : Int) b a0 a1) r := by
  refine Ev.step (fun k => ?_) h
  simp only [impl_HeapTake.j1]
  cases b with
  | true =>
    have hk2 := hck rfl
    simp only [if_true] at hc
    have e : wrap64 ((c : Int) + 1) = (kid n l i : Int) := by rw [wrap_up c (by omega), ← hc]
    rw [if_pos rfl, e, if_neg (by omega), if_pos (by omega), if_pos (by omega), if_pos (by omega), if_pos (by omega), rd_natTi, rd_natTi, implBefore, Option.bind_some, if_pos hk2]
    rfl
  | false =>
    simp only [Bool.false_eq_true, if_false, Nat.add_zero] at hc
    subst hc
    rw [if_neg (by simp)]
    by_cases hk2 : kid n l i < n
    · rw [if_neg (by omega), if_pos (by omega), if_pos (by omega), if_pos (by omega), if_pos (by omega), rd_natTi, rd_natTi, implBefore, Option.bind_some, if_pos hk2]
      rfl
    · rw [if_pos (by omega), if_neg hk2]
theorem implTake_l0 (n : Nat) (a0 a1 : Int) : ∀ (d i : Nat) (l : List S25), n = l.length → l.length < 1000000000000 → i < n → n ≤ d + i → Ev (fun k => impl_HeapTake.l0 k (n : Int) l (i : Int) a0 a1) (down n d l i, a0, a1, true)
  | 0, i, l, hn, hl, hi, hd => by omega
  | d + 1, i, l, hn, hl, hi, hd => by
    have w1 := wk1 i (by omega)
    have w2 := wk2 i (by omega)
    have klo := kid_lo n l i
    have ih : Ev (fun k => if kid n l i < n then (if bf (l.getD (kid n l i) z25) (l.getD i z25) = true then impl_HeapTake.l0 k (n : Int) (sw l i (kid n l i)) (kid n l i : Int) a0 a1 else some (l, a0, a1, true)) else some (l, a0, a1, true)) (down n (d + 1) l i, a0, a1, true) := by
      unfold down
      by_cases h1 : 2 * i + 1 < n
      · have khi := kid_hi n l i h1
        simp only [if_pos h1, if_pos khi]
        by_cases hb : bf (l.getD (kid n l i) z25) (l.getD i z25) = true
        · simp only [if_pos hb]
          exact implTake_l0 n a0 a1 d (kid n l i) (sw l i (kid n l i)) (by rw [sw_length]; exact hn) (by rw [sw_length]; exact hl) khi (by omega)
        · simp only [if_neg hb]
          exact Ev.now _
      · simp only [if_neg h1, if_neg (show ¬ kid n l i < n by omega)]
        exact Ev.now _
    by_cases h2 : 2 * i + 2 < n
    · by_cases hb : bf (l.getD (2 * i + 2) z25) (l.getD (2 * i + 1) z25) = true
      · have hk : kid n l i = 2 * i + 2 := by unfold kid; rw [if_pos h2, if_pos hb]
        refine Ev.step (f := fun k => impl_HeapTake.j1 k (n : Int) l (i : Int) ((2 * i + 1 : Nat) : Int) true a0 a1) (fun k => ?_) (implTake_j1 n i (2 * i + 1) l true a0 a1 hl hn hi (by simp [hk]) (Nat.le_refl _) (fun _ => by omega) _ ih)
        simp only [impl_HeapTake.l0]
        rw [w1, w2, if_pos (by omega), if_pos (by omega), if_pos (by omega), if_pos (by omega), if_pos (by omega), rd_natTi, rd_natTi, implBefore, Option.bind_some, hb]
      · have hk : kid n l i = 2 * i + 1 := by unfold kid; rw [if_pos h2, if_neg hb]
        refine Ev.step (f := fun k => impl_HeapTake.j1 k (n : Int) l (i : Int) ((2 * i + 1 : Nat) : Int) false a0 a1) (fun k => ?_) (implTake_j1 n i (2 * i + 1) l false a0 a1 hl hn hi (by simp [hk]) (Nat.le_refl _) (fun h => by cases h) _ ih)
        simp only [impl_HeapTake.l0]
        rw [w1, w2, if_pos (by omega), if_pos (by omega), if_pos (by omega), if_pos (by omega), if_pos (by omega), rd_natTi, rd_natTi, implBefore, Option.bind_some, Bool.eq_false_iff.2 hb]
    · have hk : kid n l i = 2 * i + 1 := by unfold kid; rw [if_neg h2]
      refine Ev.step (f := fun k => impl_HeapTake.j1 k (n : Int) l (i : Int) ((2 * i + 1 : Nat) : Int) false a0 a1) (fun k => ?_) (implTake_j1 n i (2 * i + 1) l false a0 a1 hl hn hi (by simp [hk]) (Nat.le_refl _) (fun h => by cases h) _ ih)
      simp only [impl_HeapTake.l0]
      rw [w1, w2, if_neg (by omega)]
/-- What is taken: the rest and the first. -/
def hRest (l : List S25) : List S25 := if l.length ≤ 1 then [] else down (l.length - 1) (l.length - 1) ((l.take (l.length - 1)).set 0 (l.getD (l.length - 1) z25)) 0
def hTake (l : List S25) : List S25 × Int × Int × Bool := if l.length = 0 then ([], 0, 0, false) else (hRest l, (l.getD 0 z25).f0, (l.getD 0 z25).f1, true)
theorem hRest_length (l : List S25) : (hRest l).length = l.length - 1 := by
  unfold hRest
  split
  · simp; omega
  · rw [down_length]; simp
theorem rd0Ti (l : List S25) : rd_T25 l 0 = l.getD 0 z25 := rfl
theorem implTake_ev (l : List S25) (h : l.length < 4000000000) : Ev (fun k => impl_HeapTake.f k l) (hTake l) := by
  unfold impl_HeapTake.f hTake
  by_cases h0 : l.length = 0
  · simp only [if_pos h0, if_pos (show (l.length : Int) = 0 by omega)]
    exact Ev.now _
  · have w1 : wrap64 ((l.length : Int) - 1) = ((l.length - 1 : Nat) : Int) := by rw [wrap_id (by omega) (by omega)]; omega
    simp only [if_neg h0, if_neg (show ¬ (l.length : Int) = 0 by omega), if_pos (show (0 : Int) < (l.length : Int) by omega), w1, if_pos (nn (l.length - 1)), if_pos (show ((l.length - 1 : Nat) : Int) ≤ (l.length : Int) by omega), impl_copyTimers.f, Int.toNat_natCast, List.length_nil, Nat.zero_add, List.nil_append, List.length_take,
      if_pos (show min (l.length - 1) l.length < 8796093022208 by omega), Option.bind_some, rd0Ti, if_pos (show ((l.length - 1 : Nat) : Int) < (l.length : Int) by omega), rd_natTi]
    unfold hRest
    by_cases h1 : l.length ≤ 1
    · simp only [if_pos h1, if_pos (show ((l.length - 1 : Nat) : Int) = 0 by omega), show l.length - 1 = 0 by omega, List.take_zero]
      exact Ev.now _
    · simp only [if_neg h1, if_neg (show ¬ ((l.length - 1 : Nat) : Int) = 0 by omega), if_pos (show (0 : Int) < ((min (l.length - 1) l.length : Nat) : Int) by omega)]
      exact implTake_l0 (l.length - 1) _ _ (l.length - 1) 0 _ (by simp) (by simp; omega) (by omega) (by omega)
theorem specTake_j2 (l0 : List S25) (n i c : Nat) (l : List S25) (b : Bool) (hl : l.length < 1000000000000) (hn : n = l.length) (h0 : 0 < l0.length) (hi : i < n) (hc : c + (if b = true then 1 else 0) = kid n l i) (hk : kid n l i < n) (r : List S25 × Int × Int × Bool)
    (h : Ev (fun k => if bf (l.getD (kid n l i) z25) (l.getD i z25) = true then spec_HeapTake.l0 k l0 (n : Int) (sw l i (kid n l i)) (kid n l i : Int) else some (l, (l0.getD 0 z25).f0, (l0.getD 0 z25).f1, true)) r) :
    Ev (fun k => spec_HeapTake.j2 k l0 (n : Int) l (i : Int) (c : Int) b) r := by
  refine Ev.step (fun k => ?_) h
  simp only [spec_HeapTake.j2]
  cases b with
  | true =>
    simp only [if_true] at hc
    have e : wrap64 ((c : Int) + 1) = (kid n l i : Int) := by rw [wrap_up c (by omega), ← hc]
    rw [if_pos rfl, e, if_pos (by omega), if_pos (by omega), if_pos (by omega), if_pos (by omega), rd_natTi, rd_natTi, specBefore, Option.bind_some, if_pos (show (0 : Int) < (l0.length : Int) by omega)]
    rfl
  | false =>
    simp only [Bool.false_eq_true, if_false, Nat.add_zero] at hc
    subst hc
    rw [if_neg (by simp), if_pos (by omega), if_pos (by omega), if_pos (by omega), if_pos (by omega), rd_natTi, rd_natTi, specBefore, Option.bind_some, if_pos (show (0 : Int) < (l0.length : Int) by omega)]
    rfl
theorem specTake_l0 (l0 : List S25) (h0 : 0 < l0.length) (n : Nat) : ∀ (d i : Nat) (l : List S25), n = l.length → l.length < 1000000000000 → i ≤ n → n ≤ d + i → Ev (fun k => spec_HeapTake.l0 k l0 (n : Int) l (i : Int)) (down n d l i, (l0.getD 0 z25).f0, (l0.getD 0 z25).f1, true)
  | d, i, l, hn, hl, hin, hd => by
    by_cases h1 : 2 * i + 1 < n
    · have w1 := wk1 i (by omega)
      have w2 := wk2 i (by omega)
      have klo := kid_lo n l i
      have khi := kid_hi n l i h1
      obtain ⟨d, rfl⟩ : ∃ m, d = m + 1 := ⟨d - 1, by omega⟩
      have ih : Ev (fun k => if bf (l.getD (kid n l i) z25) (l.getD i z25) = true then spec_HeapTake.l0 k l0 (n : Int) (sw l i (kid n l i)) (kid n l i : Int) else some (l, (l0.getD 0 z25).f0, (l0.getD 0 z25).f1, true)) (down n (d + 1) l i, (l0.getD 0 z25).f0, (l0.getD 0 z25).f1, true) := by
        unfold down
        simp only [if_pos h1]
        by_cases hb : bf (l.getD (kid n l i) z25) (l.getD i z25) = true
        · simp only [if_pos hb]
          exact specTake_l0 l0 h0 n d (kid n l i) (sw l i (kid n l i)) (by rw [sw_length]; exact hn) (by rw [sw_length]; exact hl) (by omega) (by omega)
        · simp only [if_neg hb]
          exact Ev.now _
      by_cases h2 : 2 * i + 2 < n
      · by_cases hb : bf (l.getD (2 * i + 2) z25) (l.getD (2 * i + 1) z25) = true
        · have hk : kid n l i = 2 * i + 2 := by unfold kid; rw [if_pos h2, if_pos hb]
          refine Ev.step (f := fun k => spec_HeapTake.j2 k l0 (n : Int) l (i : Int) ((2 * i + 1 : Nat) : Int) true) (fun k => ?_) (specTake_j2 l0 n i (2 * i + 1) l true hl hn h0 (by omega) (by simp [hk]) khi _ ih)
          simp only [spec_HeapTake.l0]
          rw [w1, w2, if_pos (by omega), if_pos (by omega), if_pos (by omega), if_pos (by omega), if_pos (by omega), if_pos (by omega), rd_natTi, rd_natTi, specBefore, Option.bind_some, hb]
        · have hk : kid n l i = 2 * i + 1 := by unfold kid; rw [if_pos h2, if_neg hb]
          refine Ev.step (f := fun k => spec_HeapTake.j2 k l0 (n : Int) l (i : Int) ((2 * i + 1 : Nat) : Int) false) (fun k => ?_) (specTake_j2 l0 n i (2 * i + 1) l false hl hn h0 (by omega) (by simp [hk]) khi _ ih)
          simp only [spec_HeapTake.l0]
          rw [w1, w2, if_pos (by omega), if_pos (by omega), if_pos (by omega), if_pos (by omega), if_pos (by omega), if_pos (by omega), rd_natTi, rd_natTi, specBefore, Option.bind_some, Bool.eq_false_iff.2 hb]
      · have hk : kid n l i = 2 * i + 1 := by unfold kid; rw [if_neg h2]
        refine Ev.step (f := fun k => spec_HeapTake.j2 k l0 (n : Int) l (i : Int) ((2 * i + 1 : Nat) : Int) false) (fun k => ?_) (specTake_j2 l0 n i (2 * i + 1) l false hl hn h0 (by omega) (by simp [hk]) khi _ ih)
        simp only [spec_HeapTake.l0]
        rw [w1, w2, if_pos (by omega), if_neg (by omega)]
    · rw [down_end n d l i (by omega)]
      refine Ev.step (f := fun k => some (l, (l0.getD 0 z25).f0, (l0.getD 0 z25).f1, true)) (fun k => ?_) (Ev.now _)
      simp only [spec_HeapTake.l0]
      rw [wk1 i (by omega), if_neg (by omega), if_pos (by omega)]; rfl
theorem specTake_ev (l : List S25) (h : l.length < 4000000000) : Ev (fun k => spec_HeapTake.f k l) (hTake l) := by
  unfold spec_HeapTake.f hTake
  by_cases h0 : l.length = 0
  · simp only [if_pos h0, if_pos (show (l.length : Int) = 0 by omega)]
    exact Ev.now _
  · have w1 : wrap64 ((l.length : Int) - 1) = ((l.length - 1 : Nat) : Int) := by rw [wrap_id (by omega) (by omega)]; omega
    simp only [if_neg h0, if_neg (show ¬ (l.length : Int) = 0 by omega), w1, if_pos (nn (l.length - 1)), if_pos (show ((l.length - 1 : Nat) : Int) ≤ (l.length : Int) by omega), Int.toNat_natCast, List.length_nil, Nat.zero_add, List.nil_append, List.length_take,
      if_pos (show min (l.length - 1) l.length < 8796093022208 by omega), Option.bind_some, if_pos (show ((l.length - 1 : Nat) : Int) < (l.length : Int) by omega), rd_natTi]
    unfold hRest
    by_cases h1 : l.length ≤ 1
    · simp only [if_pos h1, if_neg (show ¬ ((l.length - 1 : Nat) : Int) > 0 by omega), show l.length - 1 = 0 by omega, List.take_zero]
      refine Ev.step (f := fun k => spec_HeapTake.l0 k l ((0 : Nat) : Int) [] ((0 : Nat) : Int)) (fun k => ?_) ?_
      · simp [spec_HeapTake.j0]
      · have := specTake_l0 l (by omega) 0 0 0 [] rfl (by simp) (by omega) (by omega)
        exact this
    · simp only [if_neg h1, if_pos (show ((l.length - 1 : Nat) : Int) > 0 by omega), if_pos (show (0 : Int) < ((min (l.length - 1) l.length : Nat) : Int) by omega)]
      refine Ev.step (f := fun k => spec_HeapTake.l0 k l ((l.length - 1 : Nat) : Int) ((l.take (l.length - 1)).set 0 (l.getD (l.length - 1) z25)) ((0 : Nat) : Int)) (fun k => ?_) ?_
      · simp only [spec_HeapTake.j0]; rfl
      · exact specTake_l0 l (by omega) (l.length - 1) (l.length - 1) 0 _ (by simp) (by simp; omega) (by omega) (by omega)
theorem hTake_len (l : List S25) : (hTake l).1.length ≤ l.length := by
  unfold hTake
  split
  · simp
  · simp [hRest_length]

end Go.Proofs.Ytkjakmbmnbjpbaa.Print
