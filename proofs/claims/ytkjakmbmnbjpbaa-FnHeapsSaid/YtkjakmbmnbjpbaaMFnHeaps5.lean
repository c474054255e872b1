import Derived.Test.YtkjakmbmnbjpbaaMFnHeaps1
import Derived.Test.YtkjakmbmnbjpbaaMFnHeaps2
import Derived.Test.YtkjakmbmnbjpbaaMFnHeaps4
import Derived.Test.YtkjakmbmnbjpbaaMFnHeaps3
section
namespace Go.Proofs.Ytkjakmbmnbjpbaa.Print
open Go.RowKit Go.Proofs.YtkjakmbmnbjpbaaV.PrintWords Go.Proofs.YtkjakmbmnbjpbaaV.PrintLast Go.Proofs.YtkjakmbmnbjpbaaV.PrintMore
set_option linter.unusedVariables false
set_option linter.unusedSimpArgs false
def bf (a b : S25) : Bool := if a.f0 < b.f0 then true else if a.f0 = b.f0 then decide (a.f1 < b.f1) else false
theorem specBefore (a b : S25) : spec_Before.f a.f0 a.f1 b.f0 b.f1 = some (bf a b) := by
  unfold spec_Before.f bf
  split
  · rfl
  · split <;> rfl
theorem implBefore (a b : S25) : impl_Before.f a.f0 a.f1 b.f0 b.f1 = some (bf a b) := by
  unfold impl_Before.f bf
  split
  · rfl
  · split <;> rfl
theorem rd_natTi (l : List S25) (i : Nat) : rd_T25 l (i : Int) = l.getD i z25 := by unfold rd_T25; simp
def sw (l : List S25) (i j : Nat) : List S25 := (l.set i (l.getD j z25)).set j (l.getD i z25)
theorem sw_length (l : List S25) (i j : Nat) : (sw l i j).length = l.length := by simp [sw]
theorem par_eq (i : Nat) (h : 0 < i) (hi : i < 4611686018427387904) : wrap64 (Int.tdiv (wrap64 ((i : Int) - 1)) 2) = (((i - 1) / 2 : Nat) : Int) := by
  rw [wrap_id (x := (i : Int) - 1) (by omega) (by omega)]
  have e : (i : Int) - 1 = ((i - 1 : Nat) : Int) := by omega
  rw [e, Int.tdiv_eq_ediv_of_nonneg (by omega)]
  rw [wrap_id (by omega) (by omega)]
  omega
def up (l : List S25) (i : Nat) : List S25 :=
  if h : 0 < i then (if bf (l.getD i z25) (l.getD ((i - 1) / 2) z25) = true then up (sw l i ((i - 1) / 2)) ((i - 1) / 2) else l) else l
termination_by i
decreasing_by omega
theorem up_zero (l : List S25) : up l 0 = l := by rw [up]; simp
theorem up_pos (l : List S25) (i : Nat) (h : 0 < i) : up l i = if bf (l.getD i z25) (l.getD ((i - 1) / 2) z25) = true then up (sw l i ((i - 1) / 2)) ((i - 1) / 2) else l := by rw [up]; simp [h]
theorem up_length : ∀ (n i : Nat) (l : List S25), i ≤ n → (up l i).length = l.length
  | 0, i, l, h => by obtain rfl : i = 0 := by omega
                     rw [up_zero]
  | n + 1, i, l, h => by
    by_cases h0 : 0 < i
    · rw [up_pos l i h0]
      split
      · rw [up_length n _ _ (by omega), sw_length]
      · rfl
    · obtain rfl : i = 0 := by omega
      rw [up_zero]
theorem implPut_l0 : ∀ (n i : Nat) (l : List S25), i ≤ n → i < l.length → l.length < 4611686018427387904 → Ev (fun k => impl_HeapPut.l0 k l (i : Int)) (up l i)
  | n, i, l, hn, hi, hl => by
    by_cases h0 : 0 < i
    · have hp := par_eq i h0 (by omega)
      rw [up_pos l i h0]
      by_cases hb : bf (l.getD i z25) (l.getD ((i - 1) / 2) z25) = true
      · rw [if_pos hb]
        obtain ⟨n, rfl⟩ : ∃ m, n = m + 1 := ⟨n - 1, by omega⟩
        have ih := implPut_l0 n ((i - 1) / 2) (sw l i ((i - 1) / 2)) (by omega) (by rw [sw_length]; omega) (by rw [sw_length]; exact hl)
        refine Ev.step (f := fun k => impl_HeapPut.l0 k (sw l i ((i - 1) / 2)) (((i - 1) / 2 : Nat) : Int)) (fun k => ?_) ih
        simp only [impl_HeapPut.l0]
        rw [hp, if_pos (by omega), if_pos (by omega), if_pos (by omega), if_pos (by omega), if_pos (by omega), rd_natTi, rd_natTi, implBefore, Option.bind_some, if_pos hb]
        rfl
      · rw [if_neg hb]
        refine Ev.step (f := fun k => some l) (fun k => ?_) (Ev.now _)
        simp only [impl_HeapPut.l0]
        rw [hp, if_pos (by omega), if_pos (by omega), if_pos (by omega), if_pos (by omega), if_pos (by omega), rd_natTi, rd_natTi, implBefore, Option.bind_some, if_neg hb]
    · obtain rfl : i = 0 := by omega
      rw [up_zero]
      refine Ev.step (f := fun k => some l) (fun k => ?_) (Ev.now _)
      simp only [impl_HeapPut.l0]
      rw [if_neg (by omega)]
theorem specPut_l0 : ∀ (n i : Nat) (l : List S25), i ≤ n → i < l.length → l.length < 4611686018427387904 → Ev (fun k => spec_HeapPut.l0 k l (i : Int)) (up l i)
  | n, i, l, hn, hi, hl => by
    by_cases h0 : 0 < i
    · have hp := par_eq i h0 (by omega)
      rw [up_pos l i h0]
      by_cases hb : bf (l.getD i z25) (l.getD ((i - 1) / 2) z25) = true
      · rw [if_pos hb]
        obtain ⟨n, rfl⟩ : ∃ m, n = m + 1 := ⟨n - 1, by omega⟩
        have ih := specPut_l0 n ((i - 1) / 2) (sw l i ((i - 1) / 2)) (by omega) (by rw [sw_length]; omega) (by rw [sw_length]; exact hl)
        refine Ev.step (f := fun k => spec_HeapPut.l0 k (sw l i ((i - 1) / 2)) (((i - 1) / 2 : Nat) : Int)) (fun k => ?_) ih
        simp only [spec_HeapPut.l0]
        rw [hp, if_pos (by omega), if_pos (by omega), if_pos (by omega), if_pos (by omega), if_pos (by omega), rd_natTi, rd_natTi, specBefore, Option.bind_some, if_pos hb]
        rfl
      · rw [if_neg hb]
        refine Ev.step (f := fun k => some l) (fun k => ?_) (Ev.now _)
        simp only [spec_HeapPut.l0]
        rw [hp, if_pos (by omega), if_pos (by omega), if_pos (by omega), if_pos (by omega), if_pos (by omega), rd_natTi, rd_natTi, specBefore, Option.bind_some, if_neg hb]
    · obtain rfl : i = 0 := by omega
      rw [up_zero]
      refine Ev.step (f := fun k => some l) (fun k => ?_) (Ev.now _)
      simp only [spec_HeapPut.l0]
      rw [if_neg (by omega)]
def hPut (l : List S25) (t : S25) : List S25 := up (l ++ [t]) l.length
theorem hPut_length (l : List S25) (t : S25) : (hPut l t).length = l.length + 1 := by unfold hPut; rw [up_length l.length _ _ (Nat.le_refl _)]; simp
theorem len_sub1 (l : List S25) (t : S25) (h : l.length < 4611686018427387904) : wrap64 (((l ++ [t]).length : Int) - 1) = (l.length : Int) := by
  rw [wrap_id (by simp only [List.length_append, List.length_singleton]; omega) (by simp only [List.length_append, List.length_singleton]; omega)]
  simp only [List.length_append, List.length_singleton]
  omega
theorem implPut_ev (l : List S25) (t : S25) (h : l.length < 4000000000) : Ev (fun k => impl_HeapPut.f k l t.f0 t.f1) (hPut l t) := by
  unfold impl_HeapPut.f impl_copyTimers.f
  simp only [List.length_nil, Nat.zero_add, List.nil_append, if_pos (show l.length < 8796093022208 by omega), Option.bind_some, List.length_singleton, if_pos (show l.length + 1 < 8796093022208 by omega), len_sub1 l t (by omega)]
  exact implPut_l0 l.length l.length (l ++ [t]) (Nat.le_refl _) (by simp) (by simp; omega)
theorem specPut_ev (l : List S25) (t : S25) (h : l.length < 4000000000) : Ev (fun k => spec_HeapPut.f k l t.f0 t.f1) (hPut l t) := by
  unfold spec_HeapPut.f
  simp only [List.length_nil, Nat.zero_add, List.nil_append, if_pos (show l.length < 8796093022208 by omega), Option.bind_some, List.length_singleton, if_pos (show l.length + 1 < 8796093022208 by omega), len_sub1 l t (by omega)]
  exact specPut_l0 l.length l.length (l ++ [t]) (Nat.le_refl _) (by simp) (by simp; omega)
def bad (l : List S25) (i : Nat) : Bool := if (l.getD i z25).f0 < 0 then true else if (l.getD i z25).f1 < 0 then true else if 0 < i then bf (l.getD i z25) (l.getD ((i - 1) / 2) z25) else false
def okFrom (l : List S25) : Nat → Nat → Bool
  | 0, _ => decide ((l.length : Int) ≤ 16)
  | d + 1, i => if bad l i = true then false else okFrom l d (i + 1)
theorem implHeapOk_l0 (l : List S25) (hl : l.length < 4611686018427387904) : ∀ (d i : Nat), d + i = l.length → Ev (fun k => impl_HeapOk.l0 k l l (l.length : Int) (i : Int)) (okFrom l d i)
  | 0, i, h => by
    refine Ev.step (f := fun _ => some (okFrom l 0 i)) (fun k => ?_) (Ev.now _)
    simp only [impl_HeapOk.l0]
    rw [if_neg (by omega)]
    rfl
  | d + 1, i, h => by
    have ih := implHeapOk_l0 l hl d (i + 1) (by omega)
    have hw := wrap_up i (by omega)
    by_cases hb : bad l i = true
    · have e : okFrom l (d + 1) i = false := by simp [okFrom, hb]
      rw [e]
      refine Ev.step (f := fun _ => some false) (fun k => ?_) (Ev.now _)
      simp only [impl_HeapOk.l0]
      unfold bad at hb
      rw [if_pos (by omega), if_pos (by omega), if_pos (by omega), rd_natTi]
      split at hb
      · rename_i h1; rw [if_pos h1]
      · rename_i h1; rw [if_neg h1]
        split at hb
        · rename_i h2; rw [if_pos h2]
        · rename_i h2; rw [if_neg h2]
          split at hb
          · rename_i h3; rw [if_pos (by omega), par_eq i h3 (by omega), if_pos (by omega), if_pos (by omega), rd_natTi, implBefore, Option.bind_some, if_pos hb]
          · cases hb
    · have e : okFrom l (d + 1) i = okFrom l d (i + 1) := by simp [okFrom, hb]
      rw [e]
      refine Ev.step (f := fun k => impl_HeapOk.l0 k l l (l.length : Int) ((i + 1 : Nat) : Int)) (fun k => ?_) ih
      simp only [impl_HeapOk.l0]
      unfold bad at hb
      rw [if_pos (by omega), if_pos (by omega), if_pos (by omega), rd_natTi]
      split at hb
      · exact absurd rfl hb
      · rename_i h1; rw [if_neg h1]
        split at hb
        · exact absurd rfl hb
        · rename_i h2; rw [if_neg h2]
          split at hb
          · rename_i h3; rw [if_pos (by omega), par_eq i h3 (by omega), if_pos (by omega), if_pos (by omega), rd_natTi, implBefore, Option.bind_some, if_neg hb, hw]
          · rename_i h3; rw [if_neg (by omega), hw]
def hOk (l : List S25) : Bool := okFrom l l.length 0
theorem implHeapOk_ev (l : List S25) (hl : l.length < 4611686018427387904) : Ev (fun k => impl_HeapOk.f k l) (hOk l) := by
  unfold impl_HeapOk.f
  exact implHeapOk_l0 l hl l.length 0 (by omega)
/-- The place of the first that is so, or -1. -/
def place {α : Type} (p : α → Bool) : List α → Nat → Int
  | [], _ => -1
  | x :: l, i => if p x = true then (i : Int) else place p l (i + 1)
theorem getD_eq {α : Type} (l : List α) (i : Nat) (z : α) (h : i < l.length) : l.getD i z = l[i] := by simp [List.getD_eq_getElem?_getD, List.getElem?_eq_getElem h]
theorem getD_mem {α : Type} (l : List α) (i : Nat) (z : α) (h : i < l.length) : l.getD i z ∈ l := by rw [getD_eq l i z h]; exact List.getElem_mem h
/-- The child that goes up, of place i among the first n. -/
def kid (n : Nat) (l : List S25) (i : Nat) : Nat := if 2 * i + 2 < n then (if bf (l.getD (2 * i + 2) z25) (l.getD (2 * i + 1) z25) = true then 2 * i + 2 else 2 * i + 1) else 2 * i + 1
theorem kid_lo (n : Nat) (l : List S25) (i : Nat) : 2 * i + 1 ≤ kid n l i := by unfold kid; split <;> (try split) <;> omega
theorem kid_hi (n : Nat) (l : List S25) (i : Nat) (h : 2 * i + 1 < n) : kid n l i < n := by unfold kid; split <;> (try split) <;> omega
def down (n : Nat) : Nat → List S25 → Nat → List S25
  | 0, l, _ => l
  | d + 1, l, i => if 2 * i + 1 < n then (if bf (l.getD (kid n l i) z25) (l.getD i z25) = true then down n d (sw l i (kid n l i)) (kid n l i) else l) else l
theorem down_length (n : Nat) : ∀ (d : Nat) (l : List S25) (i : Nat), (down n d l i).length = l.length
  | 0, _, _ => rfl
  | d + 1, l, i => by
    unfold down
    split
    · split
      · rw [down_length n d, sw_length]
      · rfl
    · rfl
theorem wk1 (i : Nat) (h : i < 1000000000000) : wrap64 (wrap64 (2 * (i : Int)) + 1) = ((2 * i + 1 : Nat) : Int) := by
  rw [wrap_id (x := 2 * (i : Int)) (by omega) (by omega), wrap_id (by omega) (by omega)]; omega
theorem wk2 (i : Nat) (h : i < 1000000000000) : wrap64 (((2 * i + 1 : Nat) : Int) + 1) = ((2 * i + 2 : Nat) : Int) := by
  rw [wrap_id (by omega) (by omega)]; omega
theorem implTake_j1 (n i c : Nat) (l : List S25) (b : Bool) (a0 a1 : Int) (hl : l.length < 1000000000000) (hn : n = l.length) (hi : i < n) (hc : c + (if b = true then 1 else 0) = kid n l i) (hk : 2 * i + 1 ≤ c) (hck : b = true → kid n l i < n) (r : List S25 × Int × Int × Bool)
    (h : Ev (fun k => if kid n l i < n then (if bf (l.getD (kid n l i) z25) (l.getD i z25) = true then impl_HeapTake.l0 k (n : Int) (sw l i (kid n l i)) (kid n l i : Int) a0 a1 else some (l, a0, a1, true)) else some (l, a0, a1, true)) r) :
    Ev (fun k => impl_HeapTake.j1 k (n : Int) l (i : Int) (c : Int) b a0 a1) r := by
  refine Ev.step (fun k => ?_) h
  simp only [impl_HeapTake.j1]
  cases b with
  | true =>
    have hk2 := hck rfl
    simp only [if_true] at hc
    have e : wrap64 ((c : Int) + 1) = (kid n l i : Int) := by rw [wrap_up c (by omega), ← hc]
    rw [if_pos rfl, e, if_neg (by omega), if_pos (by omega), if_pos (by omega), if_pos (by omega), if_pos (by omega), rd_natTi, rd_natTi, implBefore, Option.bind_some, if_pos hk2]
    rfl
  | false =>
    simp only [Bool.false_eq_true, if_false, Nat.add_zero] at hc
    subst hc
    rw [if_neg (by simp)]
    by_cases hk2 : kid n l i < n
    · rw [if_neg (by omega), if_pos (by omega), if_pos (by omega), if_pos (by omega), if_pos (by omega), rd_natTi, rd_natTi, implBefore, Option.bind_some, if_pos hk2]
      rfl
    · rw [if_pos (by omega), if_neg hk2]
theorem implTake_l0 (n : Nat) (a0 a1 : Int) : ∀ (d i : Nat) (l : List S25), n = l.length → l.length < 1000000000000 → i < n → n ≤ d + i → Ev (fun k => impl_HeapTake.l0 k (n : Int) l (i : Int) a0 a1) (down n d l i, a0, a1, true)
  | 0, i, l, hn, hl, hi, hd => by omega
  | d + 1, i, l, hn, hl, hi, hd => by
    have w1 := wk1 i (by omega)
    have w2 := wk2 i (by omega)
    have klo := kid_lo n l i
    have ih : Ev (fun k => if kid n l i < n then (if bf (l.getD (kid n l i) z25) (l.getD i z25) = true then impl_HeapTake.l0 k (n : Int) (sw l i (kid n l i)) (kid n l i : Int) a0 a1 else some (l, a0, a1, true)) else some (l, a0, a1, true)) (down n (d + 1) l i, a0, a1, true) := by
      unfold down
      by_cases h1 : 2 * i + 1 < n
      · have khi := kid_hi n l i h1
        simp only [if_pos h1, if_pos khi]
        by_cases hb : bf (l.getD (kid n l i) z25) (l.getD i z25) = true
        · simp only [if_pos hb]
          exact implTake_l0 n a0 a1 d (kid n l i) (sw l i (kid n l i)) (by rw [sw_length]; exact hn) (by rw [sw_length]; exact hl) khi (by omega)
        · simp only [if_neg hb]
          exact Ev.now _
      · simp only [if_neg h1, if_neg (show ¬ kid n l i < n by omega)]
        exact Ev.now _
    by_cases h2 : 2 * i + 2 < n
    · by_cases hb : bf (l.getD (2 * i + 2) z25) (l.getD (2 * i + 1) z25) = true
      · have hk : kid n l i = 2 * i + 2 := by unfold kid; rw [if_pos h2, if_pos hb]
        refine Ev.step (f := fun k => impl_HeapTake.j1 k (n : Int) l (i : Int) ((2 * i + 1 : Nat) : Int) true a0 a1) (fun k => ?_) (implTake_j1 n i (2 * i + 1) l true a0 a1 hl hn hi (by simp [hk]) (Nat.le_refl _) (fun _ => by omega) _ ih)
        simp only [impl_HeapTake.l0]
        rw [w1, w2, if_pos (by omega), if_pos (by omega), if_pos (by omega), if_pos (by omega), if_pos (by omega), rd_natTi, rd_natTi, implBefore, Option.bind_some, hb]
      · have hk : kid n l i = 2 * i + 1 := by unfold kid; rw [if_pos h2, if_neg hb]
        refine Ev.step (f := fun k => impl_HeapTake.j1 k (n : Int) l (i : Int) ((2 * i + 1 : Nat) : Int) false a0 a1) (fun k => ?_) (implTake_j1 n i (2 * i + 1) l false a0 a1 hl hn hi (by simp [hk]) (Nat.le_refl _) (fun h => by cases h) _ ih)
        simp only [impl_HeapTake.l0]
        rw [w1, w2, if_pos (by omega), if_pos (by omega), if_pos (by omega), if_pos (by omega), if_pos (by omega), rd_natTi, rd_natTi, implBefore, Option.bind_some, Bool.eq_false_iff.2 hb]
    · have hk : kid n l i = 2 * i + 1 := by unfold kid; rw [if_neg h2]
      refine Ev.step (f := fun k => impl_HeapTake.j1 k (n : Int) l (i : Int) ((2 * i + 1 : Nat) : Int) false a0 a1) (fun k => ?_) (implTake_j1 n i (2 * i + 1) l false a0 a1 hl hn hi (by simp [hk]) (Nat.le_refl _) (fun h => by cases h) _ ih)
      simp only [impl_HeapTake.l0]
      rw [w1, w2, if_neg (by omega)]
/-- What is taken: the rest and the first. -/
def hRest (l : List S25) : List S25 := if l.length ≤ 1 then [] else down (l.length - 1) (l.length - 1) ((l.take (l.length - 1)).set 0 (l.getD (l.length - 1) z25)) 0
def hTake (l : List S25) : List S25 × Int × Int × Bool := if l.length = 0 then ([], 0, 0, false) else (hRest l, (l.getD 0 z25).f0, (l.getD 0 z25).f1, true)
theorem hRest_length (l : List S25) : (hRest l).length = l.length - 1 := by
  unfold hRest
  split
  · simp; omega
  · rw [down_length]; simp
theorem rd0Ti (l : List S25) : rd_T25 l 0 = l.getD 0 z25 := rfl
theorem implTake_ev (l : List S25) (h : l.length < 4000000000) : Ev (fun k => impl_HeapTake.f k l) (hTake l) := by
  unfold impl_HeapTake.f hTake
  by_cases h0 : l.length = 0
  · simp only [if_pos h0, if_pos (show (l.length : Int) = 0 by omega)]
    exact Ev.now _
  · have w1 : wrap64 ((l.length : Int) - 1) = ((l.length - 1 : Nat) : Int) := by rw [wrap_id (by omega) (by omega)]; omega
    simp only [if_neg h0, if_neg (show ¬ (l.length : Int) = 0 by omega), if_pos (show (0 : Int) < (l.length : Int) by omega), w1, if_pos (nn (l.length - 1)), if_pos (show ((l.length - 1 : Nat) : Int) ≤ (l.length : Int) by omega), impl_copyTimers.f, Int.toNat_natCast, List.length_nil, Nat.zero_add, List.nil_append, List.length_take,
      if_pos (show min (l.length - 1) l.length < 8796093022208 by omega), Option.bind_some, rd0Ti, if_pos (show ((l.length - 1 : Nat) : Int) < (l.length : Int) by omega), rd_natTi]
    unfold hRest
    by_cases h1 : l.length ≤ 1
    · simp only [if_pos h1, if_pos (show ((l.length - 1 : Nat) : Int) = 0 by omega), show l.length - 1 = 0 by omega, List.take_zero]
      exact Ev.now _
    · simp only [if_neg h1, if_neg (show ¬ ((l.length - 1 : Nat) : Int) = 0 by omega), if_pos (show (0 : Int) < ((min (l.length - 1) l.length : Nat) : Int) by omega)]
      exact implTake_l0 (l.length - 1) _ _ (l.length - 1) 0 _ (by simp) (by simp; omega) (by omega) (by omega)
theorem rd_midTi (pre suf : List S25) (y : S25) : rd_T25 (pre ++ y :: suf) (pre.length : Int) = y := by unfold rd_T25; simp
theorem hTake_pos (l : List S25) (h : 0 < l.length) : hTake l = (hRest l, (l.getD 0 z25).f0, (l.getD 0 z25).f1, true) := by unfold hTake; rw [if_neg (by omega)]
theorem hTake_nil (l : List S25) (h : l.length = 0) : hTake l = ([], 0, 0, false) := by unfold hTake; rw [if_pos h]
/-- Timers in order. -/
def srt : Nat → List S25 → List S25
  | 0, _ => []
  | n + 1, l => l.getD 0 z25 :: srt n (hRest l)
theorem srt_length : ∀ (n : Nat) (l : List S25), (srt n l).length = n
  | 0, _ => rfl
  | n + 1, l => by simp [srt, srt_length n]
theorem implSorted_l0 : ∀ (n : Nat) (l acc : List S25), l.length = n → acc.length + n < 4000000000 → Ev (fun k => impl_Sorted.l0 k l acc) (acc ++ srt n l)
  | 0, l, acc, hn, hb => by
    have h1 := implTake_ev l (by omega)
    rw [hTake_nil l hn] at h1
    refine Ev.step (f := fun k => (impl_HeapTake.f k l).bind fun b => if b.2.2.2 = true then (if acc.length < 8796093022208 then impl_Sorted.l0 k b.1 (acc ++ [(⟨b.2.1, b.2.2.1⟩ : S25)]) else none) else some acc) (fun k => by simp only [impl_Sorted.l0]) ?_
    refine Ev.bind h1 ?_
    simp only [Bool.false_eq_true, if_false, srt, List.append_nil]
    exact Ev.now _
  | n + 1, l, acc, hn, hb => by
    have h1 := implTake_ev l (by omega)
    rw [hTake_pos l (by omega)] at h1
    have ih := implSorted_l0 n (hRest l) (acc ++ [l.getD 0 z25]) (by rw [hRest_length]; omega) (by simp; omega)
    refine Ev.step (f := fun k => (impl_HeapTake.f k l).bind fun b => if b.2.2.2 = true then (if acc.length < 8796093022208 then impl_Sorted.l0 k b.1 (acc ++ [(⟨b.2.1, b.2.2.1⟩ : S25)]) else none) else some acc) (fun k => by simp only [impl_Sorted.l0]) ?_
    refine Ev.bind h1 ?_
    simp only [if_true, if_pos (show acc.length < 8796093022208 by omega)]
    simpa [srt] using ih
theorem implSorted_ev (l : List S25) (h : l.length < 1000000000) : Ev (fun k => impl_Sorted.f k l) (srt l.length l) := by
  unfold impl_Sorted.f
  exact implSorted_l0 l.length l [] rfl (by simp; omega)
/-- What is left behind a drop. -/
def hDrop (n : Int) : List S25 → List S25 → List S25
  | acc, [] => acc
  | acc, t :: l => if t.f1 = n then hDrop n acc l else hDrop n (hPut acc t) l
theorem implDrop_l0 (n : Int) : ∀ (suf pre acc : List S25), (pre ++ suf).length < 1000000000 → acc.length ≤ pre.length → Ev (fun k => impl_HeapDrop.l0 k n acc (pre ++ suf) ((pre ++ suf).length : Int) (pre.length : Int)) (hDrop n acc suf)
  | [], pre, acc, h, h2 => by
    refine Ev.step (f := fun k => some acc) (fun k => ?_) (Ev.now _)
    simp only [impl_HeapDrop.l0]
    rw [if_neg (not_lt_end pre)]
  | y :: suf, pre, acc, h, h2 => by
    have hp : (pre ++ y :: suf).length = pre.length + suf.length + 1 := by simp; omega
    have e1 := lt_mid pre suf y
    unfold hDrop
    by_cases hn : y.f1 = n
    · rw [if_pos hn]
      have ih := implDrop_l0 n suf (pre ++ [y]) acc (by simpa using h) (by simp; omega)
      refine Ev.step (f := fun k => impl_HeapDrop.l0 k n acc ((pre ++ [y]) ++ suf) (((pre ++ [y]) ++ suf).length : Int) ((pre ++ [y]).length : Int)) (fun k => ?_) ih
      simp only [impl_HeapDrop.l0]
      rw [if_pos e1, if_pos (nn _), if_pos e1, rd_midTi, if_pos hn, wrap_up _ (by omega)]
      simp
    · rw [if_neg hn]
      have ih := implDrop_l0 n suf (pre ++ [y]) (hPut acc y) (by simpa using h) (by rw [hPut_length]; simp; omega)
      refine Ev.step (f := fun k => (impl_HeapPut.f k acc y.f0 y.f1).bind fun t => impl_HeapDrop.l0 k n t ((pre ++ [y]) ++ suf) (((pre ++ [y]) ++ suf).length : Int) ((pre ++ [y]).length : Int)) (fun k => ?_) (Ev.bind (implPut_ev acc y (by omega)) ih)
      simp only [impl_HeapDrop.l0]
      rw [if_pos e1, if_pos (nn _), if_pos e1, rd_midTi, if_neg hn, wrap_up _ (by omega)]
      simp
theorem implDrop_ev (l : List S25) (n : Int) (h : l.length < 1000000000) : Ev (fun k => impl_HeapDrop.f k l n) (hDrop n [] l) := by
  unfold impl_HeapDrop.f
  exact implDrop_l0 n l [] [] (by simpa using h) (by simp)
abbrev gt (l : List S25) (i : Nat) : S25 := l.getD i z25
/-- a does not come behind b. -/
def le_ (a b : S25) : Prop := bf b a = false
theorem le_iff (a b : S25) : le_ a b ↔ a.f0 < b.f0 ∨ (a.f0 = b.f0 ∧ a.f1 ≤ b.f1) := by
  unfold le_ bf
  by_cases c : b.f0 < a.f0
  · simp only [if_pos c]; constructor
    · intro h; cases h
    · intro h; omega
  · rw [if_neg c]
    by_cases c2 : b.f0 = a.f0
    · rw [if_pos c2]; rw [decide_eq_false_iff_not]; omega
    · rw [if_neg c2]; simp only [true_iff]; omega
theorem lt_le {a b : S25} (h : bf a b = true) : le_ a b := by
  rw [le_iff]; unfold bf at h
  by_cases c : a.f0 < b.f0
  · exact .inl c
  · rw [if_neg c] at h
    by_cases c2 : a.f0 = b.f0
    · rw [if_pos c2] at h; have := of_decide_eq_true h; omega
    · rw [if_neg c2] at h; cases h
theorem le_trans_ {a b c : S25} (h : le_ a b) (h2 : le_ b c) : le_ a c := by rw [le_iff] at *; omega
theorem le_refl_ (a : S25) : le_ a a := by rw [le_iff]; omega
/-- No child before its parent. -/
def Hp (l : List S25) : Prop := ∀ j, 0 < j → j < l.length → le_ (gt l ((j - 1) / 2)) (gt l j)
theorem gt_sw (l : List S25) (i p j : Nat) (hi : i < l.length) (hp : p < l.length) : gt (sw l i p) j = if j = p then gt l i else if j = i then gt l p else gt l j := by
  unfold gt sw
  simp only [List.getD_eq_getElem?_getD, List.getElem?_set, List.length_set]
  by_cases c : j = p
  · subst c; simp [hp]
  · rw [if_neg (show ¬ p = j from fun e => c e.symm), if_neg c]
    by_cases c2 : j = i
    · subst c2; simp [hi]
    · rw [if_neg (show ¬ i = j from fun e => c2 e.symm), if_neg c2]
theorem up_hp : ∀ (n i : Nat) (l : List S25), i ≤ n → i < l.length → (∀ j, 0 < j → j < l.length → j ≠ i → le_ (gt l ((j - 1) / 2)) (gt l j)) → (0 < i → ∀ j, 0 < j → j < l.length → (j - 1) / 2 = i → le_ (gt l ((i - 1) / 2)) (gt l j)) → Hp (up l i)
  | 0, i, l, hn, hi, h1, h2 => by
    obtain rfl : i = 0 := by omega
    rw [up_zero]
    exact fun j h0 h3 => h1 j h0 h3 (by omega)
  | n + 1, i, l, hn, hi, h1, h2 => by
    by_cases h0 : 0 < i
    · rw [up_pos l i h0]
      by_cases c : bf (l.getD i z25) (l.getD ((i - 1) / 2) z25) = true
      · rw [if_pos c]
        have hp : (i - 1) / 2 < l.length := by omega
        have hlt := lt_le c
        refine up_hp n ((i - 1) / 2) _ (by omega) (by rw [sw_length]; exact hp) (fun j j0 j1 j2 => ?_) (fun p0 j j0 j1 j2 => ?_)
        · rw [sw_length] at j1
          rw [gt_sw l _ _ _ hi hp, gt_sw l _ _ _ hi hp, if_neg j2]
          by_cases e : j = i
          · subst e; rw [if_pos rfl, if_pos rfl]; exact hlt
          · rw [if_neg e]
            by_cases e2 : (j - 1) / 2 = (i - 1) / 2
            · rw [if_pos e2]; exact le_trans_ hlt (e2 ▸ h1 j j0 j1 e)
            · rw [if_neg e2]
              by_cases e3 : (j - 1) / 2 = i
              · rw [if_pos e3]; exact h2 h0 j j0 j1 e3
              · rw [if_neg e3]; exact h1 j j0 j1 e
        · rw [sw_length] at j1
          have q := h1 ((i - 1) / 2) p0 hp (by omega)
          rw [gt_sw l _ _ _ hi hp, gt_sw l _ _ _ hi hp, if_neg (by omega), if_neg (by omega), if_neg (by omega)]
          by_cases e : j = i
          · rw [if_pos e]; exact q
          · rw [if_neg e]; exact le_trans_ q (j2 ▸ h1 j j0 j1 e)
      · rw [if_neg c]
        intro j j0 j1
        by_cases e : j = i
        · subst e; exact Bool.eq_false_iff.mpr c
        · exact h1 j j0 j1 e
    · obtain rfl : i = 0 := by omega
      rw [up_zero]
      exact fun j h0 h3 => h1 j h0 h3 (by omega)
theorem hPut_hp (l : List S25) (t : S25) (h : Hp l) : Hp (hPut l t) := by
  have ga : ∀ j, j < l.length → gt (l ++ [t]) j = gt l j := fun j hj => by unfold gt; simp only [List.getD_eq_getElem?_getD]; rw [List.getElem?_append_left hj]
  refine up_hp l.length l.length _ (Nat.le_refl _) (by simp) (fun j j0 j1 j2 => ?_) (fun _ j j0 j1 j2 => ?_)
  · simp only [List.length_append, List.length_singleton] at j1
    rw [ga _ (by omega), ga _ (by omega)]
    exact h j j0 (by omega)
  · simp only [List.length_append, List.length_singleton] at j1
    omega
/-- The child that comes first. -/
theorem kid_le (n : Nat) (l : List S25) (i j : Nat) (h0 : 0 < j) (hj : j < n) (hp : (j - 1) / 2 = i) : le_ (gt l (kid n l i)) (gt l j) := by
  unfold kid
  by_cases c : 2 * i + 2 < n
  · rw [if_pos c]
    by_cases c2 : bf (l.getD (2 * i + 2) z25) (l.getD (2 * i + 1) z25) = true
    · rw [if_pos c2]
      rcases (show j = 2 * i + 1 ∨ j = 2 * i + 2 by omega) with rfl | rfl
      · exact lt_le c2
      · exact le_refl_ _
    · rw [if_neg c2]
      rcases (show j = 2 * i + 1 ∨ j = 2 * i + 2 by omega) with rfl | rfl
      · exact le_refl_ _
      · exact Bool.eq_false_iff.mpr c2
  · rw [if_neg c]
    obtain rfl : j = 2 * i + 1 := by omega
    exact le_refl_ _
theorem kid_par (n : Nat) (l : List S25) (i : Nat) : (kid n l i - 1) / 2 = i := by unfold kid; split <;> (try split) <;> omega
theorem down_hp (n : Nat) : ∀ (d i : Nat) (l : List S25), n = l.length → n ≤ d + i → i < n → (∀ j, 0 < j → j < n → (j - 1) / 2 ≠ i → le_ (gt l ((j - 1) / 2)) (gt l j)) → (0 < i → ∀ j, 0 < j → j < n → (j - 1) / 2 = i → le_ (gt l ((i - 1) / 2)) (gt l j)) → Hp (down n d l i)
  | 0, i, l, hn, hd, hi, h1, h2 => by omega
  | d + 1, i, l, hn, hd, hi, h1, h2 => by
    unfold down
    by_cases c : 2 * i + 1 < n
    · rw [if_pos c]
      have kl := kid_lo n l i
      have kh := kid_hi n l i c
      have kp := kid_par n l i
      have km := fun j a b e => kid_le n l i j a b e
      generalize hk : kid n l i = q at *
      by_cases c2 : bf (l.getD q z25) (l.getD i z25) = true
      · rw [if_pos c2]
        have hlt := lt_le c2
        have hil : i < l.length := by omega
        have hql : q < l.length := by omega
        refine down_hp n d q _ (by rw [sw_length]; exact hn) (by omega) kh (fun j j0 j1 j2 => ?_) (fun q0 j j0 j1 j2 => ?_)
        · rw [gt_sw l _ _ _ hil hql, gt_sw l _ _ _ hil hql, if_neg j2]
          by_cases e : (j - 1) / 2 = i
          · rw [if_pos e]
            by_cases e2 : j = q
            · rw [if_pos e2]; exact hlt
            · rw [if_neg e2, if_neg (by omega)]; exact km j j0 j1 e
          · rw [if_neg e]
            by_cases e2 : j = q
            · rw [e2] at e; exact absurd kp e
            · rw [if_neg e2]
              by_cases e3 : j = i
              · subst e3; rw [if_pos rfl]; exact h2 j0 q (by omega) kh kp
              · rw [if_neg e3]; exact h1 j j0 j1 e
        · rw [gt_sw l _ _ _ hil hql, gt_sw l _ _ _ hil hql, kp, if_neg (by omega), if_pos rfl, if_neg (by omega), if_neg (by omega)]
          exact j2 ▸ h1 j j0 j1 (by omega)
      · rw [if_neg c2]
        intro j j0 j1
        by_cases e : (j - 1) / 2 = i
        · rw [e]; exact le_trans_ (Bool.eq_false_iff.mpr c2) (km j j0 (by omega) e)
        · exact h1 j j0 (by omega) e
    · rw [if_neg c]
      intro j j0 j1
      exact h1 j j0 (by omega) (by omega)
theorem hRest_hp (l : List S25) (h : Hp l) : Hp (hRest l) := by
  unfold hRest
  by_cases c : l.length ≤ 1
  · rw [if_pos c]; intro j j0 j1; simp at j1
  · rw [if_neg c]
    have ga : ∀ j, 0 < j → j < l.length - 1 → gt ((l.take (l.length - 1)).set 0 (l.getD (l.length - 1) z25)) j = gt l j := fun j h0 hj => by
      unfold gt; simp only [List.getD_eq_getElem?_getD, List.getElem?_set, List.getElem?_take]
      rw [if_neg (by omega), if_pos hj]
    refine down_hp (l.length - 1) (l.length - 1) 0 _ (by simp) (by omega) (by omega) (fun j j0 j1 j2 => ?_) (fun q0 => absurd q0 (by omega))
    rw [ga _ (by omega) (by omega), ga _ j0 j1]
    exact h j j0 (by omega)
theorem hDrop_hp (n : Int) : ∀ (l acc : List S25), Hp acc → Hp (hDrop n acc l)
  | [], acc, h => h
  | t :: l, acc, h => by
    unfold hDrop
    by_cases c : t.f1 = n
    · rw [if_pos c]; exact hDrop_hp n l acc h
    · rw [if_neg c]; exact hDrop_hp n l _ (hPut_hp acc t h)
/-- The first of a heap comes before all. -/
theorem hp_first (l : List S25) (h : Hp l) : ∀ (n j : Nat), j ≤ n → j < l.length → le_ (gt l 0) (gt l j)
  | n, 0, _, _ => le_refl_ _
  | 0, j + 1, hn, _ => by omega
  | n + 1, j + 1, hn, hj => le_trans_ (hp_first l h n ((j + 1 - 1) / 2) (by omega) (by omega)) (h (j + 1) (by omega) hj)
theorem cp_set (p : S25 → Bool) : ∀ (l : List S25) (i : Nat) (a : S25), i < l.length → (l.set i a).countP p + (if p (gt l i) = true then 1 else 0) = l.countP p + (if p a = true then 1 else 0)
  | [], i, a, h => by simp at h
  | b :: l, 0, a, h => by
    show List.countP p (a :: l) + (if p b = true then 1 else 0) = List.countP p (b :: l) + _
    rw [List.countP_cons, List.countP_cons]; omega
  | b :: l, i + 1, a, h => by
    have e := cp_set p l i a (by simp only [List.length_cons] at h; omega)
    show List.countP p (b :: l.set i a) + (if p (gt l i) = true then 1 else 0) = List.countP p (b :: l) + _
    rw [List.countP_cons, List.countP_cons]; omega
theorem gt_set (l : List S25) (i j : Nat) (a : S25) (hi : i < l.length) : gt (l.set i a) j = if j = i then a else gt l j := by
  unfold gt
  simp only [List.getD_eq_getElem?_getD, List.getElem?_set]
  by_cases c : j = i
  · subst c; simp [hi]
  · rw [if_neg (show ¬ i = j from fun e => c e.symm), if_neg c]
theorem sw_cp (p : S25 → Bool) (l : List S25) (i j : Nat) (hi : i < l.length) (hj : j < l.length) : (sw l i j).countP p = l.countP p := by
  have e1 := cp_set p l i (gt l j) hi
  have e2 := cp_set p (l.set i (gt l j)) j (gt l i) (by rw [List.length_set]; exact hj)
  rw [gt_set l i j _ hi] at e2
  unfold sw
  by_cases c : j = i
  · subst c; rw [if_pos rfl] at e2; unfold gt at *; omega
  · rw [if_neg c] at e2; unfold gt at *; omega
theorem up_cp (p : S25 → Bool) : ∀ (n i : Nat) (l : List S25), i ≤ n → i < l.length → (up l i).countP p = l.countP p
  | 0, i, l, hn, hi => by obtain rfl : i = 0 := by omega
                          rw [up_zero]
  | n + 1, i, l, hn, hi => by
    by_cases h0 : 0 < i
    · rw [up_pos l i h0]
      by_cases c : bf (l.getD i z25) (l.getD ((i - 1) / 2) z25) = true
      · rw [if_pos c, up_cp p n _ _ (by omega) (by rw [sw_length]; omega), sw_cp p l _ _ hi (by omega)]
      · rw [if_neg c]
    · obtain rfl : i = 0 := by omega
      rw [up_zero]
theorem hPut_cp (p : S25 → Bool) (l : List S25) (t : S25) : (hPut l t).countP p = l.countP p + (if p t = true then 1 else 0) := by
  unfold hPut
  rw [up_cp p l.length _ _ (Nat.le_refl _) (by simp), List.countP_append]
  simp [List.countP_cons]
theorem down_cp (p : S25 → Bool) (n : Nat) : ∀ (d i : Nat) (l : List S25), n = l.length → i < n → (down n d l i).countP p = l.countP p
  | 0, i, l, hn, hi => rfl
  | d + 1, i, l, hn, hi => by
    unfold down
    by_cases c : 2 * i + 1 < n
    · rw [if_pos c]
      have kh := kid_hi n l i c
      by_cases c2 : bf (l.getD (kid n l i) z25) (l.getD i z25) = true
      · rw [if_pos c2, down_cp p n d _ _ (by rw [sw_length]; exact hn) kh, sw_cp p l _ _ (by omega) (by omega)]
      · rw [if_neg c2]
    · rw [if_neg c]
theorem cp_last (p : S25 → Bool) : ∀ (l : List S25), 0 < l.length → l.countP p = (l.take (l.length - 1)).countP p + (if p (gt l (l.length - 1)) = true then 1 else 0)
  | [], h => by simp at h
  | [a], _ => by simp [List.countP_cons, gt]
  | a :: b :: l, _ => by
    have e := cp_last p (b :: l) (by simp)
    have e2 : (a :: b :: l).take ((a :: b :: l).length - 1) = a :: (b :: l).take ((b :: l).length - 1) := by simp
    have e3 : gt (a :: b :: l) ((a :: b :: l).length - 1) = gt (b :: l) ((b :: l).length - 1) := by simp [gt]
    rw [e2, e3, List.countP_cons (a := a) (l := b :: l), List.countP_cons (a := a)]
    omega
theorem hRest_cp (p : S25 → Bool) (l : List S25) (h : 0 < l.length) : (hRest l).countP p + (if p (gt l 0) = true then 1 else 0) = l.countP p := by
  have e1 := cp_last p l h
  unfold hRest
  by_cases c : l.length ≤ 1
  · rw [if_pos c]
    have e2 : l.length - 1 = 0 := by omega
    rw [e2] at e1
    simp only [List.take_zero, List.countP_nil] at e1 ⊢
    omega
  · rw [if_neg c]
    have e2 := cp_set p (l.take (l.length - 1)) 0 (gt l (l.length - 1)) (by simp; omega)
    have e3 : gt (l.take (l.length - 1)) 0 = gt l 0 := by
      unfold gt; simp only [List.getD_eq_getElem?_getD, List.getElem?_take]; rw [if_pos (by omega)]
    rw [e3] at e2
    rw [down_cp p (l.length - 1) _ _ _ (by simp) (by omega)]
    unfold gt at *
    omega
theorem srt_cp (p : S25 → Bool) : ∀ (n : Nat) (l : List S25), l.length = n → (srt n l).countP p = l.countP p
  | 0, l, h => by rw [List.length_eq_zero_iff.1 h]; rfl
  | n + 1, l, h => by
    have e := hRest_cp p l (by omega)
    have e2 := srt_cp p n (hRest l) (by rw [hRest_length]; omega)
    unfold srt
    rw [List.countP_cons, e2]
    exact e
open Classical in
theorem mem_of_cp {a b : List S25} (h : ∀ p : S25 → Bool, a.countP p ≤ b.countP p) {x : S25} (hx : x ∈ a) : x ∈ b := by
  have h1 : 0 < a.countP (fun y => decide (y = x)) := List.countP_pos_iff.2 ⟨x, hx, by simp⟩
  obtain ⟨y, hy, e⟩ := List.countP_pos_iff.1 (Nat.lt_of_lt_of_le h1 (h _))
  rw [← of_decide_eq_true e]; exact hy
theorem hp_all (l : List S25) (h : Hp l) (x : S25) (hx : x ∈ l) : le_ (gt l 0) x := by
  obtain ⟨j, hj, rfl⟩ := List.mem_iff_getElem.1 hx
  have e := hp_first l h j j (Nat.le_refl _) hj
  rwa [show gt l j = l[j] from getD_eq l j _ hj] at e
/-- In order. -/
theorem srt_asc : ∀ (n : Nat) (l : List S25), l.length = n → Hp l → ∀ i, i + 1 < n → le_ (gt (srt n l) i) (gt (srt n l) (i + 1))
  | 0, l, h, hh, i, hi => by omega
  | n + 1, l, h, hh, 0, hi => by
    obtain ⟨m, rfl⟩ : ∃ m, n = m + 1 := ⟨n - 1, by omega⟩
    show le_ (gt l 0) (gt (hRest l) 0)
    have hr := hRest_length l
    refine hp_all l hh _ (mem_of_cp (a := hRest l) (fun p => ?_) ?_)
    · have := hRest_cp p l (by omega); omega
    · exact getD_mem (hRest l) 0 _ (by omega)
  | n + 1, l, h, hh, i + 1, hi => srt_asc n (hRest l) (by rw [hRest_length]; omega) (hRest_hp l hh) i (by omega)
theorem hDrop_cp (n : Int) (p : S25 → Bool) : ∀ (l acc : List S25), (hDrop n acc l).countP p = acc.countP p + l.countP (fun t => p t && !(decide (t.f1 = n)))
  | [], acc => by simp [hDrop]
  | t :: l, acc => by
    unfold hDrop
    rw [List.countP_cons]
    by_cases c : t.f1 = n
    · rw [if_pos c, hDrop_cp n p l acc, decide_eq_true c]; simp
    · rw [if_neg c, hDrop_cp n p l _, hPut_cp, decide_eq_false c]; simp; omega
def ng (t : S25) : Bool := decide (t.f0 < 0) || decide (t.f1 < 0)
theorem ok_of (l : List S25) (h : Hp l) (hn : l.countP ng = 0) (hl : l.length ≤ 16) : hOk l = true := by
  have hb : ∀ i, i < l.length → bad l i = false := fun i hi => by
    have h1 : ¬ (ng (gt l i) = true) := (List.countP_eq_zero.1 hn) _ (getD_mem l i _ hi)
    unfold ng at h1
    simp only [Bool.or_eq_true, decide_eq_true_eq, not_or] at h1
    unfold bad
    rw [if_neg h1.1, if_neg h1.2]
    by_cases c : 0 < i
    · rw [if_pos c]; exact h i c hi
    · rw [if_neg c]
  have : ∀ d i, d + i = l.length → okFrom l d i = true := by
    intro d
    induction d with
    | zero => intro i hi; unfold okFrom; exact decide_eq_true (by omega)
    | succ d ih =>
      intro i hi
      unfold okFrom
      rw [hb i (by omega), if_neg (by simp)]
      exact ih (i + 1) (by omega)
  exact this l.length 0 (by omega)
theorem sameHeap_l0 (a : List S25) (h : a.length < 4611686018427387904) : ∀ (d i : Nat), d + i = a.length → Ev (fun k => laws_sameHeap.l0 k a a (i : Int)) true
  | 0, i, h2 => ⟨1, fun k hk => by
    obtain ⟨k, rfl⟩ : ∃ j, k = j + 1 := ⟨k - 1, by omega⟩
    simp only [laws_sameHeap.l0]; rw [if_neg (by omega)]⟩
  | d + 1, i, h2 => by
    obtain ⟨K, g⟩ := sameHeap_l0 a h d (i + 1) (by omega)
    refine ⟨K + 1, fun k hk => ?_⟩
    obtain ⟨k, rfl⟩ : ∃ j, k = j + 1 := ⟨k - 1, by omega⟩
    have e := g k (by omega)
    simp only at e
    simp only [laws_sameHeap.l0]
    rw [if_pos (by omega), if_pos (by omega), if_pos (by omega), wrap_up i (by omega), e]
    simp
theorem sameHeap_refl (a : List S25) (h : a.length < 4000000000) : Ev (fun k => laws_sameHeap.f k a a) true := by
  obtain ⟨K, g⟩ := sameHeap_l0 a (by omega) a.length 0 (by omega)
  refine ⟨K, fun k hk => ?_⟩
  have e := g k hk
  simp only at e
  simp only [laws_sameHeap.f, if_true]
  exact e
end Go.Proofs.Ytkjakmbmnbjpbaa.Print
end
section
/- The law FnHeaps answers true for all arguments that can be read: the pure statement, without Go and memory. No condition. -/
namespace Go.Proofs.Ytkjakmbmnbjpbaa.Print
open Go.RowKit Go.Proofs.YtkjakmbmnbjpbaaV.PrintWords Go.Proofs.YtkjakmbmnbjpbaaV.PrintLast Go.Proofs.YtkjakmbmnbjpbaaV.PrintMore
set_option linter.unusedVariables false
set_option linter.unusedSimpArgs false
theorem dTimer2 (l : List Int) (hl : l.length ≤ 1048576) (p s : Int) (hp : 0 ≤ p) : ∃ (t : S25) (p' s' : Int), spec_l10Timer.f l p s = some (t.f0, t.f1, p', s') ∧ 0 ≤ p' ∧ ng t = false := by
  obtain ⟨a, p1, s1, e1, q1, a0, _⟩ := dBelow l hl p s 9 hp (by decide) (by decide)
  obtain ⟨b, p2, s2, e2, q2, b0, _⟩ := dBelow l hl p1 s1 9 q1 (by decide) (by decide)
  refine ⟨⟨a, b⟩, p2, s2, by simp only [spec_l10Timer.f, e1, Option.bind_some, e2], q2, ?_⟩
  unfold ng
  simp only
  rw [decide_eq_false (by omega), decide_eq_false (by omega)]
  rfl
theorem dHeap2_l0 (l : List Int) (hl : l.length ≤ 1048576) : ∀ (n : Nat) (x : List S25) (p s : Int), 0 ≤ p → x.length + n ≤ 1000 → Hp x → x.countP ng = 0 →
    ∃ r p' s', Ev (fun k => spec_l10Draw.l0 k x (n : Int) l p s) (r, p', s') ∧ 0 ≤ p' ∧ r.length ≤ x.length + n ∧ Hp r ∧ r.countP ng = 0
  | 0, x, p, s, hp, hx, hh, hn => ⟨x, p, s, ⟨1, fun k hk => by
    obtain ⟨k, rfl⟩ : ∃ j, k = j + 1 := ⟨k - 1, by omega⟩
    simp only [spec_l10Draw.l0]; rw [if_neg (by omega)]⟩, hp, by omega, hh, hn⟩
  | n + 1, x, p, s, hp, hx, hh, hn => by
    obtain ⟨t, p1, s1, e1, q1, ht⟩ := dTimer2 l hl p s hp
    obtain ⟨K2, g2⟩ := specPut_ev x t (by omega)
    have hlen := hPut_length x t
    obtain ⟨r, p', s', ⟨K, g⟩, q, w⟩ := dHeap2_l0 l hl n (hPut x t) p1 s1 q1 (by omega) (hPut_hp x t hh) (by rw [hPut_cp, hn, ht]; rfl)
    refine ⟨r, p', s', ⟨K + K2 + 1, fun k hk => ?_⟩, q, by omega, w.2⟩
    obtain ⟨k, rfl⟩ : ∃ j, k = j + 1 := ⟨k - 1, by omega⟩
    have e := g k (by omega)
    have e2 := g2 k (by omega)
    simp only at e e2
    simp only [spec_l10Draw.l0]
    rw [if_pos (by omega), e1]
    simp only [Option.bind_some]
    rw [e2]
    simp only [Option.bind_some]
    rw [show wrap64 (((n + 1 : Nat) : Int) - 1) = (n : Int) by rw [wrap_id (by omega) (by omega)]; omega, e]
theorem drawHeap_ev (l0 : List Int) (h : l0.length ≤ 1048576) : ∃ (l : List S25) (t : S25), Ev (fun k => spec_DrawHeap.f k l0) (l, t.f0, t.f1) ∧ l.length ≤ 8 ∧ Hp l ∧ l.countP ng = 0 ∧ ng t = false := by
  obtain ⟨s0, K0, g0⟩ := dNew l0 h
  obtain ⟨b, p2, s2, e2, q2, b0, b1⟩ := dBelow l0 h 0 s0 9 (by decide) (by decide) (by decide)
  obtain ⟨n, rfl⟩ : ∃ n : Nat, b = (n : Int) := ⟨b.toNat, by omega⟩
  obtain ⟨r, p', s', ⟨K, g⟩, q, w, hh, hn⟩ := dHeap2_l0 l0 h n [] p2 s2 q2 (by simp only [List.length_nil]; omega) (fun j _ j1 => by simp at j1) rfl
  obtain ⟨t, p3, s3, e3, q3, ht⟩ := dTimer2 l0 h p' s' q
  refine ⟨r, t, ⟨K0 + K, fun k hk => ?_⟩, by simp only [List.length_nil] at w; omega, hh, hn, ht⟩
  have e0 := g0 k (by omega)
  have e := g k (by omega)
  simp only at e0 e
  simp only [spec_DrawHeap.f, spec_l10Draw.f, e0, Option.bind_some, e2, e, e3]
theorem cp_take (p : S25 → Bool) : ∀ (l : List S25) (j : Nat), j < l.length → (l.take (j + 1)).countP p = (l.take j).countP p + (if p (gt l j) = true then 1 else 0)
  | [], j, h => by simp at h
  | a :: l, 0, h => by simp [gt, List.countP_cons]
  | a :: l, j + 1, h => by
    have e := cp_take p l j (by simpa using h)
    show List.countP p (a :: l.take (j + 1)) = List.countP p (a :: l.take j) + (if p (gt l j) = true then 1 else 0)
    rw [List.countP_cons, List.countP_cons]; omega
theorem cp_take_le (p : S25 → Bool) (l : List S25) (j : Nat) : (l.take j).countP p ≤ j := Nat.le_trans List.countP_le_length (by rw [List.length_take]; omega)
def eqT (b a : S25) : Bool := (a.f0 == b.f0 && (a.f1 == b.f1))
theorem heaps_l1 (x s y d : List S25) (i : Nat) (c a b : Int) (hs : s.length < 1000) (hx : x.length = s.length) (hi : i < s.length) (hcp : ∀ p : S25 → Bool, s.countP p = x.countP p)
    (hend : Ev (fun k => laws_FnHeaps.l0 k x s y d c (wrap64 ((i : Int) + 1)) a b) true) : ∀ (m j : Nat) (z : Int), m + j = s.length → z = ((s.take j).countP (eqT (gt s i)) : Int) - ((x.take j).countP (eqT (gt s i)) : Int) →
    Ev (fun k => laws_FnHeaps.l1 k x s y d c (i : Int) z (j : Int) a b) true
  | 0, j, z, hm, hz => by
    obtain ⟨K, g⟩ := hend
    refine ⟨K + 1, fun k hk => ?_⟩
    obtain ⟨k, rfl⟩ : ∃ j, k = j + 1 := ⟨k - 1, by omega⟩
    have e := g k (by omega)
    simp only at e
    rw [List.take_of_length_le (by omega), List.take_of_length_le (by omega), hcp] at hz
    simp only [laws_FnHeaps.l1]
    rw [if_neg (by omega), if_pos (by omega), e]
  | m + 1, j, z, hm, hz => by
    have b1 := cp_take_le (eqT (gt s i)) s j
    have b2 := cp_take_le (eqT (gt s i)) x j
    have t1 := cp_take (eqT (gt s i)) s j (by omega)
    have t2 := cp_take (eqT (gt s i)) x j (by omega)
    obtain ⟨K, g⟩ := heaps_l1 x s y d i c a b hs hx hi hcp hend m (j + 1) (z + (if eqT (gt s i) (gt s j) = true then 1 else 0) - (if eqT (gt s i) (gt x j) = true then 1 else 0)) (by omega) (by
      rw [t1, t2, hz]; split <;> split <;> simp <;> omega)
    refine ⟨K + 1, fun k hk => ?_⟩
    obtain ⟨k, rfl⟩ : ∃ j, k = j + 1 := ⟨k - 1, by omega⟩
    have e := g k (by omega)
    simp only at e
    simp only [laws_FnHeaps.l1, rd_natTi]
    rw [if_pos (by omega), if_pos (by omega), if_pos (by omega), if_pos (by omega), if_pos (show (j : Int) < (x.length : Int) by omega), if_pos (show (j : Int) < (x.length : Int) by omega), wrap_up j (by omega)]
    rw [← e]
    show (if eqT (gt s i) (gt s j) = true then (if eqT (gt s i) (gt x j) = true then _ else _) else (if eqT (gt s i) (gt x j) = true then _ else _)) = _
    by_cases c1 : eqT (gt s i) (gt s j) = true
    · by_cases c2 : eqT (gt s i) (gt x j) = true
      · simp only [if_pos c1, if_pos c2]
        congr 1
        rw [wrap_id (x := z + 1) (by omega) (by omega), wrap_id (by omega) (by omega)]
      · simp only [if_pos c1, if_neg c2]
        congr 1
        rw [wrap_id (by omega) (by omega)]; omega
    · by_cases c2 : eqT (gt s i) (gt x j) = true
      · simp only [if_neg c1, if_pos c2]
        congr 1
        rw [wrap_id (by omega) (by omega)]; omega
      · simp only [if_neg c1, if_neg c2]
        congr 1
        omega
theorem heaps_l0 (x s y d w : List S25) (a b : Int) (hs : s.length < 1000) (h1 : 1 ≤ s.length) (hx : x.length = s.length) (hcp : ∀ p : S25 → Bool, s.countP p = x.countP p)
    (asc : ∀ i, i + 1 < s.length → le_ (gt s i) (gt s (i + 1))) (hd : (d.length : Int) = (x.length : Int) - (s.countP (fun t => decide (t.f1 = b)) : Int)) (hw : Ev (fun k => impl_Sorted.f k y) w) (hq : Ev (fun k => laws_sameHeap.f k w (s.drop 1)) true) :
    ∀ (m i : Nat) (c : Int), m + i = s.length → c = ((s.take i).countP (fun t => decide (t.f1 = b)) : Int) → Ev (fun k => laws_FnHeaps.l0 k x s y d c (i : Int) a b) true
  | 0, i, c, hm, hc => by
    obtain ⟨K1, g1⟩ := hw
    obtain ⟨K2, g2⟩ := hq
    refine ⟨K1 + K2 + 1, fun k hk => ?_⟩
    obtain ⟨k, rfl⟩ : ∃ j, k = j + 1 := ⟨k - 1, by omega⟩
    have e1 := g1 k (by omega)
    have e2 := g2 k (by omega)
    simp only at e1 e2
    rw [List.take_of_length_le (by omega)] at hc
    have hle : s.countP (fun t => decide (t.f1 = b)) ≤ s.length := List.countP_le_length
    simp only [laws_FnHeaps.l0]
    rw [if_neg (by omega), if_pos (by rw [wrap_id (by omega) (by omega)]; omega), e1]
    simp only [Option.bind_some]
    rw [if_pos (by omega), e2]
    rfl
  | m + 1, i, c, hm, hc => by
    have b1 := cp_take_le (fun t => decide (t.f1 = b)) s i
    have t1 := cp_take (fun t => decide (t.f1 = b)) s i (by omega)
    have ih := heaps_l0 x s y d w a b hs h1 hx hcp asc hd hw hq m (i + 1) (c + (if (gt s i).f1 = b then 1 else 0)) (by omega) (by
      rw [t1, hc]
      by_cases q : (gt s i).f1 = b
      · rw [if_pos q, if_pos (decide_eq_true q)]; omega
      · rw [if_neg q, if_neg (by rw [decide_eq_false q]; simp)]; omega)
    obtain ⟨K, g⟩ := heaps_l1 x s y d i (c + (if (gt s i).f1 = b then 1 else 0)) a b hs hx (by omega) hcp (by rw [wrap_up i (by omega)]; exact ih) s.length 0 0 (by omega) (by simp)
    have hj2 : ∀ k, K ≤ k → laws_FnHeaps.j2 (k + 2) x s y d c (i : Int) false a b = some true := fun k hk => by
      have e := g k hk
      simp only at e
      simp only [laws_FnHeaps.j2, laws_FnHeaps.j3, Bool.false_eq_true, if_false, rd_natTi]
      rw [if_pos (by omega), if_pos (by omega)]
      by_cases q : (gt s i).f1 = b
      · rw [if_pos q] at e
        rw [if_pos (show (s.getD i z25).f1 = b from q), wrap_id (by omega) (by omega)]; exact e
      · rw [if_neg q] at e
        rw [if_neg (show ¬ (s.getD i z25).f1 = b from q)]
        rw [show c = c + 0 by omega]; exact e
    refine ⟨K + 3, fun k hk => ?_⟩
    obtain ⟨k, rfl⟩ : ∃ j, k = j + 3 := ⟨k - 3, by omega⟩
    have e := hj2 k (by omega)
    simp only [laws_FnHeaps.l0]
    rw [if_pos (by omega)]
    by_cases p0 : (i : Int) > 0
    · have hw1 : wrap64 ((i : Int) - 1) = ((i - 1 : Nat) : Int) := by rw [wrap_id (by omega) (by omega)]; omega
      have ha := asc (i - 1) (by omega)
      rw [show i - 1 + 1 = i by omega] at ha
      rw [if_pos p0, if_pos (by omega), hw1, if_pos (by omega), if_pos (by omega), rd_natTi, rd_natTi, implBefore]
      simp only [Option.bind_some]
      rw [show bf (s.getD i z25) (s.getD (i - 1) z25) = false from ha]
      exact e
    · rw [if_neg p0]; exact e
theorem bind_of {α β : Type} {o : Option α} {a : α} {f : α → Option β} (h : o = some a) : o.bind f = f a := by rw [h]; rfl
theorem heaps_f (l0 : List Int) (c : ¬ (l0.length : Int) > 1048576) (m : Nat) (l x s y d : List S25) (t u : S25)
    (e1 : spec_DrawHeap.f m l0 = some (l, t.f0, t.f1)) (e2 : impl_HeapPut.f m l t.f0 t.f1 = some x) (e3 : impl_Sorted.f m x = some s) (e4 : impl_HeapTake.f m x = some (y, u.f0, u.f1, true)) (e5 : impl_HeapDrop.f m x t.f1 = some d)
    (e6 : impl_HeapOk.f m l = some true) (e7 : impl_HeapOk.f m x = some true) (e8 : impl_HeapOk.f m y = some true) (e9 : impl_HeapOk.f m d = some true)
    (hl : l.length < 1000) (hs : s.length = l.length + 1) (hy : y.length = l.length) (hr : rd_T25 s 0 = u) (e10 : laws_FnHeaps.j0 m x s y d false t.f0 t.f1 = some true) : laws_FnHeaps.f m l0 = some true := by
  have e0 : laws_big.f l0 = some false := by unfold laws_big.f; rw [decide_eq_false c]
  unfold laws_FnHeaps.f
  refine (bind_of e0).trans ?_
  refine (if_neg (by decide)).trans ?_
  refine (bind_of e1).trans ?_
  refine (bind_of e2).trans ?_
  refine (bind_of e3).trans ?_
  refine (bind_of e4).trans ?_
  refine (bind_of e5).trans ?_
  refine (bind_of e6).trans ?_
  refine (if_pos rfl).trans ?_
  refine (bind_of e7).trans ?_
  refine (if_pos rfl).trans ?_
  refine (bind_of e8).trans ?_
  refine (if_pos rfl).trans ?_
  refine (bind_of e9).trans ?_
  refine (if_pos rfl).trans ?_
  refine (if_pos rfl).trans ?_
  refine (if_pos (by rw [wrap_up l.length (by omega), hs])).trans ?_
  refine (if_pos (by rw [hy])).trans ?_
  refine (if_pos (by omega)).trans ?_
  rw [hr]
  simp only [beq_self_eq_true, Bool.not_true, Bool.or_self]
  exact e10
theorem srt_tail (x : List S25) (h : 0 < x.length) : (srt x.length x).drop 1 = srt (hRest x).length (hRest x) ∧ rd_T25 (srt x.length x) 0 = x.getD 0 z25 := by
  obtain ⟨n, hn⟩ : ∃ n, x.length = n + 1 := ⟨x.length - 1, by omega⟩
  rw [hRest_length, hn, Nat.add_sub_cancel, srt]
  exact ⟨rfl, rfl⟩
theorem drop_law (x : List S25) (b : Int) : (hDrop b [] x).length = x.countP (fun y => !(decide (y.f1 = b))) ∧ ((hDrop b [] x).length : Int) = (x.length : Int) - (x.countP (fun t => decide (t.f1 = b)) : Int) ∧ (hDrop b [] x).length ≤ x.length ∧ (x.countP ng = 0 → (hDrop b [] x).countP ng = 0) := by
  have ld0 := hDrop_cp b (fun _ => true) x []
  have ld : (hDrop b [] x).length = x.countP (fun y => !(decide (y.f1 = b))) := by simpa using ld0
  have lx := List.length_eq_countP_add_countP (fun y : S25 => decide (y.f1 = b)) (l := x)
  have lx2 : x.countP (fun y => decide (¬ (decide (y.f1 = b)) = true)) = x.countP (fun y => !(decide (y.f1 = b))) := by congr 1; funext y; by_cases q : y.f1 = b <;> simp [q]
  rw [lx2] at lx
  refine ⟨ld, by omega, by rw [ld]; exact List.countP_le_length, fun nx => ?_⟩
  rw [hDrop_cp]
  have e : x.countP (fun y => ng y && !(decide (y.f1 = b))) ≤ x.countP ng := List.countP_mono_left (fun y _ hy => by simp only [Bool.and_eq_true] at hy; exact hy.1)
  simp only [List.countP_nil]; omega
theorem ten (K1 K2 K3 K4 K5 K6 K7 K8 K9 K10 : Nat) : ∃ k, K1 ≤ k + 1 ∧ K2 ≤ k + 1 ∧ K3 ≤ k + 1 ∧ K4 ≤ k + 1 ∧ K5 ≤ k + 1 ∧ K6 ≤ k + 1 ∧ K7 ≤ k + 1 ∧ K8 ≤ k + 1 ∧ K9 ≤ k + 1 ∧ K10 ≤ k := ⟨K1 + K2 + K3 + K4 + K5 + K6 + K7 + K8 + K9 + K10, by omega, by omega, by omega, by omega, by omega, by omega, by omega, by omega, by omega, by omega⟩
theorem heaps_all (l0 : List Int) (c : ¬ (l0.length : Int) > 1048576) (l x s y d : List S25) (t u : S25)
    (g1 : Ev (fun k => spec_DrawHeap.f k l0) (l, t.f0, t.f1)) (g2 : Ev (fun k => impl_HeapPut.f k l t.f0 t.f1) x) (g3 : Ev (fun k => impl_Sorted.f k x) s) (g4 : Ev (fun k => impl_HeapTake.f k x) (y, u.f0, u.f1, true)) (g5 : Ev (fun k => impl_HeapDrop.f k x t.f1) d)
    (g6 : Ev (fun k => impl_HeapOk.f k l) true) (g7 : Ev (fun k => impl_HeapOk.f k x) true) (g8 : Ev (fun k => impl_HeapOk.f k y) true) (g9 : Ev (fun k => impl_HeapOk.f k d) true)
    (hl : l.length < 1000) (hs : s.length = l.length + 1) (hy : y.length = l.length) (hr : rd_T25 s 0 = u) (g10 : Ev (fun k => laws_FnHeaps.l0 k x s y d 0 0 t.f0 t.f1) true) : ∃ k, laws_FnHeaps.f k l0 = some true := by
  obtain ⟨K1, g1⟩ := g1
  obtain ⟨K2, g2⟩ := g2
  obtain ⟨K3, g3⟩ := g3
  obtain ⟨K4, g4⟩ := g4
  obtain ⟨K5, g5⟩ := g5
  obtain ⟨K6, g6⟩ := g6
  obtain ⟨K7, g7⟩ := g7
  obtain ⟨K8, g8⟩ := g8
  obtain ⟨K9, g9⟩ := g9
  obtain ⟨K10, g10⟩ := g10
  obtain ⟨k, q1, q2, q3, q4, q5, q6, q7, q8, q9, q10⟩ := ten K1 K2 K3 K4 K5 K6 K7 K8 K9 K10
  have ej : laws_FnHeaps.j0 (k + 1) x s y d false t.f0 t.f1 = some true := by simp only [laws_FnHeaps.j0, Bool.false_eq_true, if_false]; exact g10 _ q10
  exact ⟨k + 1, heaps_f l0 c (k + 1) l x s y d t u (g1 _ q1) (g2 _ q2) (g3 _ q3) (g4 _ q4) (g5 _ q5) (g6 _ q6) (g7 _ q7) (g8 _ q8) (g9 _ q9) hl hs hy hr ej⟩
theorem heapOk_true (l : List S25) (h : l.length ≤ 16) (hh : Hp l) (hn : l.countP ng = 0) : Ev (fun k => impl_HeapOk.f k l) true := by
  have e := implHeapOk_ev l (by omega)
  rw [ok_of l hh hn h] at e
  exact e
theorem pure_FnHeaps : laws_FnHeaps.Pure := by
  intro l0 h0 h1 h2
  by_cases c : (l0.length : Int) > 1048576
  · exact ⟨0, by simp [laws_FnHeaps.f, laws_big.f, c]⟩
  obtain ⟨l, t, g1, w1, hl, nl, nt⟩ := drawHeap_ev l0 (by omega)
  have hp := hPut_length l t
  have hx := hPut_hp l t hl
  have nx : (hPut l t).countP ng = 0 := by rw [hPut_cp, nl, nt]; rfl
  have g2 := implPut_ev l t (by omega)
  generalize hPut l t = x at hp hx nx g2
  have hy := hRest_hp x hx
  have ly := hRest_length x
  have ny : (hRest x).countP ng = 0 := by have := hRest_cp ng x (by omega); omega
  have hd := hDrop_hp t.f1 x [] (fun j _ j1 => by simp at j1)
  obtain ⟨ld, ld2, ld3, nd⟩ := drop_law x t.f1
  have nd := nd nx
  have hcp := fun p => srt_cp p x.length x rfl
  have asc := srt_asc x.length x rfl hx
  have ls := srt_length x.length x
  obtain ⟨st, sr⟩ := srt_tail x (by omega)
  have g3 := implSorted_ev x (by omega)
  have g4 := implTake_ev x (by omega)
  rw [hTake_pos x (by omega)] at g4
  have g5 := implDrop_ev x t.f1 (by omega)
  have hsy := implSorted_ev (hRest x) (by omega)
  have hq : Ev (fun k => laws_sameHeap.f k (srt (hRest x).length (hRest x)) ((srt x.length x).drop 1)) true := by
    rw [st]; exact sameHeap_refl _ (by rw [srt_length]; omega)
  have g6 := heapOk_true l (by omega) hl nl
  have g7 := heapOk_true x (by omega) hx nx
  have g8 := heapOk_true (hRest x) (by omega) hy ny
  have g9 := heapOk_true (hDrop t.f1 [] x) (by omega) hd nd
  generalize srt x.length x = s at hcp asc ls st sr g3 hq
  generalize srt (hRest x).length (hRest x) = w at hsy hq st
  generalize hRest x = y at ly g4 hsy g8
  generalize hDrop t.f1 [] x = d at ld2 ld3 g5 g9
  have g10 := heaps_l0 x s y d w t.f0 t.f1 (by omega) (by omega) (by omega) hcp (fun i hi => asc i (by omega)) (by rw [hcp]; exact ld2) hsy hq s.length 0 0 (by omega) (by simp)
  exact heaps_all l0 c l x s y d t (x.getD 0 z25) g1 g2 g3 g4 g5 g6 g7 g8 g9 (by omega) (by omega) (by omega) sr g10
end Go.Proofs.Ytkjakmbmnbjpbaa.Print
namespace Go.Proofs.Ytkjakmbmnbjpbaa.Pure
theorem FnHeaps : Go.Proofs.Ytkjakmbmnbjpbaa.Print.laws_FnHeaps.Pure := Go.Proofs.Ytkjakmbmnbjpbaa.Print.pure_FnHeaps
end Go.Proofs.Ytkjakmbmnbjpbaa.Pure
namespace Go.Proofs.Ytkjakmbmnbjpbaa.Print

end Go.Proofs.Ytkjakmbmnbjpbaa.Print
end
