import Derived.Test.YtkjakmbmnbjpbaaMFnHeapsBent1
import Derived.Test.YtkjakmbmnbjpbaaMFnHeapsBent3
import Derived.Test.YtkjakmbmnbjpbaaMFnHeapsBent4
import Derived.Test.YtkjakmbmnbjpbaaMFnHeapsBent2
import Derived.Test.YtkjakmbmnbjpbaaMFnHeapsBent5
section
namespace Go.Proofs.Ytkjakmbmnbjpbaa.Print
open Go.RowKit Go.Proofs.YtkjakmbmnbjpbaaV.PrintWords Go.Proofs.YtkjakmbmnbjpbaaV.PrintLast Go.Proofs.YtkjakmbmnbjpbaaV.PrintMore
set_option linter.unusedVariables false
set_option linter.unusedSimpArgs false
theorem wrap_id {x : Int} (h1 : -9223372036854775808 ≤ x) (h2 : x ≤ 9223372036854775807) : wrap64 x = x := by unfold wrap64; omega
theorem wrap_up (n : Nat) (h : n < 9223372036854775807) : wrap64 ((n : Int) + 1) = ((n + 1 : Nat) : Int) := by unfold wrap64; omega
theorem lt_mid {α : Type} (pre suf : List α) (y : α) : (pre.length : Int) < ((pre ++ y :: suf).length : Int) := by simp only [List.length_append, List.length_cons]; omega
theorem not_lt_end {α : Type} (pre : List α) : ¬ ((pre.length : Int) < ((pre ++ []).length : Int)) := by simp
theorem nn (n : Nat) : (0 : Int) ≤ (n : Int) := by omega
theorem and_top (x : Int) (m : Nat) (hm : m < 9223372036854775808) : 0 ≤ Go.bits .and .i64 x (m : Int) ∧ Go.bits .and .i64 x (m : Int) ≤ m := by
  have h1 : (BitVec.ofInt 64 x &&& BitVec.ofInt 64 (m : Int)).toNat ≤ m := by
    rw [BitVec.toNat_and]
    refine Nat.le_trans Nat.and_le_right ?_
    rw [BitVec.ofInt_natCast, BitVec.toNat_ofNat]
    exact Nat.mod_le _ _
  have h2 : Go.bits .and .i64 x (m : Int) = ((BitVec.ofInt 64 x &&& BitVec.ofInt 64 (m : Int)).toNat : Int) := by
    show IntKind.i64.wrap ((BitVec.ofInt 64 x &&& BitVec.ofInt 64 (m : Int)).toNat : Int) = _
    rw [IntKind.wrap_i64]
    omega
  rw [h2]; omega
theorem dNew_l0 (l : List Int) (hl : l.length ≤ 1048576) : ∀ (n i : Nat) (h : Int), l.length ≤ i + n → ∃ s, Ev (fun k => spec_l1New.l0 k l h (i : Int)) (l, 0, s)
  | 0, i, h, hn => ⟨h, 1, fun k hk => by
    obtain ⟨k, rfl⟩ : ∃ m, k = m + 1 := ⟨k - 1, by omega⟩
    simp only [spec_l1New.l0]; rw [if_neg (by omega)]⟩
  | n + 1, i, h, hn => by
    by_cases c : (i : Int) < (l.length : Int)
    · by_cases c2 : (i : Int) < 4000
      · obtain ⟨s, K, g⟩ := dNew_l0 l hl n (i + 1) (Go.bits .and .i64 (wrap64 ((wrap64 ((wrap64 (h * 137)) + (wrap64 (rd l (i : Int))))) + 11)) 1073741823) (by omega)
        refine ⟨s, K + 1, fun k hk => ?_⟩
        obtain ⟨k, rfl⟩ : ∃ m, k = m + 1 := ⟨k - 1, by omega⟩
        have e := g k (by omega)
        simp only at e
        simp only [spec_l1New.l0]
        rw [if_pos c, if_pos c2, if_pos (by omega), wrap_up i (by omega), e]
      · refine ⟨h, 1, fun k hk => ?_⟩
        obtain ⟨k, rfl⟩ : ∃ m, k = m + 1 := ⟨k - 1, by omega⟩
        simp only [spec_l1New.l0]; rw [if_pos c, if_neg c2]
    · refine ⟨h, 1, fun k hk => ?_⟩
      obtain ⟨k, rfl⟩ : ∃ m, k = m + 1 := ⟨k - 1, by omega⟩
      simp only [spec_l1New.l0]; rw [if_neg c]
theorem dNew (l : List Int) (hl : l.length ≤ 1048576) : ∃ s, Ev (fun k => spec_l1New.f k l) (l, 0, s) := by
  obtain ⟨s, g⟩ := dNew_l0 l hl l.length 0 (wrap64 (140873 + (l.length : Int))) (by omega)
  exact ⟨s, g⟩
section
variable (l : List Int) (hl : l.length ≤ 1048576)
include hl
theorem dByte (p s : Int) (hp : 0 ≤ p) : ∃ v p' s', spec_l1Byte.f l p s = some (v, p', s') ∧ 0 ≤ p' ∧ 0 ≤ v ∧ v < 256 := by
  unfold spec_l1Byte.f
  have a1 := fun x => and_top x 255 (by decide)
  by_cases c : p < (l.length : Int)
  · rw [if_pos c, if_pos hp]
    refine ⟨_, _, _, rfl, by rw [wrap_id (by omega) (by omega)]; omega, (a1 _).1, by have := (a1 (wrap64 ((Go.bits .and .i64 (Go.bits .xor .i64 ((wrap64 ((wrap64 (s * 6364136223846793005)) + 1442695040888963407)) / 8589934592) ((wrap64 ((wrap64 (s * 6364136223846793005)) + 1442695040888963407)) / 140737488355328)) 255) + (wrap64 (rd l p))))).2; exact Int.lt_of_le_of_lt this (by decide)⟩
  · rw [if_neg c]
    exact ⟨_, _, _, rfl, hp, (a1 _).1, Int.lt_of_le_of_lt (a1 _).2 (by decide)⟩
theorem dBelow (p s a : Int) (hp : 0 ≤ p) (h0 : 0 < a) (h1 : a ≤ 256) : ∃ v p' s', spec_l1Below.f l p s a = some (v, p', s') ∧ 0 ≤ p' ∧ 0 ≤ v ∧ v < a := by
  obtain ⟨v, p', s', e, q, v0, _⟩ := dByte l hl p s hp
  refine ⟨Int.tmod v a, p', s', ?_, q, Int.tmod_nonneg _ v0, Int.tmod_lt_of_pos _ h0⟩
  simp only [spec_l1Below.f]
  rw [if_neg (by omega), if_pos h1, e, Option.bind_some, if_neg (by omega)]
theorem dOnce (p s a : Int) (hp : 0 ≤ p) (h0 : 0 < a) (h1 : a ≤ 256) : ∃ v p' s', spec_l1Once.f l p s a = some (v, p', s') ∧ 0 ≤ p' := by
  obtain ⟨v, p', s', e, q, _, _⟩ := dBelow l hl p s a hp h0 h1
  exact ⟨v == 0, p', s', by simp only [spec_l1Once.f, e, Option.bind_some], q⟩
end
def bf (a b : S25) : Bool := if a.f0 < b.f0 then true else if a.f0 = b.f0 then decide (a.f1 < b.f1) else false
theorem specBefore (a b : S25) : spec_Before.f a.f0 a.f1 b.f0 b.f1 = some (bf a b) := by
  unfold spec_Before.f bf
  split
  · rfl
  · split <;> rfl
theorem implBefore (a b : S25) : impl_Before.f a.f0 a.f1 b.f0 b.f1 = some (bf a b) := by
  unfold impl_Before.f bf
  split
  · rfl
  · split <;> rfl
theorem rd_natTi (l : List S25) (i : Nat) : rd_T25 l (i : Int) = l.getD i z25 := by unfold rd_T25; simp
def sw (l : List S25) (i j : Nat) : List S25 := (l.set i (l.getD j z25)).set j (l.getD i z25)
theorem sw_length (l : List S25) (i j : Nat) : (sw l i j).length = l.length := by simp [sw]
theorem par_eq (i : Nat) (h : 0 < i) (hi : i < 4611686018427387904) : wrap64 (Int.tdiv (wrap64 ((i : Int) - 1)) 2) = (((i - 1) / 2 : Nat) : Int) := by
  rw [wrap_id (x := (i : Int) - 1) (by omega) (by omega)]
  have e : (i : Int) - 1 = ((i - 1 : Nat) : Int) := by omega
  rw [e, Int.tdiv_eq_ediv_of_nonneg (by omega)]
  rw [wrap_id (by omega) (by omega)]
  omega
def up (l : List S25) (i : Nat) : List S25 :=
  if h : 0 < i then (if bf (l.getD i z25) (l.getD ((i - 1) / 2) z25) = true then up (sw l i ((i - 1) / 2)) ((i - 1) / 2) else l) else l
termination_by i
decreasing_by omega
theorem up_zero (l : List S25) : up l 0 = l := by rw [up]; simp
theorem up_pos (l : List S25) (i : Nat) (h : 0 < i) : up l i = if bf (l.getD i z25) (l.getD ((i - 1) / 2) z25) = true then up (sw l i ((i - 1) / 2)) ((i - 1) / 2) else l := by rw [up]; simp [h]
theorem up_length : ∀ (n i : Nat) (l : List S25), i ≤ n → (up l i).length = l.length
  | 0, i, l, h => by obtain rfl : i = 0 := by omega
                     rw [up_zero]
  | n + 1, i, l, h => by
    by_cases h0 : 0 < i
    · rw [up_pos l i h0]
      split
      · rw [up_length n _ _ (by omega), sw_length]
      · rfl
    · obtain rfl : i = 0 := by omega
      rw [up_zero]
theorem implPut_l0 : ∀ (n i : Nat) (l : List S25), i ≤ n → i < l.length → l.length < 4611686018427387904 → Ev (fun k => impl_HeapPut.l0 k l (i : Int)) (up l i)
  | n, i, l, hn, hi, hl => by
    by_cases h0 : 0 < i
    · have hp := par_eq i h0 (by omega)
      rw [up_pos l i h0]
      by_cases hb : bf (l.getD i z25) (l.getD ((i - 1) / 2) z25) = true
      · rw [if_pos hb]
        obtain ⟨n, rfl⟩ : ∃ m, n = m + 1 := ⟨n - 1, by omega⟩
        have ih := implPut_l0 n ((i - 1) / 2) (sw l i ((i - 1) / 2)) (by omega) (by rw [sw_length]; omega) (by rw [sw_length]; exact hl)
        refine Ev.step (f := fun k => impl_HeapPut.l0 k (sw l i ((i - 1) / 2)) (((i - 1) / 2 : Nat) : Int)) (fun k => ?_) ih
        simp only [impl_HeapPut.l0]
        rw [hp, if_pos (by omega), if_pos (by omega), if_pos (by omega), if_pos (by omega), if_pos (by omega), rd_natTi, rd_natTi, implBefore, Option.bind_some, if_pos hb]
        rfl
      · rw [if_neg hb]
        refine Ev.step (f := fun k => some l) (fun k => ?_) (Ev.now _)
        simp only [impl_HeapPut.l0]
        rw [hp, if_pos (by omega), if_pos (by omega), if_pos (by omega), if_pos (by omega), if_pos (by omega), rd_natTi, rd_natTi, implBefore, Option.bind_some, if_neg hb]
    · obtain rfl : i = 0 := by omega
      rw [up_zero]
      refine Ev.step (f := fun k => some l) (fun k => ?_) (Ev.now _)
      simp only [impl_HeapPut.l0]
      rw [if_neg (by omega)]
theorem specPut_l0 : ∀ (n i : Nat) (l : List S25), i ≤ n → i < l.length → l.length < 4611686018427387904 → Ev (fun k => spec_HeapPut.l0 k l (i : Int)) (up l i)
  | n, i, l, hn, hi, hl => by
    by_cases h0 : 0 < i
    · have hp := par_eq i h0 (by omega)
      rw [up_pos l i h0]
      by_cases hb : bf (l.getD i z25) (l.getD ((i - 1) / 2) z25) = true
      · rw [if_pos hb]
        obtain ⟨n, rfl⟩ : ∃ m, n = m + 1 := ⟨n - 1, by omega⟩
        have ih := specPut_l0 n ((i - 1) / 2) (sw l i ((i - 1) / 2)) (by omega) (by rw [sw_length]; omega) (by rw [sw_length]; exact hl)
        refine Ev.step (f := fun k => spec_HeapPut.l0 k (sw l i ((i - 1) / 2)) (((i - 1) / 2 : Nat) : Int)) (fun k => ?_) ih
        simp only [spec_HeapPut.l0]
        rw [hp, if_pos (by omega), if_pos (by omega), if_pos (by omega), if_pos (by omega), if_pos (by omega), rd_natTi, rd_natTi, specBefore, Option.bind_some, if_pos hb]
        rfl
      · rw [if_neg hb]
        refine Ev.step (f := fun k => some l) (fun k => ?_) (Ev.now _)
        simp only [spec_HeapPut.l0]
        rw [hp, if_pos (by omega), if_pos (by omega), if_pos (by omega), if_pos (by omega), if_pos (by omega), rd_natTi, rd_natTi, specBefore, Option.bind_some, if_neg hb]
    · obtain rfl : i = 0 := by omega
      rw [up_zero]
      refine Ev.step (f := fun k => some l) (fun k => ?_) (Ev.now _)
      simp only [spec_HeapPut.l0]
      rw [if_neg (by omega)]
def hPut (l : List S25) (t : S25) : List S25 := up (l ++ [t]) l.length
theorem hPut_length (l : List S25) (t : S25) : (hPut l t).length = l.length + 1 := by unfold hPut; rw [up_length l.length _ _ (Nat.le_refl _)]; simp
theorem len_sub1 (l : List S25) (t : S25) (h : l.length < 4611686018427387904) : wrap64 (((l ++ [t]).length : Int) - 1) = (l.length : Int) := by
  rw [wrap_id (by simp only [List.length_append, List.length_singleton]; omega) (by simp only [List.length_append, List.length_singleton]; omega)]
  simp only [List.length_append, List.length_singleton]
  omega
theorem implPut_ev (l : List S25) (t : S25) (h : l.length < 4000000000) : Ev (fun k => impl_HeapPut.f k l t.f0 t.f1) (hPut l t) := by
  unfold impl_HeapPut.f impl_copyTimers.f
  simp only [List.length_nil, Nat.zero_add, List.nil_append, if_pos (show l.length < 8796093022208 by omega), Option.bind_some, List.length_singleton, if_pos (show l.length + 1 < 8796093022208 by omega), len_sub1 l t (by omega)]
  exact implPut_l0 l.length l.length (l ++ [t]) (Nat.le_refl _) (by simp) (by simp; omega)
theorem specPut_ev (l : List S25) (t : S25) (h : l.length < 4000000000) : Ev (fun k => spec_HeapPut.f k l t.f0 t.f1) (hPut l t) := by
  unfold spec_HeapPut.f
  simp only [List.length_nil, Nat.zero_add, List.nil_append, if_pos (show l.length < 8796093022208 by omega), Option.bind_some, List.length_singleton, if_pos (show l.length + 1 < 8796093022208 by omega), len_sub1 l t (by omega)]
  exact specPut_l0 l.length l.length (l ++ [t]) (Nat.le_refl _) (by simp) (by simp; omega)
section
variable (l : List Int) (hl : l.length ≤ 1048576)
include hl
theorem dTimer (p s : Int) (hp : 0 ≤ p) : ∃ (t : S25) (p' s' : Int), spec_l10Timer.f l p s = some (t.f0, t.f1, p', s') ∧ 0 ≤ p' := by
  obtain ⟨a, p1, s1, e1, q1, _, _⟩ := dBelow l hl p s 9 hp (by decide) (by decide)
  obtain ⟨b, p2, s2, e2, q2, _, _⟩ := dBelow l hl p1 s1 9 q1 (by decide) (by decide)
  exact ⟨⟨a, b⟩, p2, s2, by simp only [spec_l10Timer.f, e1, Option.bind_some, e2], q2⟩
theorem dHeap_l0 : ∀ (n : Nat) (x : List S25) (p s : Int), 0 ≤ p → x.length + n ≤ 1000 →
    ∃ r p' s', Ev (fun k => spec_l10Draw.l0 k x (n : Int) l p s) (r, p', s') ∧ 0 ≤ p' ∧ r.length ≤ x.length + n
  | 0, x, p, s, hp, hx => ⟨x, p, s, ⟨1, fun k hk => by
    obtain ⟨k, rfl⟩ : ∃ j, k = j + 1 := ⟨k - 1, by omega⟩
    simp only [spec_l10Draw.l0]; rw [if_neg (by omega)]⟩, hp, by omega⟩
  | n + 1, x, p, s, hp, hx => by
    obtain ⟨t, p1, s1, e1, q1⟩ := dTimer l hl p s hp
    obtain ⟨K2, g2⟩ := specPut_ev x t (by omega)
    have hlen := hPut_length x t
    obtain ⟨r, p', s', ⟨K, g⟩, q, w⟩ := dHeap_l0 n (hPut x t) p1 s1 q1 (by omega)
    refine ⟨r, p', s', ⟨K + K2 + 1, fun k hk => ?_⟩, q, by omega⟩
    obtain ⟨k, rfl⟩ : ∃ j, k = j + 1 := ⟨k - 1, by omega⟩
    have e := g k (by omega)
    have e2 := g2 k (by omega)
    simp only at e e2
    simp only [spec_l10Draw.l0]
    rw [if_pos (by omega), e1]
    simp only [Option.bind_some]
    rw [e2]
    simp only [Option.bind_some]
    rw [show wrap64 (((n + 1 : Nat) : Int) - 1) = (n : Int) by rw [wrap_id (by omega) (by omega)]; omega, e]
theorem dHeap (p s : Int) (hp : 0 ≤ p) : ∃ r p' s', Ev (fun k => spec_l10Draw.f k l p s) (r, p', s') ∧ 0 ≤ p' ∧ r.length ≤ 8 := by
  obtain ⟨b, p2, s2, e2, q2, b0, b1⟩ := dBelow l hl p s 9 hp (by decide) (by decide)
  obtain ⟨n, rfl⟩ : ∃ n : Nat, b = (n : Int) := ⟨b.toNat, by omega⟩
  obtain ⟨r, p', s', ⟨K, g⟩, q, w⟩ := dHeap_l0 l hl n [] p2 s2 q2 (by simp only [List.length_nil]; omega)
  refine ⟨r, p', s', ⟨K, fun k hk => ?_⟩, q, by simp only [List.length_nil] at w; omega⟩
  have e := g k hk
  simp only at e
  simp only [spec_l10Draw.f, e2, Option.bind_some, e]
omit hl in
theorem dAnyHeap_l0 (p s : Int) : ∀ (n : Nat) (x : List S25), x.length + n = 17 → ∃ r, Ev (fun k => spec_l10Any.l0 k x l p s) (r, p, s) ∧ r.length = 17
  | 0, x, hx => ⟨x, ⟨1, fun k hk => by
    obtain ⟨k, rfl⟩ : ∃ j, k = j + 1 := ⟨k - 1, by omega⟩
    simp only [spec_l10Any.l0]; rw [if_neg (by omega)]⟩, by omega⟩
  | n + 1, x, hx => by
    obtain ⟨r, ⟨K, g⟩, w⟩ := dAnyHeap_l0 p s n (x ++ [(⟨20, 0⟩ : S25)]) (by simp only [List.length_append, List.length_singleton]; omega)
    refine ⟨r, ⟨K + 1, fun k hk => ?_⟩, w⟩
    obtain ⟨k, rfl⟩ : ∃ j, k = j + 1 := ⟨k - 1, by omega⟩
    have e := g k (by omega)
    simp only at e
    simp only [spec_l10Any.l0]
    rw [if_pos (by omega), if_pos (by omega), e]
theorem dAnyHeap (p s : Int) (hp : 0 ≤ p) : ∃ r p' s', Ev (fun k => spec_l10Any.f k l p s) (r, p', s') ∧ 0 ≤ p' ∧ r.length ≤ 17 := by
  obtain ⟨r, p1, s1, ⟨K, g⟩, q1, w⟩ := dHeap l hl p s hp
  obtain ⟨b, p2, s2, e2, q2, _, _⟩ := dBelow l hl p1 s1 8 q1 (by decide) (by decide)
  by_cases c0 : b = 0
  · obtain ⟨t, p3, s3, e3, q3⟩ := dTimer l hl p2 s2 q2
    refine ⟨r ++ [t], p3, s3, ⟨K, fun k hk => ?_⟩, q3, by simp only [List.length_append, List.length_singleton]; omega⟩
    have e := g k hk
    simp only at e
    simp only [spec_l10Any.f, e, Option.bind_some, e2, if_pos c0, e3]
    rw [if_pos (by omega)]
  by_cases c1 : b = 1
  · refine ⟨r ++ [(⟨(-1), 0⟩ : S25)], p2, s2, ⟨K, fun k hk => ?_⟩, q2, by simp only [List.length_append, List.length_singleton]; omega⟩
    have e := g k hk
    simp only at e
    simp only [spec_l10Any.f, e, Option.bind_some, e2, if_neg c0, if_pos c1]
    rw [if_pos (by omega)]
  by_cases c2 : b = 2
  · obtain ⟨r2, ⟨K2, g2⟩, w2⟩ := dAnyHeap_l0 l p2 s2 (17 - r.length) r (by omega)
    refine ⟨r2, p2, s2, ⟨K + K2, fun k hk => ?_⟩, q2, by omega⟩
    have e := g k (by omega)
    have e3 := g2 k (by omega)
    simp only at e e3
    simp only [spec_l10Any.f, e, Option.bind_some, e2, if_neg c0, if_neg c1, if_pos c2, e3]
  · refine ⟨r, p2, s2, ⟨K, fun k hk => ?_⟩, q2, by omega⟩
    have e := g k hk
    simp only at e
    simp only [spec_l10Any.f, e, Option.bind_some, e2, if_neg c0, if_neg c1, if_neg c2]
end
def bad (l : List S25) (i : Nat) : Bool := if (l.getD i z25).f0 < 0 then true else if (l.getD i z25).f1 < 0 then true else if 0 < i then bf (l.getD i z25) (l.getD ((i - 1) / 2) z25) else false
def okFrom (l : List S25) : Nat → Nat → Bool
  | 0, _ => decide ((l.length : Int) ≤ 16)
  | d + 1, i => if bad l i = true then false else okFrom l d (i + 1)
theorem implHeapOk_l0 (l : List S25) (hl : l.length < 4611686018427387904) : ∀ (d i : Nat), d + i = l.length → Ev (fun k => impl_HeapOk.l0 k l l (l.length : Int) (i : Int)) (okFrom l d i)
  | 0, i, h => by
    refine Ev.step (f := fun _ => some (okFrom l 0 i)) (fun k => ?_) (Ev.now _)
    simp only [impl_HeapOk.l0]
    rw [if_neg (by omega)]
    rfl
  | d + 1, i, h => by
    have ih := implHeapOk_l0 l hl d (i + 1) (by omega)
    have hw := wrap_up i (by omega)
    by_cases hb : bad l i = true
    · have e : okFrom l (d + 1) i = false := by simp [okFrom, hb]
      rw [e]
      refine Ev.step (f := fun _ => some false) (fun k => ?_) (Ev.now _)
      simp only [impl_HeapOk.l0]
      unfold bad at hb
      rw [if_pos (by omega), if_pos (by omega), if_pos (by omega), rd_natTi]
      split at hb
      · rename_i h1; rw [if_pos h1]
      · rename_i h1; rw [if_neg h1]
        split at hb
        · rename_i h2; rw [if_pos h2]
        · rename_i h2; rw [if_neg h2]
          split at hb
          · rename_i h3; rw [if_pos (by omega), par_eq i h3 (by omega), if_pos (by omega), if_pos (by omega), rd_natTi, implBefore, Option.bind_some, if_pos hb]
          · cases hb
    · have e : okFrom l (d + 1) i = okFrom l d (i + 1) := by simp [okFrom, hb]
      rw [e]
      refine Ev.step (f := fun k => impl_HeapOk.l0 k l l (l.length : Int) ((i + 1 : Nat) : Int)) (fun k => ?_) ih
      simp only [impl_HeapOk.l0]
      unfold bad at hb
      rw [if_pos (by omega), if_pos (by omega), if_pos (by omega), rd_natTi]
      split at hb
      · exact absurd rfl hb
      · rename_i h1; rw [if_neg h1]
        split at hb
        · exact absurd rfl hb
        · rename_i h2; rw [if_neg h2]
          split at hb
          · rename_i h3; rw [if_pos (by omega), par_eq i h3 (by omega), if_pos (by omega), if_pos (by omega), rd_natTi, implBefore, Option.bind_some, if_neg hb, hw]
          · rename_i h3; rw [if_neg (by omega), hw]
theorem specHeapOk_l0 (l : List S25) (hl : l.length < 4611686018427387904) : ∀ (d i : Nat), d + i = l.length → Ev (fun k => spec_HeapOk.l0 k l (i : Int)) (okFrom l d i)
  | 0, i, h => by
    refine Ev.step (f := fun _ => some (okFrom l 0 i)) (fun k => ?_) (Ev.now _)
    simp only [spec_HeapOk.l0]
    rw [if_neg (by omega)]
    rfl
  | d + 1, i, h => by
    have ih := specHeapOk_l0 l hl d (i + 1) (by omega)
    have hw := wrap_up i (by omega)
    by_cases hb : bad l i = true
    · have e : okFrom l (d + 1) i = false := by simp [okFrom, hb]
      rw [e]
      refine Ev.step (f := fun _ => some false) (fun k => ?_) (Ev.now _)
      simp only [spec_HeapOk.l0]
      unfold bad at hb
      rw [if_pos (by omega), if_pos (by omega), rd_natTi]
      split at hb
      · rename_i h1; rw [if_pos h1]
      · rename_i h1; rw [if_neg h1]
        split at hb
        · rename_i h2; rw [if_pos h2]
        · rename_i h2; rw [if_neg h2]
          split at hb
          · rename_i h3; rw [if_pos (by omega), par_eq i h3 (by omega), if_pos (by omega), if_pos (by omega), rd_natTi, specBefore, Option.bind_some, if_pos hb]
          · cases hb
    · have e : okFrom l (d + 1) i = okFrom l d (i + 1) := by simp [okFrom, hb]
      rw [e]
      refine Ev.step (f := fun k => spec_HeapOk.l0 k l ((i + 1 : Nat) : Int)) (fun k => ?_) ih
      simp only [spec_HeapOk.l0]
      unfold bad at hb
      rw [if_pos (by omega), if_pos (by omega), rd_natTi]
      split at hb
      · exact absurd rfl hb
      · rename_i h1; rw [if_neg h1]
        split at hb
        · exact absurd rfl hb
        · rename_i h2; rw [if_neg h2]
          split at hb
          · rename_i h3; rw [if_pos (by omega), par_eq i h3 (by omega), if_pos (by omega), if_pos (by omega), rd_natTi, specBefore, Option.bind_some, if_neg hb, hw]
          · rename_i h3; rw [if_neg (by omega), hw]
def hOk (l : List S25) : Bool := okFrom l l.length 0
theorem implHeapOk_ev (l : List S25) (hl : l.length < 4611686018427387904) : Ev (fun k => impl_HeapOk.f k l) (hOk l) := by
  unfold impl_HeapOk.f
  exact implHeapOk_l0 l hl l.length 0 (by omega)
theorem specHeapOk_ev (l : List S25) (hl : l.length < 4611686018427387904) : Ev (fun k => spec_HeapOk.f k l) (hOk l) := by
  unfold spec_HeapOk.f
  exact specHeapOk_l0 l hl l.length 0 (by omega)
/-- The child that goes up, of place i among the first n. -/
def kid (n : Nat) (l : List S25) (i : Nat) : Nat := if 2 * i + 2 < n then (if bf (l.getD (2 * i + 2) z25) (l.getD (2 * i + 1) z25) = true then 2 * i + 2 else 2 * i + 1) else 2 * i + 1
theorem kid_lo (n : Nat) (l : List S25) (i : Nat) : 2 * i + 1 ≤ kid n l i := by unfold kid; split <;> (try split) <;> omega
theorem kid_hi (n : Nat) (l : List S25) (i : Nat) (h : 2 * i + 1 < n) : kid n l i < n := by unfold kid; split <;> (try split) <;> omega
def down (n : Nat) : Nat → List S25 → Nat → List S25
  | 0, l, _ => l
  | d + 1, l, i => if 2 * i + 1 < n then (if bf (l.getD (kid n l i) z25) (l.getD i z25) = true then down n d (sw l i (kid n l i)) (kid n l i) else l) else l
theorem down_length (n : Nat) : ∀ (d : Nat) (l : List S25) (i : Nat), (down n d l i).length = l.length
  | 0, _, _ => rfl
  | d + 1, l, i => by
    unfold down
    split
    · split
      · rw [down_length n d, sw_length]
      · rfl
    · rfl
theorem down_end (n d : Nat) (l : List S25) (i : Nat) (h : n ≤ 2 * i + 1) : down n d l i = l := by
  cases d with
  | zero => rfl
  | succ d => unfold down; rw [if_neg (by omega)]
theorem wk1 (i : Nat) (h : i < 1000000000000) : wrap64 (wrap64 (2 * (i : Int)) + 1) = ((2 * i + 1 : Nat) : Int) := by
  rw [wrap_id (x := 2 * (i : Int)) (by omega) (by omega), wrap_id (by omega) (by omega)]; omega
theorem wk2 (i : Nat) (h : i < 1000000000000) : wrap64 (((2 * i + 1 : Nat) : Int) + 1) = ((2 * i + 2 : Nat) : Int) := by
  rw [wrap_id (by omega) (by omega)]; omega
theorem implTake_j1 (n i c : Nat) (l : List S25) (b : Bool) (a0 a1 : Int) (hl : l.length < 1000000000000) (hn : n = l.length) (hi : i < n) (hc : c + (if b = true then 1 else 0) = kid n l i) (hk : 2 * i + 1 ≤ c) (hck : b = true → kid n l i < n) (r : List S25 × Int × Int × Bool)
    (h : Ev (fun k => if kid n l i < n then (if bf (l.getD (kid n l i) z25) (l.getD i z25) = true then impl_HeapTake.l0 k (n : Int) (sw l i (kid n l i)) (kid n l i : Int) a0 a1 else some (l, a0, a1, true)) else some (l, a0, a1, true)) r) :
    Ev (fun k => impl_HeapTake.j1 k (n : Int) l (i : Int) (c : Int) b a0 a1) r := by
  refine Ev.step (fun k => ?_) h
  simp only [impl_HeapTake.j1]
  cases b with
  | true =>
    have hk2 := hck rfl
    simp only [if_true] at hc
    have e : wrap64 ((c : Int) + 1) = (kid n l i : Int) := by rw [wrap_up c (by omega), ← hc]
    rw [if_pos rfl, e, if_neg (by omega), if_pos (by omega), if_pos (by omega), if_pos (by omega), if_pos (by omega), rd_natTi, rd_natTi, implBefore, Option.bind_some, if_pos hk2]
    rfl
  | false =>
    simp only [Bool.false_eq_true, if_false, Nat.add_zero] at hc
    subst hc
    rw [if_neg (by simp)]
    by_cases hk2 : kid n l i < n
    · rw [if_neg (by omega), if_pos (by omega), if_pos (by omega), if_pos (by omega), if_pos (by omega), rd_natTi, rd_natTi, implBefore, Option.bind_some, if_pos hk2]
      rfl
    · rw [if_pos (by omega), if_neg hk2]
theorem implTake_l0 (n : Nat) (a0 a1 : Int) : ∀ (d i : Nat) (l : List S25), n = l.length → l.length < 1000000000000 → i < n → n ≤ d + i → Ev (fun k => impl_HeapTake.l0 k (n : Int) l (i : Int) a0 a1) (down n d l i, a0, a1, true)
  | 0, i, l, hn, hl, hi, hd => by omega
  | d + 1, i, l, hn, hl, hi, hd => by
    have w1 := wk1 i (by omega)
    have w2 := wk2 i (by omega)
    have klo := kid_lo n l i
    have ih : Ev (fun k => if kid n l i < n then (if bf (l.getD (kid n l i) z25) (l.getD i z25) = true then impl_HeapTake.l0 k (n : Int) (sw l i (kid n l i)) (kid n l i : Int) a0 a1 else some (l, a0, a1, true)) else some (l, a0, a1, true)) (down n (d + 1) l i, a0, a1, true) := by
      unfold down
      by_cases h1 : 2 * i + 1 < n
      · have khi := kid_hi n l i h1
        simp only [if_pos h1, if_pos khi]
        by_cases hb : bf (l.getD (kid n l i) z25) (l.getD i z25) = true
        · simp only [if_pos hb]
          exact implTake_l0 n a0 a1 d (kid n l i) (sw l i (kid n l i)) (by rw [sw_length]; exact hn) (by rw [sw_length]; exact hl) khi (by omega)
        · simp only [if_neg hb]
          exact Ev.now _
      · simp only [if_neg h1, if_neg (show ¬ kid n l i < n by omega)]
        exact Ev.now _
    by_cases h2 : 2 * i + 2 < n
    · by_cases hb : bf (l.getD (2 * i + 2) z25) (l.getD (2 * i + 1) z25) = true
      · have hk : kid n l i = 2 * i + 2 := by unfold kid; rw [if_pos h2, if_pos hb]
        refine Ev.step (f := fun k => impl_HeapTake.j1 k (n : Int) l (i : Int) ((2 * i + 1 : Nat) : Int) true a0 a1) (fun k => ?_) (implTake_j1 n i (2 * i + 1) l true a0 a1 hl hn hi (by simp [hk]) (Nat.le_refl _) (fun _ => by omega) _ ih)
        simp only [impl_HeapTake.l0]
        rw [w1, w2, if_pos (by omega), if_pos (by omega), if_pos (by omega), if_pos (by omega), if_pos (by omega), rd_natTi, rd_natTi, implBefore, Option.bind_some, hb]
      · have hk : kid n l i = 2 * i + 1 := by unfold kid; rw [if_pos h2, if_neg hb]
        refine Ev.step (f := fun k => impl_HeapTake.j1 k (n : Int) l (i : Int) ((2 * i + 1 : Nat) : Int) false a0 a1) (fun k => ?_) (implTake_j1 n i (2 * i + 1) l false a0 a1 hl hn hi (by simp [hk]) (Nat.le_refl _) (fun h => by cases h) _ ih)
        simp only [impl_HeapTake.l0]
        rw [w1, w2, if_pos (by omega), if_pos (by omega), if_pos (by omega), if_pos (by omega), if_pos (by omega), rd_natTi, rd_natTi, implBefore, Option.bind_some, Bool.eq_false_iff.2 hb]
    · have hk : kid n l i = 2 * i + 1 := by unfold kid; rw [if_neg h2]
      refine Ev.step (f := fun k => impl_HeapTake.j1 k (n : Int) l (i : Int) ((2 * i + 1 : Nat) : Int) false a0 a1) (fun k => ?_) (implTake_j1 n i (2 * i + 1) l false a0 a1 hl hn hi (by simp [hk]) (Nat.le_refl _) (fun h => by cases h) _ ih)
      simp only [impl_HeapTake.l0]
      rw [w1, w2, if_neg (by omega)]
/-- What is taken: the rest and the first. -/
def hRest (l : List S25) : List S25 := if l.length ≤ 1 then [] else down (l.length - 1) (l.length - 1) ((l.take (l.length - 1)).set 0 (l.getD (l.length - 1) z25)) 0
def hTake (l : List S25) : List S25 × Int × Int × Bool := if l.length = 0 then ([], 0, 0, false) else (hRest l, (l.getD 0 z25).f0, (l.getD 0 z25).f1, true)
theorem hRest_length (l : List S25) : (hRest l).length = l.length - 1 := by
  unfold hRest
  split
  · simp; omega
  · rw [down_length]; simp
theorem rd0Ti (l : List S25) : rd_T25 l 0 = l.getD 0 z25 := rfl
theorem implTake_ev (l : List S25) (h : l.length < 4000000000) : Ev (fun k => impl_HeapTake.f k l) (hTake l) := by
  unfold impl_HeapTake.f hTake
  by_cases h0 : l.length = 0
  · simp only [if_pos h0, if_pos (show (l.length : Int) = 0 by omega)]
    exact Ev.now _
  · have w1 : wrap64 ((l.length : Int) - 1) = ((l.length - 1 : Nat) : Int) := by rw [wrap_id (by omega) (by omega)]; omega
    simp only [if_neg h0, if_neg (show ¬ (l.length : Int) = 0 by omega), if_pos (show (0 : Int) < (l.length : Int) by omega), w1, if_pos (nn (l.length - 1)), if_pos (show ((l.length - 1 : Nat) : Int) ≤ (l.length : Int) by omega), impl_copyTimers.f, Int.toNat_natCast, List.length_nil, Nat.zero_add, List.nil_append, List.length_take,
      if_pos (show min (l.length - 1) l.length < 8796093022208 by omega), Option.bind_some, rd0Ti, if_pos (show ((l.length - 1 : Nat) : Int) < (l.length : Int) by omega), rd_natTi]
    unfold hRest
    by_cases h1 : l.length ≤ 1
    · simp only [if_pos h1, if_pos (show ((l.length - 1 : Nat) : Int) = 0 by omega), show l.length - 1 = 0 by omega, List.take_zero]
      exact Ev.now _
    · simp only [if_neg h1, if_neg (show ¬ ((l.length - 1 : Nat) : Int) = 0 by omega), if_pos (show (0 : Int) < ((min (l.length - 1) l.length : Nat) : Int) by omega)]
      exact implTake_l0 (l.length - 1) _ _ (l.length - 1) 0 _ (by simp) (by simp; omega) (by omega) (by omega)
theorem specTake_j2 (l0 : List S25) (n i c : Nat) (l : List S25) (b : Bool) (hl : l.length < 1000000000000) (hn : n = l.length) (h0 : 0 < l0.length) (hi : i < n) (hc : c + (if b = true then 1 else 0) = kid n l i) (hk : kid n l i < n) (r : List S25 × Int × Int × Bool)
    (h : Ev (fun k => if bf (l.getD (kid n l i) z25) (l.getD i z25) = true then spec_HeapTake.l0 k l0 (n : Int) (sw l i (kid n l i)) (kid n l i : Int) else some (l, (l0.getD 0 z25).f0, (l0.getD 0 z25).f1, true)) r) :
    Ev (fun k => spec_HeapTake.j2 k l0 (n : Int) l (i : Int) (c : Int) b) r := by
  refine Ev.step (fun k => ?_) h
  simp only [spec_HeapTake.j2]
  cases b with
  | true =>
    simp only [if_true] at hc
    have e : wrap64 ((c : Int) + 1) = (kid n l i : Int) := by rw [wrap_up c (by omega), ← hc]
    rw [if_pos rfl, e, if_pos (by omega), if_pos (by omega), if_pos (by omega), if_pos (by omega), rd_natTi, rd_natTi, specBefore, Option.bind_some, if_pos (show (0 : Int) < (l0.length : Int) by omega)]
    rfl
  | false =>
    simp only [Bool.false_eq_true, if_false, Nat.add_zero] at hc
    subst hc
    rw [if_neg (by simp), if_pos (by omega), if_pos (by omega), if_pos (by omega), if_pos (by omega), rd_natTi, rd_natTi, specBefore, Option.bind_some, if_pos (show (0 : Int) < (l0.length : Int) by omega)]
    rfl
theorem specTake_l0 (l0 : List S25) (h0 : 0 < l0.length) (n : Nat) : ∀ (d i : Nat) (l : List S25), n = l.length → l.length < 1000000000000 → i ≤ n → n ≤ d + i → Ev (fun k => spec_HeapTake.l0 k l0 (n : Int) l (i : Int)) (down n d l i, (l0.getD 0 z25).f0, (l0.getD 0 z25).f1, true)
  | d, i, l, hn, hl, hin, hd => by
    by_cases h1 : 2 * i + 1 < n
    · have w1 := wk1 i (by omega)
      have w2 := wk2 i (by omega)
      have klo := kid_lo n l i
      have khi := kid_hi n l i h1
      obtain ⟨d, rfl⟩ : ∃ m, d = m + 1 := ⟨d - 1, by omega⟩
      have ih : Ev (fun k => if bf (l.getD (kid n l i) z25) (l.getD i z25) = true then spec_HeapTake.l0 k l0 (n : Int) (sw l i (kid n l i)) (kid n l i : Int) else some (l, (l0.getD 0 z25).f0, (l0.getD 0 z25).f1, true)) (down n (d + 1) l i, (l0.getD 0 z25).f0, (l0.getD 0 z25).f1, true) := by
        unfold down
        simp only [if_pos h1]
        by_cases hb : bf (l.getD (kid n l i) z25) (l.getD i z25) = true
        · simp only [if_pos hb]
          exact specTake_l0 l0 h0 n d (kid n l i) (sw l i (kid n l i)) (by rw [sw_length]; exact hn) (by rw [sw_length]; exact hl) (by omega) (by omega)
        · simp only [if_neg hb]
          exact Ev.now _
      by_cases h2 : 2 * i + 2 < n
      · by_cases hb : bf (l.getD (2 * i + 2) z25) (l.getD (2 * i + 1) z25) = true
        · have hk : kid n l i = 2 * i + 2 := by unfold kid; rw [if_pos h2, if_pos hb]
          refine Ev.step (f := fun k => spec_HeapTake.j2 k l0 (n : Int) l (i : Int) ((2 * i + 1 : Nat) : Int) true) (fun k => ?_) (specTake_j2 l0 n i (2 * i + 1) l true hl hn h0 (by omega) (by simp [hk]) khi _ ih)
          simp only [spec_HeapTake.l0]
          rw [w1, w2, if_pos (by omega), if_pos (by omega), if_pos (by omega), if_pos (by omega), if_pos (by omega), if_pos (by omega), rd_natTi, rd_natTi, specBefore, Option.bind_some, hb]
        · have hk : kid n l i = 2 * i + 1 := by unfold kid; rw [if_pos h2, if_neg hb]
          refine Ev.step (f := fun k => spec_HeapTake.j2 k l0 (n : Int) l (i : Int) ((2 * i + 1 : Nat) : Int) false) (fun k => ?_) (specTake_j2 l0 n i (2 * i + 1) l false hl hn h0 (by omega) (by simp [hk]) khi _ ih)
          simp only [spec_HeapTake.l0]
          rw [w1, w2, if_pos (by omega), if_pos (by omega), if_pos (by omega), if_pos (by omega), if_pos (by omega), if_pos (by omega), rd_natTi, rd_natTi, specBefore, Option.bind_some, Bool.eq_false_iff.2 hb]
      · have hk : kid n l i = 2 * i + 1 := by unfold kid; rw [if_neg h2]
        refine Ev.step (f := fun k => spec_HeapTake.j2 k l0 (n : Int) l (i : Int) ((2 * i + 1 : Nat) : Int) false) (fun k => ?_) (specTake_j2 l0 n i (2 * i + 1) l false hl hn h0 (by omega) (by simp [hk]) khi _ ih)
        simp only [spec_HeapTake.l0]
        rw [w1, w2, if_pos (by omega), if_neg (by omega)]
    · rw [down_end n d l i (by omega)]
      refine Ev.step (f := fun k => some (l, (l0.getD 0 z25).f0, (l0.getD 0 z25).f1, true)) (fun k => ?_) (Ev.now _)
      simp only [spec_HeapTake.l0]
      rw [wk1 i (by omega), if_neg (by omega), if_pos (by omega)]; rfl
theorem specTake_ev (l : List S25) (h : l.length < 4000000000) : Ev (fun k => spec_HeapTake.f k l) (hTake l) := by
  unfold spec_HeapTake.f hTake
  by_cases h0 : l.length = 0
  · simp only [if_pos h0, if_pos (show (l.length : Int) = 0 by omega)]
    exact Ev.now _
  · have w1 : wrap64 ((l.length : Int) - 1) = ((l.length - 1 : Nat) : Int) := by rw [wrap_id (by omega) (by omega)]; omega
    simp only [if_neg h0, if_neg (show ¬ (l.length : Int) = 0 by omega), w1, if_pos (nn (l.length - 1)), if_pos (show ((l.length - 1 : Nat) : Int) ≤ (l.length : Int) by omega), Int.toNat_natCast, List.length_nil, Nat.zero_add, List.nil_append, List.length_take,
      if_pos (show min (l.length - 1) l.length < 8796093022208 by omega), Option.bind_some, if_pos (show ((l.length - 1 : Nat) : Int) < (l.length : Int) by omega), rd_natTi]
    unfold hRest
    by_cases h1 : l.length ≤ 1
    · simp only [if_pos h1, if_neg (show ¬ ((l.length - 1 : Nat) : Int) > 0 by omega), show l.length - 1 = 0 by omega, List.take_zero]
      refine Ev.step (f := fun k => spec_HeapTake.l0 k l ((0 : Nat) : Int) [] ((0 : Nat) : Int)) (fun k => ?_) ?_
      · simp [spec_HeapTake.j0]
      · have := specTake_l0 l (by omega) 0 0 0 [] rfl (by simp) (by omega) (by omega)
        exact this
    · simp only [if_neg h1, if_pos (show ((l.length - 1 : Nat) : Int) > 0 by omega), if_pos (show (0 : Int) < ((min (l.length - 1) l.length : Nat) : Int) by omega)]
      refine Ev.step (f := fun k => spec_HeapTake.l0 k l ((l.length - 1 : Nat) : Int) ((l.take (l.length - 1)).set 0 (l.getD (l.length - 1) z25)) ((0 : Nat) : Int)) (fun k => ?_) ?_
      · simp only [spec_HeapTake.j0]; rfl
      · exact specTake_l0 l (by omega) (l.length - 1) (l.length - 1) 0 _ (by simp) (by simp; omega) (by omega) (by omega)
theorem hTake_len (l : List S25) : (hTake l).1.length ≤ l.length := by
  unfold hTake
  split
  · simp
  · simp [hRest_length]
theorem rd_midTi (pre suf : List S25) (y : S25) : rd_T25 (pre ++ y :: suf) (pre.length : Int) = y := by unfold rd_T25; simp
theorem hTake_pos (l : List S25) (h : 0 < l.length) : hTake l = (hRest l, (l.getD 0 z25).f0, (l.getD 0 z25).f1, true) := by unfold hTake; rw [if_neg (by omega)]
theorem hTake_nil (l : List S25) (h : l.length = 0) : hTake l = ([], 0, 0, false) := by unfold hTake; rw [if_pos h]
/-- Timers in order. -/
def srt : Nat → List S25 → List S25
  | 0, _ => []
  | n + 1, l => l.getD 0 z25 :: srt n (hRest l)
theorem srt_length : ∀ (n : Nat) (l : List S25), (srt n l).length = n
  | 0, _ => rfl
  | n + 1, l => by simp [srt, srt_length n]
theorem implSorted_l0 : ∀ (n : Nat) (l acc : List S25), l.length = n → acc.length + n < 4000000000 → Ev (fun k => impl_Sorted.l0 k l acc) (acc ++ srt n l)
  | 0, l, acc, hn, hb => by
    have h1 := implTake_ev l (by omega)
    rw [hTake_nil l hn] at h1
    refine Ev.step (f := fun k => (impl_HeapTake.f k l).bind fun b => if b.2.2.2 = true then (if acc.length < 8796093022208 then impl_Sorted.l0 k b.1 (acc ++ [(⟨b.2.1, b.2.2.1⟩ : S25)]) else none) else some acc) (fun k => by simp only [impl_Sorted.l0]) ?_
    refine Ev.bind h1 ?_
    simp only [Bool.false_eq_true, if_false, srt, List.append_nil]
    exact Ev.now _
  | n + 1, l, acc, hn, hb => by
    have h1 := implTake_ev l (by omega)
    rw [hTake_pos l (by omega)] at h1
    have ih := implSorted_l0 n (hRest l) (acc ++ [l.getD 0 z25]) (by rw [hRest_length]; omega) (by simp; omega)
    refine Ev.step (f := fun k => (impl_HeapTake.f k l).bind fun b => if b.2.2.2 = true then (if acc.length < 8796093022208 then impl_Sorted.l0 k b.1 (acc ++ [(⟨b.2.1, b.2.2.1⟩ : S25)]) else none) else some acc) (fun k => by simp only [impl_Sorted.l0]) ?_
    refine Ev.bind h1 ?_
    simp only [if_true, if_pos (show acc.length < 8796093022208 by omega)]
    simpa [srt] using ih
theorem implSorted_ev (l : List S25) (h : l.length < 1000000000) : Ev (fun k => impl_Sorted.f k l) (srt l.length l) := by
  unfold impl_Sorted.f
  exact implSorted_l0 l.length l [] rfl (by simp; omega)
theorem specSorted_l0 : ∀ (n : Nat) (l acc : List S25), l.length = n → acc.length + n < 4000000000 → Ev (fun k => spec_Sorted.l0 k acc l) (acc ++ srt n l)
  | 0, l, acc, hn, hb => by
    refine Ev.step (f := fun k => some acc) (fun k => ?_) (by simpa [srt] using Ev.now acc)
    simp only [spec_Sorted.l0]
    rw [if_neg (by omega)]
  | n + 1, l, acc, hn, hb => by
    have h1 := specTake_ev l (by omega)
    rw [hTake_pos l (by omega)] at h1
    have ih := specSorted_l0 n (hRest l) (acc ++ [l.getD 0 z25]) (by rw [hRest_length]; omega) (by simp; omega)
    refine Ev.step (f := fun k => (spec_HeapTake.f k l).bind fun b => if acc.length < 8796093022208 then spec_Sorted.l0 k (acc ++ [(⟨b.2.1, b.2.2.1⟩ : S25)]) b.1 else none) (fun k => ?_) ?_
    · simp only [spec_Sorted.l0]
      rw [if_pos (by omega)]
    refine Ev.bind h1 ?_
    simp only [if_pos (show acc.length < 8796093022208 by omega)]
    simpa [srt] using ih
theorem specSorted_ev (l : List S25) (h : l.length < 1000000000) : Ev (fun k => spec_Sorted.f k l) (srt l.length l) := by
  unfold spec_Sorted.f
  simp only [Option.bind_some, List.length_nil, Nat.zero_add, List.nil_append, if_pos (show l.length < 8796093022208 by omega)]
  exact specSorted_l0 l.length l [] rfl (by simp; omega)
/-- What is left behind a drop. -/
def hDrop (n : Int) : List S25 → List S25 → List S25
  | acc, [] => acc
  | acc, t :: l => if t.f1 = n then hDrop n acc l else hDrop n (hPut acc t) l
theorem hDrop_length (n : Int) : ∀ (l acc : List S25), (hDrop n acc l).length ≤ acc.length + l.length
  | [], acc => by simp [hDrop]
  | t :: l, acc => by
    unfold hDrop
    split
    · have := hDrop_length n l acc; simp; omega
    · have := hDrop_length n l (hPut acc t); rw [hPut_length] at this; simp; omega
theorem implDrop_l0 (n : Int) : ∀ (suf pre acc : List S25), (pre ++ suf).length < 1000000000 → acc.length ≤ pre.length → Ev (fun k => impl_HeapDrop.l0 k n acc (pre ++ suf) ((pre ++ suf).length : Int) (pre.length : Int)) (hDrop n acc suf)
  | [], pre, acc, h, h2 => by
    refine Ev.step (f := fun k => some acc) (fun k => ?_) (Ev.now _)
    simp only [impl_HeapDrop.l0]
    rw [if_neg (not_lt_end pre)]
  | y :: suf, pre, acc, h, h2 => by
    have hp : (pre ++ y :: suf).length = pre.length + suf.length + 1 := by simp; omega
    have e1 := lt_mid pre suf y
    unfold hDrop
    by_cases hn : y.f1 = n
    · rw [if_pos hn]
      have ih := implDrop_l0 n suf (pre ++ [y]) acc (by simpa using h) (by simp; omega)
      refine Ev.step (f := fun k => impl_HeapDrop.l0 k n acc ((pre ++ [y]) ++ suf) (((pre ++ [y]) ++ suf).length : Int) ((pre ++ [y]).length : Int)) (fun k => ?_) ih
      simp only [impl_HeapDrop.l0]
      rw [if_pos e1, if_pos (nn _), if_pos e1, rd_midTi, if_pos hn, wrap_up _ (by omega)]
      simp
    · rw [if_neg hn]
      have ih := implDrop_l0 n suf (pre ++ [y]) (hPut acc y) (by simpa using h) (by rw [hPut_length]; simp; omega)
      refine Ev.step (f := fun k => (impl_HeapPut.f k acc y.f0 y.f1).bind fun t => impl_HeapDrop.l0 k n t ((pre ++ [y]) ++ suf) (((pre ++ [y]) ++ suf).length : Int) ((pre ++ [y]).length : Int)) (fun k => ?_) (Ev.bind (implPut_ev acc y (by omega)) ih)
      simp only [impl_HeapDrop.l0]
      rw [if_pos e1, if_pos (nn _), if_pos e1, rd_midTi, if_neg hn, wrap_up _ (by omega)]
      simp
theorem implDrop_ev (l : List S25) (n : Int) (h : l.length < 1000000000) : Ev (fun k => impl_HeapDrop.f k l n) (hDrop n [] l) := by
  unfold impl_HeapDrop.f
  exact implDrop_l0 n l [] [] (by simpa using h) (by simp)
theorem specDrop_l0 (n : Int) : ∀ (suf pre acc : List S25), (pre ++ suf).length < 1000000000 → acc.length ≤ pre.length → Ev (fun k => spec_HeapDrop.l0 k (pre ++ suf) n acc (pre.length : Int)) (hDrop n acc suf)
  | [], pre, acc, h, h2 => by
    refine Ev.step (f := fun k => some acc) (fun k => ?_) (Ev.now _)
    simp only [spec_HeapDrop.l0]
    rw [if_neg (not_lt_end pre)]
  | y :: suf, pre, acc, h, h2 => by
    have hp : (pre ++ y :: suf).length = pre.length + suf.length + 1 := by simp; omega
    have e1 := lt_mid pre suf y
    unfold hDrop
    by_cases hn : y.f1 = n
    · rw [if_pos hn]
      have ih := specDrop_l0 n suf (pre ++ [y]) acc (by simpa using h) (by simp; omega)
      refine Ev.step (f := fun k => spec_HeapDrop.l0 k ((pre ++ [y]) ++ suf) n acc ((pre ++ [y]).length : Int)) (fun k => ?_) ih
      simp only [spec_HeapDrop.l0]
      rw [if_pos e1, if_pos (nn _), rd_midTi, if_pos hn, wrap_up _ (by omega)]
      simp
    · rw [if_neg hn]
      have ih := specDrop_l0 n suf (pre ++ [y]) (hPut acc y) (by simpa using h) (by rw [hPut_length]; simp; omega)
      refine Ev.step (f := fun k => (spec_HeapPut.f k acc y.f0 y.f1).bind fun t => spec_HeapDrop.l0 k ((pre ++ [y]) ++ suf) n t ((pre ++ [y]).length : Int)) (fun k => ?_) (Ev.bind (specPut_ev acc y (by omega)) ih)
      simp only [spec_HeapDrop.l0]
      rw [if_pos e1, if_pos (nn _), rd_midTi, if_neg hn, wrap_up _ (by omega)]
      simp
theorem specDrop_ev (l : List S25) (n : Int) (h : l.length < 1000000000) : Ev (fun k => spec_HeapDrop.f k l n) (hDrop n [] l) := by
  unfold spec_HeapDrop.f
  exact specDrop_l0 n l [] [] (by simpa using h) (by simp)
end Go.Proofs.Ytkjakmbmnbjpbaa.Print
end
section
/- The law FnHeapsBent answers true for all arguments that can be read: the pure statement, without Go and memory. No condition. -/
namespace Go.Proofs.Ytkjakmbmnbjpbaa.Print
open Go.RowKit Go.Proofs.YtkjakmbmnbjpbaaV.PrintWords Go.Proofs.YtkjakmbmnbjpbaaV.PrintLast Go.Proofs.YtkjakmbmnbjpbaaV.PrintMore
set_option linter.unusedVariables false
set_option linter.unusedSimpArgs false
theorem bf_not (a b : S25) (h : bf a b = true) : bf b a = false := by
  unfold bf at h ⊢
  by_cases c : a.f0 < b.f0
  · rw [if_neg (by omega), if_neg (by omega)]
  · rw [if_neg c] at h
    by_cases c2 : a.f0 = b.f0
    · rw [if_pos c2] at h
      have h3 := of_decide_eq_true h
      rw [if_neg (by omega), if_pos c2.symm, decide_eq_false (by omega)]
    · rw [if_neg c2] at h; cases h
theorem sameHeap_l0 (a : List S25) (h : a.length < 4611686018427387904) : ∀ (d i : Nat), d + i = a.length → Ev (fun k => laws_sameHeap.l0 k a a (i : Int)) true
  | 0, i, h2 => ⟨1, fun k hk => by
    obtain ⟨k, rfl⟩ : ∃ j, k = j + 1 := ⟨k - 1, by omega⟩
    simp only [laws_sameHeap.l0]; rw [if_neg (by omega)]⟩
  | d + 1, i, h2 => by
    obtain ⟨K, g⟩ := sameHeap_l0 a h d (i + 1) (by omega)
    refine ⟨K + 1, fun k hk => ?_⟩
    obtain ⟨k, rfl⟩ : ∃ j, k = j + 1 := ⟨k - 1, by omega⟩
    have e := g k (by omega)
    simp only at e
    simp only [laws_sameHeap.l0]
    rw [if_pos (by omega), if_pos (by omega), if_pos (by omega), wrap_up i (by omega), e]
    simp
theorem sameHeap_refl (a : List S25) (h : a.length < 4000000000) : Ev (fun k => laws_sameHeap.f k a a) true := by
  obtain ⟨K, g⟩ := sameHeap_l0 a (by omega) a.length 0 (by omega)
  refine ⟨K, fun k hk => ?_⟩
  have e := g k hk
  simp only at e
  simp only [laws_sameHeap.f, if_true]
  exact e
section
variable (l0 : List Int) (h : l0.length ≤ 1048576)
include h
theorem drawAnyHeap_ev : ∃ (l : List S25) (p s : Int) (s0 : Int), Ev (fun k => spec_l1New.f k l0) (l0, 0, s0) ∧ Ev (fun k => spec_l10Any.f k l0 0 s0) (l, p, s) ∧ 0 ≤ p ∧ l.length ≤ 17 := by
  obtain ⟨s0, g0⟩ := dNew l0 h
  obtain ⟨l, p1, s1, g1, q1, w1⟩ := dAnyHeap l0 h 0 s0 (by decide)
  exact ⟨l, p1, s1, s0, g0, g1, q1, w1⟩
theorem drawPut_ev : ∃ (l : List S25) (t : S25), Ev (fun k => spec_DrawHeapPut.f k l0) (l, t.f0, t.f1) ∧ l.length ≤ 17 := by
  obtain ⟨l, p, s, s0, ⟨K0, g0⟩, ⟨K1, g1⟩, q, w⟩ := drawAnyHeap_ev l0 h
  obtain ⟨t, p2, s2, e2, q2⟩ := dTimer l0 h p s q
  refine ⟨l, t, ⟨K0 + K1, fun k hk => ?_⟩, w⟩
  have e0 := g0 k (by omega)
  have e1 := g1 k (by omega)
  simp only at e0 e1
  simp only [spec_DrawHeapPut.f, e0, Option.bind_some, e1, e2]
theorem drawTake_ev : ∃ (l : List S25), Ev (fun k => spec_DrawHeapTake.f k l0) l ∧ Ev (fun k => spec_DrawHeapOk.f k l0) l ∧ Ev (fun k => spec_DrawSorted.f k l0) l ∧ l.length ≤ 17 := by
  obtain ⟨l, p, s, s0, ⟨K0, g0⟩, ⟨K1, g1⟩, q, w⟩ := drawAnyHeap_ev l0 h
  refine ⟨l, ⟨K0 + K1, fun k hk => ?_⟩, ⟨K0 + K1, fun k hk => ?_⟩, ⟨K0 + K1, fun k hk => ?_⟩, w⟩ <;>
  · have e0 := g0 k (by omega)
    have e1 := g1 k (by omega)
    simp only at e0 e1
    simp only [spec_DrawHeapTake.f, spec_DrawHeapOk.f, spec_DrawSorted.f, e0, Option.bind_some, e1]
theorem drawDrop_ev : ∃ (l : List S25) (n : Int), Ev (fun k => spec_DrawHeapDrop.f k l0) (l, n) ∧ l.length ≤ 17 := by
  obtain ⟨l, p, s, s0, ⟨K0, g0⟩, ⟨K1, g1⟩, q, w⟩ := drawAnyHeap_ev l0 h
  obtain ⟨n, p2, s2, e2, q2, _, _⟩ := dBelow l0 h p s 9 q (by decide) (by decide)
  refine ⟨l, n, ⟨K0 + K1, fun k hk => ?_⟩, w⟩
  have e0 := g0 k (by omega)
  have e1 := g1 k (by omega)
  simp only at e0 e1
  simp only [spec_DrawHeapDrop.f, e0, Option.bind_some, e1, e2]
theorem drawBefore_ev : ∃ (u v : S25), Ev (fun k => spec_DrawBefore.f k l0) (u.f0, u.f1, v.f0, v.f1) := by
  obtain ⟨s0, K0, g0⟩ := dNew l0 h
  obtain ⟨t, p1, s1, e1, q1⟩ := dTimer l0 h 0 s0 (by decide)
  obtain ⟨u, p2, s2, e2, q2⟩ := dTimer l0 h p1 s1 q1
  obtain ⟨b, p3, s3, e3, q3⟩ := dOnce l0 h p2 s2 2 q2 (by decide) (by decide)
  cases b with
  | true =>
    refine ⟨t, ⟨t.f0, u.f1⟩, K0, fun k hk => ?_⟩
    have e0 := g0 k hk
    simp only at e0
    simp only [spec_DrawBefore.f, e0, Option.bind_some, e1, e2, e3, if_true]
  | false =>
    refine ⟨t, u, K0, fun k hk => ?_⟩
    have e0 := g0 k hk
    simp only at e0
    simp only [spec_DrawBefore.f, e0, Option.bind_some, e1, e2, e3, Bool.false_eq_true, if_false]
end
theorem pure_FnHeapsBent : laws_FnHeapsBent.Pure := by
  intro l0 h0 h1 h2
  by_cases c : (l0.length : Int) > 1048576
  · exact ⟨0, by simp [laws_FnHeapsBent.f, laws_big.f, c]⟩
  have hb : l0.length ≤ 1048576 := by omega
  obtain ⟨l, t, ⟨K1, g1⟩, w1⟩ := drawPut_ev l0 hb
  obtain ⟨m, ⟨K2, g2⟩, ⟨K3, g3⟩, ⟨K4, g4⟩, w2⟩ := drawTake_ev l0 hb
  obtain ⟨d, n, ⟨K5, g5⟩, w5⟩ := drawDrop_ev l0 hb
  obtain ⟨u, v, ⟨K6, g6⟩⟩ := drawBefore_ev l0 hb
  obtain ⟨K7, g7⟩ := implTake_ev m (by omega)
  obtain ⟨K8, g8⟩ := specTake_ev m (by omega)
  obtain ⟨K9, g9⟩ := implPut_ev l t (by omega)
  obtain ⟨K10, g10⟩ := specPut_ev l t (by omega)
  obtain ⟨K11, g11⟩ := implDrop_ev d n (by omega)
  obtain ⟨K12, g12⟩ := specDrop_ev d n (by omega)
  obtain ⟨K13, g13⟩ := implHeapOk_ev m (by omega)
  obtain ⟨K14, g14⟩ := specHeapOk_ev m (by omega)
  obtain ⟨K15, g15⟩ := implSorted_ev m (by omega)
  obtain ⟨K16, g16⟩ := specSorted_ev m (by omega)
  have hp := hPut_length l t
  have hd := hDrop_length n d []
  have ht := hTake_len m
  have hs := srt_length m.length m
  obtain ⟨K17, g17⟩ := sameHeap_refl (hPut l t) (by omega)
  obtain ⟨K18, g18⟩ := sameHeap_refl (hTake m).1 (by omega)
  obtain ⟨K19, g19⟩ := sameHeap_refl (hDrop n [] d) (by simp only [List.length_nil] at hd; omega)
  obtain ⟨K20, g20⟩ := sameHeap_refl (srt m.length m) (by omega)
  have hw : wrap64 ((l.length : Int) + 1) = ((l.length + 1 : Nat) : Int) := wrap_up l.length (by omega)
  have N : ∃ k, k = K1 + K2 + K3 + K4 + K5 + K6 + K7 + K8 + K9 + K10 + K11 + K12 + K13 + K14 + K15 + K16 + K17 + K18 + K19 + K20 := ⟨_, rfl⟩
  obtain ⟨k, hk⟩ := N
  have e1 := g1 k (by omega)
  have e2 := g2 k (by omega)
  have e3 := g3 k (by omega)
  have e4 := g4 k (by omega)
  have e5 := g5 k (by omega)
  have e6 := g6 k (by omega)
  have e7 := g7 k (by omega)
  have e8 := g8 k (by omega)
  have e9 := g9 k (by omega)
  have e10 := g10 k (by omega)
  have e11 := g11 k (by omega)
  have e12 := g12 k (by omega)
  have e13 := g13 k (by omega)
  have e14 := g14 k (by omega)
  have e15 := g15 k (by omega)
  have e16 := g16 k (by omega)
  have e17 := g17 k (by omega)
  have e18 := g18 k (by omega)
  have e19 := g19 k (by omega)
  have e20 := g20 k (by omega)
  simp only at e1 e2 e3 e4 e5 e6 e7 e8 e9 e10 e11 e12 e13 e14 e15 e16 e17 e18 e19 e20
  refine ⟨k, ?_⟩
  simp only [laws_FnHeapsBent.f, laws_big.f, Option.bind_some, decide_eq_false c, Bool.false_eq_true, if_false, e1, e2, e3, e4, e5, e6, e7, e8, e9, e10, e11, e12, e13, e14, e15, e16, e17, e18, e19, e20, if_true, implBefore, specBefore, beq_self_eq_true, Bool.and_self, hp, hw]
  by_cases hbf : bf u v = true
  · simp only [hbf, if_true, bf_not u v hbf, Bool.false_eq_true, if_false]
  · simp only [hbf, Bool.false_eq_true, if_false]
end Go.Proofs.Ytkjakmbmnbjpbaa.Print
namespace Go.Proofs.Ytkjakmbmnbjpbaa.Pure
theorem FnHeapsBent : Go.Proofs.Ytkjakmbmnbjpbaa.Print.laws_FnHeapsBent.Pure := Go.Proofs.Ytkjakmbmnbjpbaa.Print.pure_FnHeapsBent
end Go.Proofs.Ytkjakmbmnbjpbaa.Pure
namespace Go.Proofs.Ytkjakmbmnbjpbaa.Print

end Go.Proofs.Ytkjakmbmnbjpbaa.Print
end
