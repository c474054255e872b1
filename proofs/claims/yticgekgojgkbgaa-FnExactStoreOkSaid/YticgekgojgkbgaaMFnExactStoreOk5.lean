import Derived.Test.YticgekgojgkbgaaMFnExactStoreOk1
import Derived.Test.YticgekgojgkbgaaMFnExactStoreOk2
import Derived.Test.YticgekgojgkbgaaMFnExactStoreOk3
import Derived.Test.YticgekgojgkbgaaMFnExactStoreOk4
section
namespace Go.Proofs.Yticgekgojgkbgaa.Print
open Go.RowKit Go.Proofs.YticgekgojgkbgaaV.PrintWords Go.Proofs.YticgekgojgkbgaaV.PrintLast Go.Proofs.YticgekgojgkbgaaV.PrintMore
set_option linter.unusedVariables false
set_option linter.unusedSimpArgs false
theorem rdnChain' (l : List S100) (i : Nat) : rd_T100 l (i : Int) = l.getD i z100 := by unfold rd_T100; simp
theorem rdnPart' (l : List S57) (i : Nat) : rd_T57 l (i : Int) = l.getD i z57 := by unfold rd_T57; simp
/-- Each of the places from i on. -/
def bstep (p : Nat → Bool) (i : Nat) : Option Bool := if p i = true then none else some false
def bscan (p : Nat → Bool) (d i : Nat) : Bool := scan (bstep p) true d i
theorem bstep_false (p : Nat → Bool) (i : Nat) (r : Bool) (h : bstep p i = some r) : r = false := by
  unfold bstep at h
  split at h
  · cases h
  · injection h with h; exact h.symm
theorem bscan_succ (p : Nat → Bool) (d i : Nat) : bscan p (d + 1) i = (p i && bscan p d (i + 1)) := by
  unfold bscan
  rw [scan]
  cases hp : p i <;> simp [bstep, hp]
def earlyA (l : List S43) (i : Nat) : Bool := (l.take i).any (fun a => sameSet a.f0 (l.getD i z43).f0)
def cBit (f : Int) (l : List S43) (i : Nat) : Bool := alarmOk (l.getD i z43) && decide (fingerOf (l.getD i z43).f0 = f)
def chainOk (f : Int) (l : List S43) : Bool := (decide ((l.length : Int) > 0) && bscan (fun i => !earlyA l i) l.length 0) && bscan (cBit f l) l.length 0
theorem implLabelsApart_ev (l : List S43) (h : l.length ≤ 4000000 ∧ ∀ y ∈ l, WiAlarm y) : Ev (fun k => impl_labelsApart.f k l) (bscan (fun i => !earlyA l i) l.length 0) := by
  have h1 := h.1
  unfold impl_labelsApart.f bscan
  refine scan_ev (F := fun k i => impl_labelsApart.l0 k l l (l.length : Int) i) (n := l.length) (fun k => ?_) (fun i hi => ?_) l.length 0 (by omega)
  · simp only [impl_labelsApart.l0]; rw [if_neg (by omega)]
  · obtain ⟨K, g⟩ := implLabelsAt_ev (l.take i) (l.getD i z43).f0 ⟨by rw [List.length_take]; omega, fun y hy => h.2 y (List.mem_of_mem_take hy)⟩
    refine ⟨K, fun k hk => ?_⟩
    have e := g k hk
    simp only at e
    simp only [impl_labelsApart.l0]
    rw [if_pos (by omega), if_pos (by omega), if_pos (by omega), if_pos (by omega), rdnAlarm, Int.toNat_natCast, e, Option.bind_some, wrap_up i (by omega)]
    have hp : labelsAt (l.take i) (l.getD i z43).f0 ≥ 0 ↔ earlyA l i = true := by
      unfold earlyA labelsAt
      exact place_ge _ _ 0
    rcases Bool.eq_false_or_eq_true (earlyA l i) with he | he
    · rw [if_pos (hp.2 he), show bstep (fun i => !earlyA l i) i = some false from by simp [bstep, he]]; rfl
    · rw [if_neg (fun q => by rw [hp.1 q] at he; cases he), show bstep (fun i => !earlyA l i) i = none from by simp [bstep, he]]; rfl
theorem implChainOk_ev (f : Int) (l : List S43) (h : l.length ≤ 4000000 ∧ ∀ y ∈ l, WiAlarm y) : Ev (fun k => impl_ChainOk.f k f l) (chainOk f l) := by
  have h1 := h.1
  unfold impl_ChainOk.f chainOk
  obtain ⟨K0, g0⟩ := implLabelsApart_ev l h
  rw [show bscan (cBit f l) l.length 0 = scan (bstep (cBit f l)) true l.length 0 from rfl, ← scan_end (bstep_false (cBit f l))]
  refine scan_ev2 (F := fun k i => impl_ChainOk.l0 k l (l.length : Int) i f l) (n := l.length) ⟨K0, fun k hk => ?_⟩ (fun i hi => ?_) l.length 0 (by omega)
  · have e := g0 k hk
    simp only at e
    simp only [impl_ChainOk.l0, e, Option.bind_some]
    rw [if_neg (by omega)]
    by_cases hc : (l.length : Int) > 0
    · rw [if_pos hc, decide_eq_true hc]; simp
    · rw [if_neg hc, decide_eq_false hc]; simp
  · have hy := h.2 _ (getD_mem l i z43 hi)
    obtain ⟨K1, g1⟩ := implAlarmOk_ev (l.getD i z43) hy
    obtain ⟨K2, g2⟩ := implFinger_ev (l.getD i z43).f0 hy.1
    refine ⟨K1 + K2, fun k hk => ?_⟩
    have e1 := g1 k (by omega)
    have e2 := g2 k (by omega)
    simp only at e1 e2
    simp only [impl_ChainOk.l0]
    rw [if_pos (by omega), if_pos (by omega), if_pos (by omega), rdnAlarm, e1, Option.bind_some, e2, Option.bind_some, wrap_up i (by omega)]
    unfold bstep cBit
    cases alarmOk (l.getD i z43) with
    | false => simp [goOn]
    | true =>
      by_cases hc : fingerOf (l.getD i z43).f0 = f
      · rw [if_pos rfl, if_pos hc, decide_eq_true hc]; simp [goOn]
      · rw [if_pos rfl, if_neg hc, decide_eq_false hc]; simp [goOn]
theorem specChain_l1 (f : Int) (l : List S43) (h : l.length ≤ 4000000 ∧ ∀ y ∈ l, WiAlarm y) (i : Nat) (hi : i < l.length) (r : Bool) (hn : earlyA l i = false → Ev (fun k => spec_ChainOk.l0 k ((i + 1 : Nat) : Int) f l) r) (hy : earlyA l i = true → r = false) :
    ∀ d j, d + j = i → (l.take j).any (fun a => sameSet a.f0 (l.getD i z43).f0) = false → Ev (fun k => spec_ChainOk.l1 k (i : Int) (j : Int) f l) r
  | 0, j, e, hp => by
    have h1 := h.1
    obtain rfl : j = i := by omega
    refine Ev.step (fun k => ?_) (hn hp)
    simp only [spec_ChainOk.l1]
    rw [if_neg (by omega), wrap_up j (by omega)]
  | d + 1, j, e, hp => by
    have h1 := h.1
    have hw := (h.2 _ (getD_mem l j z43 (by omega))).1.1
    have g := specSameSet_ev (l.getD j z43).f0 (l.getD i z43).f0 (by omega)
    have ht : (l.take (j + 1)).any (fun a => sameSet a.f0 (l.getD i z43).f0) = sameSet (l.getD j z43).f0 (l.getD i z43).f0 := by
      rw [List.take_succ_eq_append_getElem (by omega), List.any_append, hp, getD_eq l j z43 (by omega)]; simp
    refine Ev.step (f := fun k => (spec_SameSet.f k (l.getD j z43).f0 (l.getD i z43).f0).bind fun t => if t = true then some false else spec_ChainOk.l1 k (i : Int) ((j + 1 : Nat) : Int) f l) (fun k => ?_) (Ev.bind g ?_)
    · simp only [spec_ChainOk.l1]
      rw [if_pos (by omega), if_pos (by omega), if_pos (by omega), if_pos (by omega), if_pos (by omega), rdnAlarm, rdnAlarm, wrap_up j (by omega)]
    · cases hc : sameSet (l.getD j z43).f0 (l.getD i z43).f0 with
      | true =>
        simp only [if_true]
        rw [hy (by
          unfold earlyA
          rw [List.any_eq_true]
          exact ⟨l.getD j z43, by rw [getD_eq l j z43 (by omega)]; exact List.mem_take_iff_getElem.2 ⟨j, by omega, rfl⟩, hc⟩)]
        exact Ev.now _
      | false =>
        simp only [Bool.false_eq_true, if_false]
        exact specChain_l1 f l h i hi r hn hy d (j + 1) (by omega) (by rw [ht, hc])
theorem specChain_l0 (f : Int) (l : List S43) (h : l.length ≤ 4000000 ∧ ∀ y ∈ l, WiAlarm y) : ∀ d i, d + i = l.length →
    Ev (fun k => spec_ChainOk.l0 k (i : Int) f l) (decide ((l.length : Int) > 0) && (bscan (fun i => !earlyA l i) d i && bscan (cBit f l) d i))
  | 0, i, e => by
    refine Ev.step (f := fun _ => some (decide ((l.length : Int) > 0))) (fun k => ?_) (by simpa [bscan, scan] using Ev.now (decide ((l.length : Int) > 0)))
    simp only [spec_ChainOk.l0]
    rw [if_neg (by omega)]
  | d + 1, i, e => by
    have h1 := h.1
    have hi : i < l.length := by omega
    have ih := specChain_l0 f l h d (i + 1) (by omega)
    have hyw := h.2 _ (getD_mem l i z43 hi)
    have g := specAlarmOk_ev (l.getD i z43) hyw
    have g2 := specFinger_ev (l.getD i z43).f0 hyw.1
    have hj : ∀ b : Bool, Ev (fun k => spec_ChainOk.j1 k (i : Int) b f l) (if b = true then false else (decide ((l.length : Int) > 0) && (bscan (fun i => !earlyA l i) (d + 1) i && bscan (cBit f l) d (i + 1)))) := by
      intro b
      cases b with
      | true =>
        refine Ev.step (f := fun _ => some false) (fun k => ?_) (Ev.now _)
        simp [spec_ChainOk.j1]
      | false =>
        refine Ev.step (f := fun k => spec_ChainOk.l1 k (i : Int) ((0 : Nat) : Int) f l) (fun k => ?_) ?_
        · simp [spec_ChainOk.j1]
        · simp only [Bool.false_eq_true, if_false]
          refine specChain_l1 f l h i hi _ (fun he => ?_) (fun he => ?_) i 0 (by omega) (by simp)
          · rw [bscan_succ, he]; simpa using ih
          · rw [bscan_succ, he]; simp
    refine Ev.step (f := fun k => (spec_AlarmOk.f k (l.getD i z43).f0 (l.getD i z43).f1 (l.getD i z43).f2 (l.getD i z43).f3).bind fun t => if t = true then ((spec_Finger.f k (l.getD i z43).f0).bind fun u => spec_ChainOk.j1 k (i : Int) (u != f) f l) else spec_ChainOk.j1 k (i : Int) true f l) (fun k => ?_) (Ev.bind g ?_)
    · simp only [spec_ChainOk.l0]
      rw [if_pos (by omega), if_pos (by omega), rdnAlarm]
    · rw [bscan_succ (cBit f l), show cBit f l i = (alarmOk (l.getD i z43) && decide (fingerOf (l.getD i z43).f0 = f)) from rfl]
      cases alarmOk (l.getD i z43) with
      | false =>
        simp only [Bool.false_eq_true, if_false]
        have := hj true
        simpa using this
      | true =>
        simp only [if_true]
        refine Ev.bind g2 ?_
        by_cases hc : fingerOf (l.getD i z43).f0 = f
        · have := hj false
          rw [decide_eq_true hc, hc]
          simpa using this
        · have := hj true
          rw [decide_eq_false hc, show (fingerOf (l.getD i z43).f0 != f) = true by simpa using hc]
          simpa using this
theorem specChainOk_ev (f : Int) (l : List S43) (h : l.length ≤ 4000000 ∧ ∀ y ∈ l, WiAlarm y) : Ev (fun k => spec_ChainOk.f k f l) (chainOk f l) := by
  have := specChain_l0 f l h l.length 0 (by omega)
  unfold spec_ChainOk.f chainOk
  rw [Bool.and_assoc]
  exact this
/-- A part. -/
def pBit (l : List S100) (i n : Int) (k : Nat) : Bool := chainOk (l.getD k z100).f0 (l.getD k z100).f1 && (decide (partOf (l.getD k z100).f0 n = i) && (decide (k = 0) || decide ((l.getD (k - 1) z100).f0 < (l.getD k z100).f0)))
def partIs (p : S57) (i n : Int) : Bool := ((decide (-1 ≤ p.f0) && decide (p.f0 ≤ 4)) && decide (p.f1 ≥ 0)) && bscan (pBit p.f2 i n) p.f2.length 0
theorem implPartOk_ev (p : S57) (i n : Int) (h : WiPart p) : Ev (fun k => impl_PartOk.f k p.f0 p.f1 p.f2 i n) (partIs p i n) := by
  have h1 := h.2.2.1
  have h2 := h.2.2.2
  unfold impl_PartOk.f partIs
  rw [show bscan (pBit p.f2 i n) p.f2.length 0 = scan (bstep (pBit p.f2 i n)) true p.f2.length 0 from rfl, ← scan_end (bstep_false (pBit p.f2 i n))]
  refine scan_ev2 (F := fun k j => impl_PartOk.l0 k i n p.f2 (p.f2.length : Int) j p.f0 p.f1 p.f2) (n := p.f2.length) ⟨0, fun k hk => ?_⟩ (fun j hj => ?_) p.f2.length 0 (by omega)
  · simp only [impl_PartOk.l0, inEq, Option.bind_some]
    rw [if_neg (by omega)]
    cases (decide (-1 ≤ p.f0) && decide (p.f0 ≤ 4)) <;> simp
  · have hy := h2 _ (getD_mem p.f2 j z100 hj)
    obtain ⟨K1, g1⟩ := implChainOk_ev (p.f2.getD j z100).f0 (p.f2.getD j z100).f1 hy.2
    refine ⟨K1, fun k hk => ?_⟩
    have e1 := g1 k (by omega)
    simp only at e1
    simp only [impl_PartOk.l0]
    rw [if_pos (by omega), if_pos (by omega), if_pos (by omega), rdnChain', e1, Option.bind_some, implPartOf_is, Option.bind_some, wrap_up j (by omega)]
    unfold bstep pBit
    cases chainOk (p.f2.getD j z100).f0 (p.f2.getD j z100).f1 with
    | false => simp [goOn]
    | true =>
      by_cases hc : partOf (p.f2.getD j z100).f0 n = i
      · rw [if_pos rfl, if_pos hc, decide_eq_true hc]
        by_cases h0 : j = 0
        · subst h0; simp [goOn]
        · rw [if_pos (by omega), sub1 j (by omega) (by omega), if_pos (by omega), if_pos (by omega), rdnChain', decide_eq_false h0]
          by_cases hd : (p.f2.getD (j - 1) z100).f0 ≥ (p.f2.getD j z100).f0
          · rw [if_pos hd, decide_eq_false (show ¬ (p.f2.getD (j - 1) z100).f0 < (p.f2.getD j z100).f0 by omega)]; simp [goOn]
          · rw [if_neg hd, decide_eq_true (show (p.f2.getD (j - 1) z100).f0 < (p.f2.getD j z100).f0 by omega)]; simp [goOn]
      · rw [if_pos rfl, if_neg hc, decide_eq_false hc]; simp [goOn]
theorem specPartOk_ev (p : S57) (i n : Int) (h : WiPart p) : Ev (fun k => spec_PartOk.f k p.f0 p.f1 p.f2 i n) (partIs p i n) := by
  have h1 := h.2.2.1
  have h2 := h.2.2.2
  unfold spec_PartOk.f partIs
  rw [show bscan (pBit p.f2 i n) p.f2.length 0 = scan (bstep (pBit p.f2 i n)) true p.f2.length 0 from rfl, ← scan_end (bstep_false (pBit p.f2 i n))]
  refine scan_ev2 (F := fun k j => spec_PartOk.l0 k i n j p.f0 p.f1 p.f2) (n := p.f2.length) ⟨0, fun k hk => ?_⟩ (fun j hj => ?_) p.f2.length 0 (by omega)
  · simp only [spec_PartOk.l0, l1InEq, Option.bind_some]
    rw [if_neg (by omega)]
    cases (decide (-1 ≤ p.f0) && decide (p.f0 ≤ 4)) <;> simp
  · have hy := h2 _ (getD_mem p.f2 j z100 hj)
    obtain ⟨K1, g1⟩ := specChainOk_ev (p.f2.getD j z100).f0 (p.f2.getD j z100).f1 hy.2
    refine ⟨K1, fun k hk => ?_⟩
    have e1 := g1 k (by omega)
    simp only at e1
    simp only [spec_PartOk.l0]
    rw [if_pos (by omega), if_pos (by omega), rdnChain', e1, Option.bind_some, wrap_up j (by omega)]
    simp only [specPartOf_is, Option.bind_some]
    unfold bstep pBit
    cases chainOk (p.f2.getD j z100).f0 (p.f2.getD j z100).f1 with
    | false => simp [goOn]
    | true =>
      by_cases h0 : j = 0
      · subst h0
        generalize partOf (p.f2.getD 0 z100).f0 n = q
        by_cases hc : q = i <;> simp [goOn, hc]
      · rw [if_pos rfl, if_pos (by omega), sub1 j (by omega) (by omega), if_pos (by omega), if_pos (by omega), rdnChain', decide_eq_false h0]
        by_cases hd : (p.f2.getD (j - 1) z100).f0 ≥ (p.f2.getD j z100).f0
        · rw [if_pos hd, decide_eq_false (show ¬ (p.f2.getD (j - 1) z100).f0 < (p.f2.getD j z100).f0 by omega)]; simp [goOn]
        · rw [if_neg hd, decide_eq_true (show (p.f2.getD (j - 1) z100).f0 < (p.f2.getD j z100).f0 by omega)]
          generalize partOf (p.f2.getD j z100).f0 n = q
          by_cases hc : q = i <;> simp [goOn, hc]
/-- A store. -/
def sBit (l : List S57) (i : Nat) : Bool := partIs (l.getD i z57) (i : Int) (l.length : Int)
def storeIs (l : List S57) : Bool := (decide (1 ≤ (l.length : Int)) && decide ((l.length : Int) ≤ 3)) && bscan (sBit l) l.length 0
theorem implStoreOk_ev (l : List S57) (h : l.length ≤ 4000000 ∧ ∀ y ∈ l, WiPart y) : Ev (fun k => impl_StoreOk.f k l) (storeIs l) := by
  have h1 := h.1
  unfold impl_StoreOk.f storeIs
  simp only [inEq, Option.bind_some]
  cases (decide (1 ≤ (l.length : Int)) && decide ((l.length : Int) ≤ 3)) with
  | false => simp only [Bool.false_eq_true, if_false, Bool.false_and]; exact Ev.now _
  | true =>
    simp only [if_true, Bool.true_and]
    unfold bscan
    refine scan_ev (F := fun k i => impl_StoreOk.l0 k l l (l.length : Int) i) (n := l.length) (fun k => ?_) (fun i hi => ?_) l.length 0 (by omega)
    · simp only [impl_StoreOk.l0]; rw [if_neg (by omega)]
    · obtain ⟨K, g⟩ := implPartOk_ev (l.getD i z57) (i : Int) (l.length : Int) (h.2 _ (getD_mem l i z57 hi))
      refine ⟨K, fun k hk => ?_⟩
      have e := g k hk
      simp only at e
      simp only [impl_StoreOk.l0]
      rw [if_pos (by omega), if_pos (by omega), if_pos (by omega), rdnPart', e, Option.bind_some, wrap_up i (by omega)]
      unfold bstep sBit
      cases partIs (l.getD i z57) (i : Int) (l.length : Int) <;> simp [goOn]
theorem specStoreOk_ev (l : List S57) (h : l.length ≤ 4000000 ∧ ∀ y ∈ l, WiPart y) : Ev (fun k => spec_StoreOk.f k l) (storeIs l) := by
  have h1 := h.1
  unfold spec_StoreOk.f storeIs
  rw [show bscan (sBit l) l.length 0 = scan (bstep (sBit l)) true l.length 0 from rfl, ← scan_end (bstep_false (sBit l))]
  refine scan_ev (F := fun k i => spec_StoreOk.l0 k l i) (n := l.length) (fun k => ?_) (fun i hi => ?_) l.length 0 (by omega)
  · simp only [spec_StoreOk.l0, l1InEq, Option.bind_some]; rw [if_neg (by omega)]
  · obtain ⟨K, g⟩ := specPartOk_ev (l.getD i z57) (i : Int) (l.length : Int) (h.2 _ (getD_mem l i z57 hi))
    refine ⟨K, fun k hk => ?_⟩
    have e := g k hk
    simp only at e
    simp only [spec_StoreOk.l0]
    rw [if_pos (by omega), if_pos (by omega), rdnPart', e, Option.bind_some, wrap_up i (by omega)]
    unfold bstep sBit
    cases partIs (l.getD i z57) (i : Int) (l.length : Int) <;> simp [goOn]

end Go.Proofs.Yticgekgojgkbgaa.Print
end
section
/- The law FnExactStoreOk answers true for all arguments that can be read: the pure statement, without Go and memory. No condition. -/
namespace Go.Proofs.Yticgekgojgkbgaa.Print
open Go.RowKit Go.Proofs.YticgekgojgkbgaaV.PrintWords Go.Proofs.YticgekgojgkbgaaV.PrintLast Go.Proofs.YticgekgojgkbgaaV.PrintMore
set_option linter.unusedVariables false
set_option linter.unusedSimpArgs false
theorem pure_FnExactStoreOk : laws_FnExactStoreOk.Pure := by
  intro p0 hp0
  obtain ⟨r0, ⟨K0, g0⟩, le0, w0⟩ := szPartS_ev p0 hp0 1048576 (by omega) (by omega)
  simp only at g0
  by_cases c0 : r0 < 0
  · exact ⟨K0, by simp [laws_FnExactStoreOk.f, g0 (K0) (by omega), c0]⟩
  obtain ⟨L0, f0⟩ := toPartS_ev p0 (w0 (by omega))
  obtain ⟨L1, f1⟩ := eqPartS_ev (p0.map cvPart) (Wi_mapPart (w0 (by omega)))
  obtain ⟨L2, f2⟩ := specStoreOk_ev (p0.map cvPart) (Wi_mapPart (w0 (by omega)))
  obtain ⟨L3, f3⟩ := implStoreOk_ev (p0.map cvPart) (Wi_mapPart (w0 (by omega)))
  have G0 := fun m => g0 (K0 + L0 + L1 + L2 + L3 + m) (by omega)
  have F0 := fun m => f0 (K0 + L0 + L1 + L2 + L3 + m) (by omega)
  have F1 := fun m => f1 (K0 + L0 + L1 + L2 + L3 + m) (by omega)
  have F2 := fun m => f2 (K0 + L0 + L1 + L2 + L3 + m) (by omega)
  have F3 := fun m => f3 (K0 + L0 + L1 + L2 + L3 + m) (by omega)
  simp only at F0 F1 F2 F3
  exact ⟨K0 + L0 + L1 + L2 + L3 + 3, by simp [laws_FnExactStoreOk.f, G0, F0, F1, F2, F3, c0]⟩

end Go.Proofs.Yticgekgojgkbgaa.Print
end
