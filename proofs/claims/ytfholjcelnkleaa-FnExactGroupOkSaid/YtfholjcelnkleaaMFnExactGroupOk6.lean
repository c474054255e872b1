import Derived.Test.YtfholjcelnkleaaMFnExactGroupOk1
import Derived.Test.YtfholjcelnkleaaMFnExactGroupOk3
import Derived.Test.YtfholjcelnkleaaMFnExactGroupOk5
import Derived.Test.YtfholjcelnkleaaMFnExactGroupOk2
import Derived.Test.YtfholjcelnkleaaMFnExactGroupOk4
section
namespace Go.Proofs.Ytfholjcelnkleaa.Print
open Go.RowKit Go.Proofs.YtfholjcelnkleaaV.PrintWords Go.Proofs.YtfholjcelnkleaaV.PrintLast Go.Proofs.YtfholjcelnkleaaV.PrintMore
set_option linter.unusedVariables false
set_option linter.unusedSimpArgs false
theorem rdnLabel (l : List S164) (i : Nat) : rd_T164 l (i : Int) = l.getD i z164 := by unfold rd_T164; simp
theorem rdnAlarm (l : List S44) (i : Nat) : rd_T44 l (i : Int) = l.getD i z44 := by unfold rd_T44; simp
/-- A label as two lists of bytes; an alarm as what it holds. -/
def lab (x : S164) : List UInt8 × List UInt8 := (x.f0.toList, x.f1.toList)
def alm (x : S44) : List (List UInt8 × List UInt8) × Int × Int × List UInt8 := (x.f0.map lab, x.f1, x.f2, x.f3.toList)
def sameSet (a b : List S164) : Bool := decide (a.map lab = b.map lab)
def sameAlarm (a b : S44) : Bool := decide (alm a = alm b)
def sameAlarms (a b : List S44) : Bool := decide (a.map alm = b.map alm)
theorem map_ne_of_length {α β : Type} {f : α → β} {a b : List α} (h : ¬ a.length = b.length) : ¬ (a.map f = b.map f) := fun e => h (by simpa using congrArg List.length e)
theorem labNe (x y : S164) : ((!(x.f0.toList == y.f0.toList) || (!(x.f1.toList == y.f1.toList))) = true) ↔ ¬ lab x = lab y := by
  unfold lab
  simp only [Prod.mk.injEq, Bool.or_eq_true, Bool.not_eq_true', beq_eq_false_iff_ne]
  constructor
  · rintro (h | h) ⟨h1, h2⟩
    · exact h h1
    · exact h h2
  · intro h
    by_cases h1 : x.f0.toList = y.f0.toList
    · exact .inr fun h2 => h ⟨h1, h2⟩
    · exact .inl h1
theorem implSameSet_ev (a b : List S164) (h : a.length < 4611686018427387904) : Ev (fun k => impl_SameSet.f k a b) (sameSet a b) := by
  unfold impl_SameSet.f sameSet
  by_cases hl : a.length = b.length
  · simp only [if_pos (show (a.length : Int) = (b.length : Int) by omega)]
    rw [← scan_same0 lab z164 a b hl]
    refine scan_ev (F := fun k i => impl_SameSet.l0 k a b (a.length : Int) i) (n := a.length) (fun k => ?_) (fun i hi => ⟨0, fun k _ => ?_⟩) a.length 0 (by omega)
    · simp only [impl_SameSet.l0]; rw [if_neg (by omega)]
    · simp only [impl_SameSet.l0]
      rw [if_pos (by omega), if_pos (by omega), if_pos (by omega), if_pos (by omega), rdnLabel, rdnLabel, wrap_up i (by omega)]
      by_cases hc : lab (a.getD i z164) = lab (b.getD i z164)
      · rw [if_neg (fun e => (labNe _ _).1 e hc), if_pos hc]; rfl
      · rw [if_pos ((labNe _ _).2 hc), if_neg hc]; rfl
  · simp only [if_neg (show ¬ (a.length : Int) = (b.length : Int) by omega), decide_eq_false (map_ne_of_length hl)]
    exact Ev.now _
theorem specSameSet_ev (a b : List S164) (h : a.length < 4611686018427387904) : Ev (fun k => spec_SameSet.f k a b) (sameSet a b) := by
  unfold spec_SameSet.f sameSet
  by_cases hl : a.length = b.length
  · simp only [if_pos (show (a.length : Int) = (b.length : Int) by omega)]
    rw [← scan_same0 lab z164 a b hl]
    refine scan_ev (F := fun k i => spec_SameSet.l0 k a b i) (n := a.length) (fun k => ?_) (fun i hi => ⟨0, fun k _ => ?_⟩) a.length 0 (by omega)
    · simp only [spec_SameSet.l0]; rw [if_neg (by omega)]
    · simp only [spec_SameSet.l0]
      rw [if_pos (by omega), if_pos (by omega), if_pos (by omega), rdnLabel, rdnLabel, wrap_up i (by omega)]
      by_cases hc : lab (a.getD i z164) = lab (b.getD i z164)
      · rw [if_neg (fun e => (labNe _ _).1 e hc), if_pos hc]; rfl
      · rw [if_pos ((labNe _ _).2 hc), if_neg hc]; rfl
  · simp only [if_neg (show ¬ (a.length : Int) = (b.length : Int) by omega), decide_eq_false (map_ne_of_length hl)]
    exact Ev.now _
theorem sameAlarm_eq (x y : S44) : sameAlarm x y = (sameSet x.f0 y.f0 && (decide (x.f1 = y.f1) && (decide (x.f2 = y.f2) && (x.f3.toList == y.f3.toList)))) := by
  unfold sameAlarm sameSet alm
  simp only [Prod.mk.injEq]
  rw [Bool.eq_iff_iff]
  simp
theorem implSameAlarm_ev (x y : S44) (h : x.f0.length < 4611686018427387904) : Ev (fun k => impl_SameAlarm.f k x.f0 x.f1 x.f2 x.f3 y.f0 y.f1 y.f2 y.f3) (sameAlarm x y) := by
  obtain ⟨K, hK⟩ := implSameSet_ev x.f0 y.f0 h
  refine ⟨K, fun k hk => ?_⟩
  have h2 := hK k hk
  simp only at h2
  rw [sameAlarm_eq]
  simp only [impl_SameAlarm.f, h2, Option.bind_some]
  cases sameSet x.f0 y.f0 <;> by_cases h3 : x.f1 = y.f1 <;> by_cases h4 : x.f2 = y.f2 <;> simp [h3, h4]
theorem specSameAlarm_ev (x y : S44) (h : x.f0.length < 4611686018427387904) : Ev (fun k => spec_SameAlarm.f k x.f0 x.f1 x.f2 x.f3 y.f0 y.f1 y.f2 y.f3) (sameAlarm x y) := by
  obtain ⟨K, hK⟩ := specSameSet_ev x.f0 y.f0 h
  refine ⟨K, fun k hk => ?_⟩
  have h2 := hK k hk
  simp only at h2
  rw [sameAlarm_eq]
  simp only [spec_SameAlarm.f, h2, Option.bind_some]
  cases sameSet x.f0 y.f0 <;> by_cases h3 : x.f1 = y.f1 <;> by_cases h4 : x.f2 = y.f2 <;> simp [h3, h4]
theorem implSameAlarms_ev (a b : List S44) (h : a.length ≤ 4000000 ∧ ∀ y ∈ a, WiAlarm y) : Ev (fun k => impl_sameAlarms.f k a b) (sameAlarms a b) := by
  have h1 := h.1
  unfold impl_sameAlarms.f sameAlarms
  by_cases hl : a.length = b.length
  · simp only [if_pos (show (a.length : Int) = (b.length : Int) by omega)]
    rw [← scan_same0 alm z44 a b hl]
    refine scan_ev (F := fun k i => impl_sameAlarms.l0 k a b (a.length : Int) i) (n := a.length) (fun k => ?_) (fun i hi => ?_) a.length 0 (by omega)
    · simp only [impl_sameAlarms.l0]; rw [if_neg (by omega)]
    · have hw := (h.2 _ (getD_mem a i z44 hi)).1.1
      obtain ⟨K, hK⟩ := implSameAlarm_ev (a.getD i z44) (b.getD i z44) (by omega)
      refine ⟨K, fun k hk => ?_⟩
      have h2 := hK k hk
      simp only at h2
      simp only [impl_sameAlarms.l0]
      rw [if_pos (by omega), if_pos (by omega), if_pos (by omega), if_pos (by omega), rdnAlarm, rdnAlarm, wrap_up i (by omega), h2, Option.bind_some]
      unfold sameAlarm
      by_cases hc : alm (a.getD i z44) = alm (b.getD i z44)
      · rw [decide_eq_true hc, if_pos hc]; rfl
      · rw [decide_eq_false hc, if_neg hc]; rfl
  · simp only [if_neg (show ¬ (a.length : Int) = (b.length : Int) by omega), decide_eq_false (map_ne_of_length hl)]
    exact Ev.now _
theorem specSameAlarms_ev (a b : List S44) (h : a.length ≤ 4000000 ∧ ∀ y ∈ a, WiAlarm y) : Ev (fun k => spec_l4Same.f k a b) (sameAlarms a b) := by
  have h1 := h.1
  unfold spec_l4Same.f sameAlarms
  by_cases hl : a.length = b.length
  · simp only [if_pos (show (a.length : Int) = (b.length : Int) by omega)]
    rw [← scan_same0 alm z44 a b hl]
    refine scan_ev (F := fun k i => spec_l4Same.l0 k a b i) (n := a.length) (fun k => ?_) (fun i hi => ?_) a.length 0 (by omega)
    · simp only [spec_l4Same.l0]; rw [if_neg (by omega)]
    · have hw := (h.2 _ (getD_mem a i z44 hi)).1.1
      obtain ⟨K, hK⟩ := specSameAlarm_ev (a.getD i z44) (b.getD i z44) (by omega)
      refine ⟨K, fun k hk => ?_⟩
      have h2 := hK k hk
      simp only at h2
      simp only [spec_l4Same.l0]
      rw [if_pos (by omega), if_pos (by omega), if_pos (by omega), rdnAlarm, rdnAlarm, wrap_up i (by omega), h2, Option.bind_some]
      unfold sameAlarm
      by_cases hc : alm (a.getD i z44) = alm (b.getD i z44)
      · rw [decide_eq_true hc, if_pos hc]; rfl
      · rw [decide_eq_false hc, if_neg hc]; rfl
  · simp only [if_neg (show ¬ (a.length : Int) = (b.length : Int) by omega), decide_eq_false (map_ne_of_length hl)]
    exact Ev.now _

end Go.Proofs.Ytfholjcelnkleaa.Print
end
section
namespace Go.Proofs.Ytfholjcelnkleaa.Print
open Go.RowKit Go.Proofs.YtfholjcelnkleaaV.PrintWords Go.Proofs.YtfholjcelnkleaaV.PrintLast Go.Proofs.YtfholjcelnkleaaV.PrintMore
set_option linter.unusedVariables false
set_option linter.unusedSimpArgs false
theorem inEq (a b c : Int) : impl_in.f a b c = some (decide (b ≤ a) && decide (a ≤ c)) := by
  unfold impl_in.f
  by_cases h : a ≥ b
  · rw [if_pos h]; simp [show b ≤ a from h]
  · rw [if_neg h]; simp [show ¬ b ≤ a from h]
theorem l1InEq (a b c : Int) : spec_l1In.f a b c = some (decide (b ≤ a) && decide (a ≤ c)) := by
  unfold spec_l1In.f
  by_cases h : a ≥ b
  · rw [if_pos h]; simp [show b ≤ a from h]
  · rw [if_neg h]; simp [show ¬ b ≤ a from h]
/-- Each byte of a name. -/
def nameStep {ρ : Type} (no : ρ) (s : ByteArray) (i : Nat) : Option ρ := if (bt s (i : Int)) < 97 then some no else if (bt s (i : Int)) > 122 then some no else none
def nameOk (s : ByteArray) : Bool := (decide (1 ≤ (s.size : Int)) && decide ((s.size : Int) ≤ 8)) && scan (nameStep false s) true s.size 0
/-- Where nothing stops a loop but with 'false', its end may wait. -/
theorem scan_end {step : Nat → Option Bool} (h : ∀ i r, step i = some r → r = false) (e : Bool) : ∀ d i, scan step e d i = (e && scan step true d i)
  | 0, i => by simp [scan]
  | d + 1, i => by
    unfold scan
    cases hs : step i with
    | some r => rw [h i r hs]; simp
    | none => exact scan_end h e d (i + 1)
theorem nameStep_false (s : ByteArray) (i : Nat) (r : Bool) (h : nameStep false s i = some r) : r = false := by
  unfold nameStep at h
  split at h
  · injection h with h; exact h.symm
  · split at h
    · injection h with h; exact h.symm
    · cases h
theorem implNameOk_ev (s : ByteArray) (h : s.size < 4611686018427387904) : Ev (fun k => impl_NameOk.f k s) (nameOk s) := by
  unfold impl_NameOk.f nameOk
  simp only [inEq, Option.bind_some]
  cases hc : (decide (1 ≤ (s.size : Int)) && decide ((s.size : Int) ≤ 8)) with
  | false => simp only [Bool.false_eq_true, if_false, Bool.false_and]; exact Ev.now _
  | true =>
    simp only [if_true, Bool.true_and]
    refine scan_ev (F := fun k i => impl_NameOk.l0 k s i) (n := s.size) (fun k => ?_) (fun i hi => ⟨0, fun k _ => ?_⟩) s.size 0 (by omega)
    · simp only [impl_NameOk.l0]; rw [if_neg (by omega)]
    · simp only [impl_NameOk.l0, nameStep]
      rw [if_pos (by omega), if_pos (by omega), wrap_up i (by omega)]
      split
      · rfl
      · split <;> rfl
theorem specNameOk_ev (s : ByteArray) (h : s.size < 4611686018427387904) : Ev (fun k => spec_NameOk.f k s) (nameOk s) := by
  unfold spec_NameOk.f nameOk
  rw [← scan_end (nameStep_false s)]
  refine scan_ev (F := fun k i => spec_NameOk.l0 k s i) (n := s.size) (fun k => ?_) (fun i hi => ⟨0, fun k _ => ?_⟩) s.size 0 (by omega)
  · simp only [spec_NameOk.l0]; rw [if_neg (by omega), l1InEq]; rfl
  · simp only [spec_NameOk.l0, nameStep]
    rw [if_pos (by omega), if_pos (by omega), wrap_up i (by omega)]
    split
    · rfl
    · split <;> rfl

end Go.Proofs.Ytfholjcelnkleaa.Print
end
section
namespace Go.Proofs.Ytfholjcelnkleaa.Print
open Go.RowKit Go.Proofs.YtfholjcelnkleaaV.PrintWords Go.Proofs.YtfholjcelnkleaaV.PrintLast Go.Proofs.YtfholjcelnkleaaV.PrintMore
set_option linter.unusedVariables false
set_option linter.unusedSimpArgs false
/-- Each byte of a plain text. -/
def plainStep {ρ : Type} (no : ρ) (s : ByteArray) (i : Nat) : Option ρ := if (bt s (i : Int)) < 32 then some no else if (bt s (i : Int)) > 126 then some no else if (bt s (i : Int)) = 34 then some no else if (bt s (i : Int)) = 92 then some no else none
def plainOk (s : ByteArray) : Bool := decide ((s.size : Int) ≤ 12) && scan (plainStep false s) true s.size 0
theorem plainStep_false (s : ByteArray) (i : Nat) (r : Bool) (h : plainStep false s i = some r) : r = false := by
  unfold plainStep at h
  repeat (split at h; (injection h with h; exact h.symm))
  cases h
theorem implPlainOk_ev (s : ByteArray) (h : s.size < 4611686018427387904) : Ev (fun k => impl_PlainOk.f k s) (plainOk s) := by
  unfold impl_PlainOk.f plainOk
  by_cases hc : (s.size : Int) > 12
  · simp only [if_pos hc, decide_eq_false (show ¬ (s.size : Int) ≤ 12 by omega), Bool.false_and]; exact Ev.now _
  · simp only [if_neg hc, decide_eq_true (show (s.size : Int) ≤ 12 by omega), Bool.true_and]
    refine scan_ev (F := fun k i => impl_PlainOk.l0 k s i) (n := s.size) (fun k => ?_) (fun i hi => ⟨0, fun k _ => ?_⟩) s.size 0 (by omega)
    · simp only [impl_PlainOk.l0]; rw [if_neg (by omega)]
    · simp only [impl_PlainOk.l0, plainStep]
      rw [if_pos (by omega), if_pos (by omega), wrap_up i (by omega)]
      repeat (split; rfl)
      rfl
theorem specPlainOk_ev (s : ByteArray) (h : s.size < 4611686018427387904) : Ev (fun k => spec_PlainOk.f k s) (plainOk s) := by
  unfold spec_PlainOk.f plainOk
  rw [← scan_end (plainStep_false s)]
  refine scan_ev (F := fun k i => spec_PlainOk.l0 k s i) (n := s.size) (fun k => ?_) (fun i hi => ⟨0, fun k _ => ?_⟩) s.size 0 (by omega)
  · simp only [spec_PlainOk.l0]; rw [if_neg (by omega)]
  · simp only [spec_PlainOk.l0, plainStep]
    rw [if_pos (by omega), if_pos (by omega), wrap_up i (by omega)]
    repeat (split; rfl)
    rfl
def labelOk (x : S164) : Bool := nameOk x.f0 && plainOk x.f1
theorem implLabelOk_ev (x : S164) (h : WiLabel x) : Ev (fun k => impl_LabelOk.f k x.f0 x.f1) (labelOk x) := by
  have h1 := h.1
  have h2 := h.2
  obtain ⟨K1, g1⟩ := implNameOk_ev x.f0 (by omega)
  obtain ⟨K2, g2⟩ := implPlainOk_ev x.f1 (by omega)
  refine ⟨K1 + K2, fun k hk => ?_⟩
  have e1 := g1 k (by omega)
  have e2 := g2 k (by omega)
  simp only at e1 e2
  simp only [impl_LabelOk.f, e1, e2, Option.bind_some, labelOk]
  cases nameOk x.f0 <;> simp
theorem specLabelOk_ev (x : S164) (h : WiLabel x) : Ev (fun k => spec_LabelOk.f k x.f0 x.f1) (labelOk x) := by
  have h1 := h.1
  have h2 := h.2
  obtain ⟨K1, g1⟩ := specNameOk_ev x.f0 (by omega)
  obtain ⟨K2, g2⟩ := specPlainOk_ev x.f1 (by omega)
  refine ⟨K1 + K2, fun k hk => ?_⟩
  have e1 := g1 k (by omega)
  have e2 := g2 k (by omega)
  simp only at e1 e2
  simp only [spec_LabelOk.f, e1, e2, Option.bind_some, labelOk]
  cases nameOk x.f0 <;> simp
/-- Is label i right, behind the one before it? -/
def setBit (l : List S164) (i : Nat) : Bool := labelOk (l.getD i z164) && (decide (i = 0) || Op.bytesLess (l.getD (i - 1) z164).f0.toList (l.getD i z164).f0.toList)
def setStep (l : List S164) (i : Nat) : Option Bool := if setBit l i = true then none else some false
def setOk (l : List S164) : Bool := decide ((l.length : Int) ≤ 4) && scan (setStep l) true l.length 0
theorem setStep_false (l : List S164) (i : Nat) (r : Bool) (h : setStep l i = some r) : r = false := by
  unfold setStep at h
  split at h
  · cases h
  · injection h with h; exact h.symm
theorem scan_stop {step : Nat → Option Bool} (hf : ∀ i r, step i = some r → r = false) : ∀ d i j, i ≤ j → j < i + d → step j = some false → scan step true d i = false
  | 0, i, j, h1, h2, _ => by omega
  | d + 1, i, j, h1, h2, h3 => by
    unfold scan
    cases hs : step i with
    | some r => exact hf i r hs
    | none =>
      by_cases e : i = j
      · subst e; rw [hs] at h3; cases h3
      · exact scan_stop hf d (i + 1) j (by omega) (by omega) h3
theorem sub1 (i : Nat) (h : 0 < i) (hi : i < 4611686018427387904) : wrap64 ((i : Int) - 1) = ((i - 1 : Nat) : Int) := by rw [wrap_id (by omega) (by omega)]; omega
theorem implSetOk_ev (l : List S164) (h : l.length ≤ 4000000 ∧ ∀ y ∈ l, WiLabel y) : Ev (fun k => impl_SetOk.f k l) (setOk l) := by
  have h1 := h.1
  have hx : setOk l = scan (fun i => if 4 ≤ i then some false else setStep l i) true l.length 0 := by
    unfold setOk
    by_cases h4 : l.length ≤ 4
    · rw [decide_eq_true (show (l.length : Int) ≤ 4 by omega), Bool.true_and]
      exact scan_congr _ _ (fun j _ hj => by rw [if_neg (by omega)])
    · rw [decide_eq_false (show ¬ (l.length : Int) ≤ 4 by omega), Bool.false_and]
      exact (scan_stop (step := fun i => if 4 ≤ i then some false else setStep l i) (fun i r hr => by
        by_cases hi : 4 ≤ i
        · simp only [if_pos hi] at hr; injection hr with hr; exact hr.symm
        · simp only [if_neg hi] at hr; exact setStep_false l i r hr) l.length 0 4 (by omega) (by omega) (by simp)).symm
  rw [hx]
  unfold impl_SetOk.f
  refine scan_ev (F := fun k i => impl_SetOk.l0 k l l (l.length : Int) i) (n := l.length) (fun k => ?_) (fun i hi => ?_) l.length 0 (by omega)
  · simp only [impl_SetOk.l0]; rw [if_neg (by omega)]
  · obtain ⟨K, g⟩ := implLabelOk_ev (l.getD i z164) (h.2 _ (getD_mem l i _ hi))
    refine ⟨K, fun k hk => ?_⟩
    have e := g k hk
    simp only at e
    simp only [impl_SetOk.l0]
    rw [if_pos (by omega), if_pos (by omega), if_pos (by omega)]
    by_cases h4 : 4 ≤ i
    · rw [if_pos (by omega), if_pos h4]; rfl
    · rw [if_neg (by omega), if_neg h4, rdnLabel, e, Option.bind_some, wrap_up i (by omega)]
      unfold setStep setBit
      cases hl : labelOk (l.getD i z164) with
      | false => simp [goOn]
      | true =>
        by_cases h0 : i = 0
        · subst h0; simp [goOn]
        · rw [if_pos rfl, if_pos (by omega), sub1 i (by omega) (by omega), if_pos (by omega), if_pos (by omega), rdnLabel, decide_eq_false h0]
          cases Op.bytesLess (l.getD (i - 1) z164).f0.toList (l.getD i z164).f0.toList <;> simp [goOn]
theorem specSetOk_ev (l : List S164) (h : l.length ≤ 4000000 ∧ ∀ y ∈ l, WiLabel y) : Ev (fun k => spec_SetOk.f k l) (setOk l) := by
  have h1 := h.1
  unfold spec_SetOk.f setOk
  rw [← scan_end (setStep_false l)]
  refine scan_ev (F := fun k i => spec_SetOk.l0 k l i) (n := l.length) (fun k => ?_) (fun i hi => ?_) l.length 0 (by omega)
  · simp only [spec_SetOk.l0]; rw [if_neg (by omega)]
  · obtain ⟨K, g⟩ := specLabelOk_ev (l.getD i z164) (h.2 _ (getD_mem l i _ hi))
    refine ⟨K, fun k hk => ?_⟩
    have e := g k hk
    simp only at e
    simp only [spec_SetOk.l0, spec_Less.f]
    rw [if_pos (by omega), if_pos (by omega), rdnLabel, e, Option.bind_some, wrap_up i (by omega)]
    unfold setStep setBit
    cases hl : labelOk (l.getD i z164) with
    | false => simp [goOn]
    | true =>
      by_cases h0 : i = 0
      · subst h0; simp [goOn]
      · rw [if_pos rfl, if_pos (by omega), sub1 i (by omega) (by omega), if_pos (by omega), if_pos (by omega), rdnLabel, decide_eq_false h0]
        cases Op.bytesLess (l.getD (i - 1) z164).f0.toList (l.getD i z164).f0.toList <;> simp [goOn]
def alarmOk (x : S44) : Bool := setOk x.f0 && (decide ((x.f0.length : Int) > 0) && ((decide (0 ≤ x.f1) && decide (x.f1 ≤ 99999)) && ((decide (x.f1 ≤ x.f2) && decide (x.f2 ≤ 99999)) && plainOk x.f3)))
theorem implAlarmOk_ev (x : S44) (h : WiAlarm x) : Ev (fun k => impl_AlarmOk.f k x.f0 x.f1 x.f2 x.f3) (alarmOk x) := by
  have h3 := h.2.2.2
  obtain ⟨K1, g1⟩ := implSetOk_ev x.f0 h.1
  obtain ⟨K2, g2⟩ := implPlainOk_ev x.f3 (by omega)
  refine ⟨K1 + K2, fun k hk => ?_⟩
  have e1 := g1 k (by omega)
  have e2 := g2 k (by omega)
  simp only at e1 e2
  simp only [impl_AlarmOk.f, e1, e2, Option.bind_some, alarmOk, inEq]
  by_cases hl : (x.f0.length : Int) > 0
  · rw [if_pos hl, decide_eq_true hl]
    cases setOk x.f0 <;> cases (decide (0 ≤ x.f1) && decide (x.f1 ≤ 99999)) <;> cases (decide (x.f1 ≤ x.f2) && decide (x.f2 ≤ 99999)) <;> simp
  · rw [if_neg hl, decide_eq_false hl]
    cases setOk x.f0 <;> simp
theorem specAlarmOk_ev (x : S44) (h : WiAlarm x) : Ev (fun k => spec_AlarmOk.f k x.f0 x.f1 x.f2 x.f3) (alarmOk x) := by
  have h3 := h.2.2.2
  obtain ⟨K1, g1⟩ := specSetOk_ev x.f0 h.1
  obtain ⟨K2, g2⟩ := specPlainOk_ev x.f3 (by omega)
  refine ⟨K1 + K2, fun k hk => ?_⟩
  have e1 := g1 k (by omega)
  have e2 := g2 k (by omega)
  simp only at e1 e2
  simp only [spec_AlarmOk.f, e1, e2, Option.bind_some, alarmOk, l1InEq]
  by_cases hl : (x.f0.length : Int) > 0
  · rw [if_pos hl, decide_eq_true hl]
    cases setOk x.f0 <;> cases (decide (0 ≤ x.f1) && decide (x.f1 ≤ 99999)) <;> cases (decide (x.f1 ≤ x.f2) && decide (x.f2 ≤ 99999)) <;> simp
  · rw [if_neg hl, decide_eq_false hl]
    cases setOk x.f0 <;> simp

end Go.Proofs.Ytfholjcelnkleaa.Print
end
section
namespace Go.Proofs.Ytfholjcelnkleaa.Print
open Go.RowKit Go.Proofs.YtfholjcelnkleaaV.PrintWords Go.Proofs.YtfholjcelnkleaaV.PrintLast Go.Proofs.YtfholjcelnkleaaV.PrintMore
set_option linter.unusedVariables false
set_option linter.unusedSimpArgs false
theorem rdnString3 (l : List ByteArray) (i : Nat) : rdOf ByteArray.empty l (i : Int) = l.getD i ByteArray.empty := by unfold rdOf; simp
def hasText (l : List ByteArray) (s : ByteArray) : Bool := l.any (fun t => decide (t.toList = s.toList))
theorem scan_any {α : Type} (p : α → Bool) (z : α) : ∀ (suf pre : List α), scan (fun i => if p ((pre ++ suf).getD i z) = true then some true else none) false suf.length pre.length = suf.any p
  | [], pre => by simp [scan]
  | y :: suf, pre => by
    have ih := scan_any p z suf (pre ++ [y])
    simp only [List.append_assoc, List.singleton_append, List.length_append, List.length_singleton] at ih
    simp only [List.length_cons, scan]
    rw [show (pre ++ y :: suf).getD pre.length z = y by simp]
    by_cases hp : p y = true
    · simp [hp]
    · simp only [if_neg hp]; rw [ih]; simp [hp]
theorem scan_any0 {α : Type} (p : α → Bool) (z : α) (l : List α) : scan (fun i => if p (l.getD i z) = true then some true else none) false l.length 0 = l.any p := scan_any p z l []
theorem implHasText_ev (l : List ByteArray) (s : ByteArray) (h : l.length < 4611686018427387904) : Ev (fun k => impl_hasText.f k l s) (hasText l s) := by
  unfold impl_hasText.f hasText
  rw [← scan_any0 (fun t : ByteArray => decide (t.toList = s.toList)) ByteArray.empty l]
  refine scan_ev (F := fun k i => impl_hasText.l0 k s l (l.length : Int) i) (n := l.length) (fun k => ?_) (fun i hi => ⟨0, fun k _ => ?_⟩) l.length 0 (by omega)
  · simp only [impl_hasText.l0]; rw [if_neg (by omega)]
  · simp only [impl_hasText.l0]
    rw [if_pos (by omega), if_pos (by omega), if_pos (by omega), rdnString3, wrap_up i (by omega)]
    by_cases hc : (l.getD i ByteArray.empty).toList = s.toList
    · rw [if_pos hc, if_pos (decide_eq_true hc)]; rfl
    · rw [if_neg hc, if_neg (by simpa using hc)]; rfl
theorem specHas_ev (l : List ByteArray) (s : ByteArray) (h : l.length < 4611686018427387904) : Ev (fun k => spec_l5Has.f k l s) (hasText l s) := by
  unfold spec_l5Has.f hasText
  rw [← scan_any0 (fun t : ByteArray => decide (t.toList = s.toList)) ByteArray.empty l]
  refine scan_ev (F := fun k i => spec_l5Has.l0 k l s i) (n := l.length) (fun k => ?_) (fun i hi => ⟨0, fun k _ => ?_⟩) l.length 0 (by omega)
  · simp only [spec_l5Has.l0]; rw [if_neg (by omega)]
  · simp only [spec_l5Has.l0]
    rw [if_pos (by omega), if_pos (by omega), rdnString3, wrap_up i (by omega)]
    by_cases hc : (l.getD i ByteArray.empty).toList = s.toList
    · rw [if_pos hc, if_pos (decide_eq_true hc)]; rfl
    · rw [if_neg hc, if_neg (by simpa using hc)]; rfl
def project (l : List S164) (b : List ByteArray) : List S164 := l.filter (fun x => hasText b x.f0)
theorem project_length (l : List S164) (b : List ByteArray) : (project l b).length ≤ l.length := List.length_filter_le _ _
theorem implProject_l0 (b : List ByteArray) (hb : b.length < 4611686018427387904) (x8 : List S164) (h : x8.length ≤ 4000000) : ∀ (suf pre acc : List S164), pre ++ suf = x8 → acc.length ≤ pre.length →
    Ev (fun k => impl_Project.l0 k b acc x8 (x8.length : Int) (pre.length : Int)) (acc ++ project suf b)
  | [], pre, acc, e, ha => by
    refine Ev.step (f := fun _ => some acc) (fun k => ?_) (by simpa [project] using Ev.now acc)
    simp only [impl_Project.l0]
    rw [if_neg (by rw [← e]; simp)]
  | y :: suf, pre, acc, e, ha => by
    have hl : pre.length < x8.length := by rw [← e]; simp
    have hg : x8.getD pre.length z164 = y := by rw [← e]; simp
    have g := implHasText_ev b y.f0 hb
    refine Ev.step (f := fun k => (impl_hasText.f k b y.f0).bind fun t => if t = true then impl_Project.l0 k b (acc ++ [y]) x8 (x8.length : Int) ((pre.length + 1 : Nat) : Int) else impl_Project.l0 k b acc x8 (x8.length : Int) ((pre.length + 1 : Nat) : Int)) (fun k => ?_) (Ev.bind g ?_)
    · simp only [impl_Project.l0]
      rw [if_pos (by omega), if_pos (by omega), if_pos (by omega), rdnLabel, hg, wrap_up _ (by omega), if_pos (by omega)]
    · cases hc : hasText b y.f0 with
      | true =>
        simp only [if_true]
        have ih := implProject_l0 b hb x8 h suf (pre ++ [y]) (acc ++ [y]) (by rw [← e]; simp) (by simp; omega)
        simpa [project, List.filter_cons, hc] using ih
      | false =>
        simp only [Bool.false_eq_true, if_false]
        have ih := implProject_l0 b hb x8 h suf (pre ++ [y]) acc (by rw [← e]; simp) (by simp; omega)
        simpa [project, List.filter_cons, hc] using ih
theorem implProject_ev (l : List S164) (b : List ByteArray) (h : l.length ≤ 4000000) (hb : b.length < 4611686018427387904) : Ev (fun k => impl_Project.f k l b) (project l b) := by
  unfold impl_Project.f
  exact implProject_l0 b hb l h l [] [] rfl (by simp)
theorem specProject_l0 (b : List ByteArray) (hb : b.length < 4611686018427387904) (x8 : List S164) (h : x8.length ≤ 4000000) : ∀ (suf pre acc : List S164), pre ++ suf = x8 → acc.length ≤ pre.length →
    Ev (fun k => spec_Project.l0 k x8 b acc (pre.length : Int)) (acc ++ project suf b)
  | [], pre, acc, e, ha => by
    refine Ev.step (f := fun _ => some acc) (fun k => ?_) (by simpa [project] using Ev.now acc)
    simp only [spec_Project.l0]
    rw [if_neg (by rw [← e]; simp)]
  | y :: suf, pre, acc, e, ha => by
    have hl : pre.length < x8.length := by rw [← e]; simp
    have hg : x8.getD pre.length z164 = y := by rw [← e]; simp
    have g := specHas_ev b y.f0 hb
    refine Ev.step (f := fun k => (spec_l5Has.f k b y.f0).bind fun t => if t = true then spec_Project.l0 k x8 b (acc ++ [y]) ((pre.length + 1 : Nat) : Int) else spec_Project.l0 k x8 b acc ((pre.length + 1 : Nat) : Int)) (fun k => ?_) (Ev.bind g ?_)
    · simp only [spec_Project.l0]
      rw [if_pos (by omega), if_pos (by omega), rdnLabel, hg, wrap_up _ (by omega), if_pos (by omega)]
    · cases hc : hasText b y.f0 with
      | true =>
        simp only [if_true]
        have ih := specProject_l0 b hb x8 h suf (pre ++ [y]) (acc ++ [y]) (by rw [← e]; simp) (by simp; omega)
        simpa [project, List.filter_cons, hc] using ih
      | false =>
        simp only [Bool.false_eq_true, if_false]
        have ih := specProject_l0 b hb x8 h suf (pre ++ [y]) acc (by rw [← e]; simp) (by simp; omega)
        simpa [project, List.filter_cons, hc] using ih
theorem specProject_ev (l : List S164) (b : List ByteArray) (h : l.length ≤ 4000000) (hb : b.length < 4611686018427387904) : Ev (fun k => spec_Project.f k l b) (project l b) := by
  unfold spec_Project.f
  exact specProject_l0 b hb l h l [] [] rfl (by simp)
theorem implKeyOf_ev (x : S44) (b : List ByteArray) (h : x.f0.length ≤ 4000000) (hb : b.length < 4611686018427387904) : Ev (fun k => impl_KeyOf.f k x.f0 x.f1 x.f2 x.f3 b) (project x.f0 b) := by
  unfold impl_KeyOf.f
  exact Ev.bind (implProject_ev x.f0 b h hb) (Ev.now _)
theorem specKeyOf_ev (x : S44) (b : List ByteArray) (h : x.f0.length ≤ 4000000) (hb : b.length < 4611686018427387904) : Ev (fun k => spec_KeyOf.f k x.f0 x.f1 x.f2 x.f3 b) (project x.f0 b) := by
  unfold spec_KeyOf.f
  exact Ev.bind (specProject_ev x.f0 b h hb) (Ev.now _)

end Go.Proofs.Ytfholjcelnkleaa.Print
end
section
namespace Go.Proofs.Ytfholjcelnkleaa.Print
open Go.RowKit Go.Proofs.YtfholjcelnkleaaV.PrintWords Go.Proofs.YtfholjcelnkleaaV.PrintLast Go.Proofs.YtfholjcelnkleaaV.PrintMore
set_option linter.unusedVariables false
set_option linter.unusedSimpArgs false
/-- Labels in order, by names and by values. -/
def setLess : List S164 → List S164 → Bool
  | [], [] => false
  | [], _ :: _ => true
  | _ :: _, [] => false
  | x :: a, y :: b => if x.f0.toList = y.f0.toList then (if x.f1.toList = y.f1.toList then setLess a b else Op.bytesLess x.f1.toList y.f1.toList) else Op.bytesLess x.f0.toList y.f0.toList
theorem implSetLess_l0 (a b : List S164) (ha : a.length < 4611686018427387904) : ∀ (sa sb pa pb : List S164), pa ++ sa = a → pb ++ sb = b → pa.length = pb.length → Ev (fun k => impl_SetLess.l0 k a b (pa.length : Int)) (setLess sa sb)
  | [], sb, pa, pb, ea, eb, hp => by
    have hl : a.length = pa.length := by rw [← ea]; simp
    have hb : b.length = pb.length + sb.length := by rw [← eb]; simp
    refine Ev.step (f := fun k => impl_SetLess.j1 k a b (pa.length : Int) false) (fun k => ?_) (Ev.step (f := fun _ => some (setLess [] sb)) (fun k => ?_) (Ev.now _))
    · simp only [impl_SetLess.l0]; rw [if_neg (by omega)]
    · simp only [impl_SetLess.j1]; rw [if_neg (by simp)]
      cases sb with
      | nil => simp only [List.length_nil] at hb; rw [decide_eq_false (by omega)]; rfl
      | cons y sb => simp only [List.length_cons] at hb; rw [decide_eq_true (by omega)]; rfl
  | x :: sa, [], pa, pb, ea, eb, hp => by
    have hl : a.length = pa.length + (sa.length + 1) := by rw [← ea]; simp
    have hb : b.length = pb.length := by rw [← eb]; simp
    refine Ev.step (f := fun k => impl_SetLess.j1 k a b (pa.length : Int) false) (fun k => ?_) (Ev.step (f := fun _ => some (setLess (x :: sa) [])) (fun k => ?_) (Ev.now _))
    · simp only [impl_SetLess.l0]; rw [if_pos (by omega), decide_eq_false (by omega)]
    · simp only [impl_SetLess.j1]; rw [if_neg (by simp), decide_eq_false (by omega)]; rfl
  | x :: sa, y :: sb, pa, pb, ea, eb, hp => by
    have hl : a.length = pa.length + (sa.length + 1) := by rw [← ea]; simp
    have hb : b.length = pb.length + (sb.length + 1) := by rw [← eb]; simp
    have ga : a.getD pa.length z164 = x := by rw [← ea]; simp
    have gb : b.getD pa.length z164 = y := by rw [← eb, hp]; simp
    have ih := implSetLess_l0 a b ha sa sb (pa ++ [x]) (pb ++ [y]) (by rw [← ea]; simp) (by rw [← eb]; simp) (by simp [hp])
    refine Ev.step (f := fun k => impl_SetLess.j1 k a b (pa.length : Int) true) (fun k => ?_) ?_
    · simp only [impl_SetLess.l0]; rw [if_pos (by omega), decide_eq_true (by omega)]
    · refine Ev.step (f := fun k => if x.f0.toList = y.f0.toList then (if x.f1.toList = y.f1.toList then impl_SetLess.l0 k a b ((pa.length + 1 : Nat) : Int) else some (Op.bytesLess x.f1.toList y.f1.toList)) else some (Op.bytesLess x.f0.toList y.f0.toList)) (fun k => ?_) ?_
      · simp only [impl_SetLess.j1]
        rw [if_pos trivial, if_pos (by omega), if_pos (by omega), if_pos (by omega), rdnLabel, rdnLabel, ga, gb, wrap_up _ (by omega)]
      · unfold setLess
        by_cases h1 : x.f0.toList = y.f0.toList
        · simp only [if_pos h1]
          by_cases h2 : x.f1.toList = y.f1.toList
          · simp only [if_pos h2]; simpa using ih
          · simp only [if_neg h2]; exact Ev.now _
        · simp only [if_neg h1]; exact Ev.now _
theorem implSetLess_ev (a b : List S164) (ha : a.length < 4611686018427387904) : Ev (fun k => impl_SetLess.f k a b) (setLess a b) := by
  unfold impl_SetLess.f
  exact implSetLess_l0 a b ha a b [] [] rfl rfl rfl
theorem specSetLess_l0 (a b : List S164) (ha : a.length < 4611686018427387904) : ∀ (sa sb pa pb : List S164), pa ++ sa = a → pb ++ sb = b → pa.length = pb.length → Ev (fun k => spec_SetLess.l0 k a b (pa.length : Int)) (setLess sa sb)
  | [], sb, pa, pb, ea, eb, hp => by
    have hl : a.length = pa.length := by rw [← ea]; simp
    have hb : b.length = pb.length + sb.length := by rw [← eb]; simp
    refine Ev.step (f := fun k => spec_SetLess.j1 k a b (pa.length : Int) false) (fun k => ?_) (Ev.step (f := fun _ => some (setLess [] sb)) (fun k => ?_) (Ev.now _))
    · simp only [spec_SetLess.l0]; rw [if_neg (by omega)]
    · simp only [spec_SetLess.j1]; rw [if_neg (by simp)]
      cases sb with
      | nil => simp only [List.length_nil] at hb; rw [decide_eq_false (by omega)]; rfl
      | cons y sb => simp only [List.length_cons] at hb; rw [decide_eq_true (by omega)]; rfl
  | x :: sa, [], pa, pb, ea, eb, hp => by
    have hl : a.length = pa.length + (sa.length + 1) := by rw [← ea]; simp
    have hb : b.length = pb.length := by rw [← eb]; simp
    refine Ev.step (f := fun k => spec_SetLess.j1 k a b (pa.length : Int) false) (fun k => ?_) (Ev.step (f := fun _ => some (setLess (x :: sa) [])) (fun k => ?_) (Ev.now _))
    · simp only [spec_SetLess.l0]; rw [if_pos (by omega), decide_eq_false (by omega)]
    · simp only [spec_SetLess.j1]; rw [if_neg (by simp), decide_eq_false (by omega)]; rfl
  | x :: sa, y :: sb, pa, pb, ea, eb, hp => by
    have hl : a.length = pa.length + (sa.length + 1) := by rw [← ea]; simp
    have hb : b.length = pb.length + (sb.length + 1) := by rw [← eb]; simp
    have ga : a.getD pa.length z164 = x := by rw [← ea]; simp
    have gb : b.getD pa.length z164 = y := by rw [← eb, hp]; simp
    have ih := specSetLess_l0 a b ha sa sb (pa ++ [x]) (pb ++ [y]) (by rw [← ea]; simp) (by rw [← eb]; simp) (by simp [hp])
    refine Ev.step (f := fun k => spec_SetLess.j1 k a b (pa.length : Int) true) (fun k => ?_) ?_
    · simp only [spec_SetLess.l0]; rw [if_pos (by omega), decide_eq_true (by omega)]
    · refine Ev.step (f := fun k => if x.f0.toList = y.f0.toList then (if x.f1.toList = y.f1.toList then spec_SetLess.l0 k a b ((pa.length + 1 : Nat) : Int) else some (Op.bytesLess x.f1.toList y.f1.toList)) else some (Op.bytesLess x.f0.toList y.f0.toList)) (fun k => ?_) ?_
      · simp only [spec_SetLess.j1, spec_Less.f, Option.bind_some]
        rw [if_pos trivial, if_pos (by omega), if_pos (by omega), if_pos (by omega), rdnLabel, rdnLabel, ga, gb, wrap_up _ (by omega)]
      · unfold setLess
        by_cases h1 : x.f0.toList = y.f0.toList
        · simp only [if_pos h1]
          by_cases h2 : x.f1.toList = y.f1.toList
          · simp only [if_pos h2]; simpa using ih
          · simp only [if_neg h2]; exact Ev.now _
        · simp only [if_neg h1]; exact Ev.now _
theorem specSetLess_ev (a b : List S164) (ha : a.length < 4611686018427387904) : Ev (fun k => spec_SetLess.f k a b) (setLess a b) := by
  unfold spec_SetLess.f
  exact specSetLess_l0 a b ha a b [] [] rfl rfl rfl

end Go.Proofs.Ytfholjcelnkleaa.Print
end
section
namespace Go.Proofs.Ytfholjcelnkleaa.Print
open Go.RowKit Go.Proofs.YtfholjcelnkleaaV.PrintWords Go.Proofs.YtfholjcelnkleaaV.PrintLast Go.Proofs.YtfholjcelnkleaaV.PrintMore
set_option linter.unusedVariables false
set_option linter.unusedSimpArgs false
def gBit (l : List S44) (key : List S164) (b : List ByteArray) (i : Nat) : Bool := alarmOk (l.getD i z44) && (sameSet (project (l.getD i z44).f0 b) key && (decide (i = 0) || setLess (l.getD (i - 1) z44).f0 (l.getD i z44).f0))
def gStep (l : List S44) (key : List S164) (b : List ByteArray) (i : Nat) : Option Bool := if gBit l key b i = true then none else some false
theorem gStep_false (l : List S44) (key : List S164) (b : List ByteArray) (i : Nat) (r : Bool) (h : gStep l key b i = some r) : r = false := by
  unfold gStep at h
  split at h
  · cases h
  · injection h with h; exact h.symm
def keyedOk (l : List S44) (key : List S164) (b : List ByteArray) : Bool := scan (gStep l key b) true l.length 0
theorem implKeyedOk_ev (l : List S44) (key : List S164) (b : List ByteArray) (h : l.length ≤ 4000000 ∧ ∀ y ∈ l, WiAlarm y) (hb : b.length ≤ 4000000) : Ev (fun k => impl_keyedOk.f k l key b) (keyedOk l key b) := by
  have h1 := h.1
  unfold impl_keyedOk.f keyedOk
  refine scan_ev (F := fun k i => impl_keyedOk.l0 k l key b l (l.length : Int) i) (n := l.length) (fun k => ?_) (fun i hi => ?_) l.length 0 (by omega)
  · simp only [impl_keyedOk.l0]; rw [if_neg (by omega)]
  · have hy := h.2 _ (getD_mem l i z44 hi)
    have hz := h.2 _ (getD_mem l (i - 1) z44 (by omega))
    have hy1 := hy.1.1
    have hz1 := hz.1.1
    have hpl := project_length (l.getD i z44).f0 b
    obtain ⟨K1, g1⟩ := implAlarmOk_ev (l.getD i z44) hy
    obtain ⟨K2, g2⟩ := implKeyOf_ev (l.getD i z44) b hy1 (by omega)
    obtain ⟨K3, g3⟩ := implSameSet_ev (project (l.getD i z44).f0 b) key (by omega)
    obtain ⟨K4, g4⟩ := implSetLess_ev (l.getD (i - 1) z44).f0 (l.getD i z44).f0 (by omega)
    refine ⟨K1 + K2 + K3 + K4, fun k hk => ?_⟩
    have e1 := g1 k (by omega)
    have e2 := g2 k (by omega)
    have e3 := g3 k (by omega)
    have e4 := g4 k (by omega)
    simp only at e1 e2 e3 e4
    simp only [impl_keyedOk.l0]
    rw [if_pos (by omega), if_pos (by omega), if_pos (by omega), rdnAlarm, e1, Option.bind_some, e2, Option.bind_some, e3, Option.bind_some, wrap_up i (by omega)]
    unfold gStep gBit
    cases alarmOk (l.getD i z44) with
    | false => simp [goOn]
    | true =>
      cases sameSet (project (l.getD i z44).f0 b) key with
      | false => simp [goOn]
      | true =>
        by_cases h0 : i = 0
        · subst h0; simp [goOn]
        · rw [if_pos rfl, if_pos rfl, if_pos (by omega), sub1 i (by omega) (by omega), if_pos (by omega), if_pos (by omega), rdnAlarm, e4, Option.bind_some, decide_eq_false h0]
          cases setLess (l.getD (i - 1) z44).f0 (l.getD i z44).f0 <;> simp [goOn]
def groupOk (g : S75) (b : List ByteArray) : Bool := keyedOk g.f4 g.f1 b && (decide (g.f0 ≥ 0) && (setOk g.f1 && ((decide (0 ≤ g.f2) && decide (g.f2 ≤ 99999)) && ((decide (g.f3 = -1) || (decide (g.f2 ≤ g.f3) && decide (g.f3 ≤ 99999))) && decide ((g.f4.length : Int) > 0)))))
theorem implGroupOk_ev (g : S75) (b : List ByteArray) (h : WiGroup g) (hb : b.length ≤ 4000000) : Ev (fun k => impl_GroupOk.f k g.f0 g.f1 g.f2 g.f3 g.f4 b) (groupOk g b) := by
  obtain ⟨K1, g1⟩ := implSetOk_ev g.f1 h.2.1
  obtain ⟨K2, g2⟩ := implKeyedOk_ev g.f4 g.f1 b h.2.2.2.2 hb
  refine ⟨K1 + K2, fun k hk => ?_⟩
  have e1 := g1 k (by omega)
  have e2 := g2 k (by omega)
  simp only at e1 e2
  simp only [impl_GroupOk.f, e1, e2, Option.bind_some, groupOk, inEq]
  by_cases c0 : g.f0 < 0
  · simp [c0, show ¬ g.f0 ≥ 0 by omega]
  · rw [if_neg c0, decide_eq_true (show g.f0 ≥ 0 by omega)]
    cases setOk g.f1 with
    | false => simp
    | true =>
      cases (decide (0 ≤ g.f2) && decide (g.f2 ≤ 99999)) with
      | false => simp
      | true =>
        by_cases c3 : g.f3 = -1
        · simp only [c3, if_true, decide_true, Bool.true_or]
          by_cases c4 : (g.f4.length : Int) > 0
          · rw [if_pos c4, decide_eq_true c4]; simp
          · rw [if_neg c4, decide_eq_false c4]; simp
        · simp only [if_true, if_neg c3, decide_eq_false c3, Bool.false_or]
          cases (decide (g.f2 ≤ g.f3) && decide (g.f3 ≤ 99999)) with
          | false => simp
          | true =>
            simp only [if_true]
            by_cases c4 : (g.f4.length : Int) > 0
            · rw [if_pos c4, decide_eq_true c4]; simp
            · rw [if_neg c4, decide_eq_false c4]; simp
theorem specGroupOk_ev (g : S75) (b : List ByteArray) (h : WiGroup g) (hb : b.length ≤ 4000000) : Ev (fun k => spec_GroupOk.f k g.f0 g.f1 g.f2 g.f3 g.f4 b) (groupOk g b) := by
  have h1 := h.2.2.2.2.1
  have h2 := h.2.2.2.2.2
  unfold spec_GroupOk.f groupOk keyedOk
  obtain ⟨K0, g0⟩ := specSetOk_ev g.f1 h.2.1
  rw [Bool.and_comm, ← scan_end (gStep_false g.f4 g.f1 b)]
  refine scan_ev2 (F := fun k i => spec_GroupOk.l0 k b i g.f0 g.f1 g.f2 g.f3 g.f4) (n := g.f4.length) ⟨K0, fun k hk => ?_⟩ (fun i hi => ?_) g.f4.length 0 (by omega)
  · have e := g0 k hk
    simp only at e
    simp only [spec_GroupOk.l0, l1InEq, e, Option.bind_some]
    rw [if_neg (by omega)]
    by_cases c0 : g.f0 ≥ 0
    · rw [if_pos c0, decide_eq_true c0]
      cases setOk g.f1 with
      | false => simp
      | true =>
        cases (decide (0 ≤ g.f2) && decide (g.f2 ≤ 99999)) with
        | false => simp
        | true =>
          by_cases c3 : g.f3 = -1
          · simp [c3]
          · simp only [if_true, if_neg c3, decide_eq_false c3, Bool.false_or, Bool.true_and]
            cases (decide (g.f2 ≤ g.f3) && decide (g.f3 ≤ 99999)) <;> simp
    · rw [if_neg c0, decide_eq_false c0]; simp
  · have hy := h2 _ (getD_mem g.f4 i z44 hi)
    have hz := h2 _ (getD_mem g.f4 (i - 1) z44 (by omega))
    have hy1 := hy.1.1
    have hz1 := hz.1.1
    have hpl := project_length (g.f4.getD i z44).f0 b
    obtain ⟨K1, g1⟩ := specAlarmOk_ev (g.f4.getD i z44) hy
    obtain ⟨K2, g2⟩ := specKeyOf_ev (g.f4.getD i z44) b hy1 (by omega)
    obtain ⟨K3, g3⟩ := specSameSet_ev (project (g.f4.getD i z44).f0 b) g.f1 (by omega)
    obtain ⟨K4, g4⟩ := specSetLess_ev (g.f4.getD (i - 1) z44).f0 (g.f4.getD i z44).f0 (by omega)
    refine ⟨K1 + K2 + K3 + K4, fun k hk => ?_⟩
    have e1 := g1 k (by omega)
    have e2 := g2 k (by omega)
    have e3 := g3 k (by omega)
    have e4 := g4 k (by omega)
    simp only at e1 e2 e3 e4
    simp only [spec_GroupOk.l0]
    rw [if_pos (by omega), if_pos (by omega), rdnAlarm, e1, Option.bind_some, wrap_up i (by omega)]
    simp only [e2, Option.bind_some, e3]
    unfold gStep gBit
    cases alarmOk (g.f4.getD i z44) with
    | false => simp [goOn]
    | true =>
      by_cases h0 : i = 0
      · subst h0
        cases sameSet (project (g.f4.getD 0 z44).f0 b) g.f1 <;> simp [goOn]
      · rw [if_pos rfl, if_pos (by omega), sub1 i (by omega) (by omega), if_pos (by omega), if_pos (by omega), rdnAlarm, e4, Option.bind_some, decide_eq_false h0]
        cases setLess (g.f4.getD (i - 1) z44).f0 (g.f4.getD i z44).f0 <;> cases sameSet (project (g.f4.getD i z44).f0 b) g.f1 <;> simp [goOn]

end Go.Proofs.Ytfholjcelnkleaa.Print
end
section
/- The law FnExactGroupOk answers true for all arguments that can be read: the pure statement, without Go and memory. No condition. -/
namespace Go.Proofs.Ytfholjcelnkleaa.Print
open Go.RowKit Go.Proofs.YtfholjcelnkleaaV.PrintWords Go.Proofs.YtfholjcelnkleaaV.PrintLast Go.Proofs.YtfholjcelnkleaaV.PrintMore
set_option linter.unusedVariables false
set_option linter.unusedSimpArgs false
theorem pure_FnExactGroupOk : laws_FnExactGroupOk.Pure := by
  intro p0_0 p0_1 p0_2 p0_3 p0_4 p1 hp0_0 hp0_1 hp0_2 hp0_3 hp0_4 hp1
  obtain ⟨r0, ⟨K0, g0⟩, le0, w0⟩ := szGroup_ev (⟨p0_0, p0_1, p0_2, p0_3, p0_4⟩ : S69) ⟨hp0_0, hp0_1, hp0_2, hp0_3, hp0_4⟩ 1048576 (by omega) (by omega)
  simp only at g0
  by_cases c0 : r0 < 0
  · exact ⟨K0, by simp [laws_FnExactGroupOk.f, g0 (K0) (by omega), c0]⟩
  obtain ⟨r1, ⟨K1, g1⟩, le1, w1⟩ := szStringS_ev p1 hp1 r0 (by omega) (by omega)
  simp only at g1
  by_cases c1 : r1 < 0
  · exact ⟨K0 + K1, by simp [laws_FnExactGroupOk.f, g0 (K0 + K1) (by omega), c0, g1 (K0 + K1) (by omega), c1]⟩
  have hb := (Wi_mapString (w1 (by omega)))
  have hb1 := hb.1
  obtain ⟨L0, f0⟩ := toGroup_ev (⟨p0_0, p0_1, p0_2, p0_3, p0_4⟩ : S69) (w0 (by omega))
  obtain ⟨L1, f1⟩ := eqGroup_ev (cvGroup (⟨p0_0, p0_1, p0_2, p0_3, p0_4⟩ : S69)) (Wi_cvGroup (w0 (by omega)))
  obtain ⟨L2, f2⟩ := toStringS_ev p1 (w1 (by omega))
  obtain ⟨L3, f3⟩ := eqStringS_ev p1 (Wi_mapString (w1 (by omega)))
  obtain ⟨L4, f4⟩ := specGroupOk_ev (cvGroup (⟨p0_0, p0_1, p0_2, p0_3, p0_4⟩ : S69)) p1 (Wi_cvGroup (w0 (by omega))) hb1
  obtain ⟨L5, f5⟩ := implGroupOk_ev (cvGroup (⟨p0_0, p0_1, p0_2, p0_3, p0_4⟩ : S69)) p1 (Wi_cvGroup (w0 (by omega))) hb1
  have G0 := fun m => g0 (K0 + K1 + L0 + L1 + L2 + L3 + L4 + L5 + m) (by omega)
  have G1 := fun m => g1 (K0 + K1 + L0 + L1 + L2 + L3 + L4 + L5 + m) (by omega)
  have F0 := fun m => f0 (K0 + K1 + L0 + L1 + L2 + L3 + L4 + L5 + m) (by omega)
  have F1 := fun m => f1 (K0 + K1 + L0 + L1 + L2 + L3 + L4 + L5 + m) (by omega)
  have F2 := fun m => f2 (K0 + K1 + L0 + L1 + L2 + L3 + L4 + L5 + m) (by omega)
  have F3 := fun m => f3 (K0 + K1 + L0 + L1 + L2 + L3 + L4 + L5 + m) (by omega)
  have F4 := fun m => f4 (K0 + K1 + L0 + L1 + L2 + L3 + L4 + L5 + m) (by omega)
  have F5 := fun m => f5 (K0 + K1 + L0 + L1 + L2 + L3 + L4 + L5 + m) (by omega)
  simp only at F0 F1 F2 F3 F4 F5
  exact ⟨K0 + K1 + L0 + L1 + L2 + L3 + L4 + L5 + 3, by simp [laws_FnExactGroupOk.f, G0, G1, F0, F1, F2, F3, F4, F5, c0, c1]⟩

end Go.Proofs.Ytfholjcelnkleaa.Print
end
