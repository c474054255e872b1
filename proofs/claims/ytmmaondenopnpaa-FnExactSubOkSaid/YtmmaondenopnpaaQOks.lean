import Derived.Test.YtmmaondenopnpaaF0
import Derived.Test.YtmmaondenopnpaaF75
import Derived.Test.YtmmaondenopnpaaF78
import Derived.Test.YtmmaondenopnpaaF79
import Derived.Test.YtmmaondenopnpaaF80
import Derived.Test.YtmmaondenopnpaaF81
import Derived.Test.YtmmaondenopnpaaF85
import Derived.Test.YtmmaondenopnpaaF87
import Derived.Test.YtmmaondenopnpaaF88
import Derived.Test.YtmmaondenopnpaaF89
import Derived.Test.YtmmaondenopnpaaQBase
import Derived.Test.YtmmaondenopnpaaQScan
import Derived.Test.YtmmaondenopnpaaQSame
import Derived.Test.YtmmaondenopnpaaQNames
namespace Go.Proofs.Ytmmaondenopnpaa.Print
open Go.RowKit Go.Proofs.YtmmaondenopnpaaV.PrintWords Go.Proofs.YtmmaondenopnpaaV.PrintLast Go.Proofs.YtmmaondenopnpaaV.PrintMore
set_option linter.unusedVariables false
set_option linter.unusedSimpArgs false
/-- Each byte of a plain text. -/
def plainStep {ρ : Type} (no : ρ) (s : ByteArray) (i : Nat) : Option ρ := if (bt s (i : Int)) < 32 then some no else if (bt s (i : Int)) > 126 then some no else if (bt s (i : Int)) = 34 then some no else if (bt s (i : Int)) = 92 then some no else none
def plainOk (s : ByteArray) : Bool := decide ((s.size : Int) ≤ 12) && scan (plainStep false s) true s.size 0
theorem plainStep_false (s : ByteArray) (i : Nat) (r : Bool) (h : plainStep false s i = some r) : r = false := by
  unfold plainStep at h
  repeat (split at h; (injection h with h; exact h.symm))
  cases h
theorem implPlainOk_ev (s : ByteArray) (h : s.size < 4611686018427387904) : Ev (fun k => impl_PlainOk.f k s) (plainOk s) := by
  unfold impl_PlainOk.f plainOk
  by_cases hc : (s.size : Int) > 12
  · simp only [if_pos hc, decide_eq_false (show ¬ (s.size : Int) ≤ 12 by omega), Bool.false_and]; exact Ev.now _
  · simp only [if_neg hc, decide_eq_true (show (s.size : Int) ≤ 12 by omega), Bool.true_and]
    refine scan_ev (F := fun k i => impl_PlainOk.l0 k s i) (n := s.size) (fun k => ?_) (fun i hi => ⟨0, fun k _ => ?_⟩) s.size 0 (by omega)
    · simp only [impl_PlainOk.l0]; rw [if_neg (by omega)]
    · simp only [impl_PlainOk.l0, plainStep]
      rw [if_pos (by omega), if_pos (by omega), wrap_up i (by omega)]
      repeat (split; rfl)
      rfl
theorem specPlainOk_ev (s : ByteArray) (h : s.size < 4611686018427387904) : Ev (fun k => spec_PlainOk.f k s) (plainOk s) := by
  unfold spec_PlainOk.f plainOk
  rw [← scan_end (plainStep_false s)]
  refine scan_ev (F := fun k i => spec_PlainOk.l0 k s i) (n := s.size) (fun k => ?_) (fun i hi => ⟨0, fun k _ => ?_⟩) s.size 0 (by omega)
  · simp only [spec_PlainOk.l0]; rw [if_neg (by omega)]
  · simp only [spec_PlainOk.l0, plainStep]
    rw [if_pos (by omega), if_pos (by omega), wrap_up i (by omega)]
    repeat (split; rfl)
    rfl
def labelOk (x : S116) : Bool := nameOk x.f0 && plainOk x.f1
theorem implLabelOk_ev (x : S116) (h : WiLabel x) : Ev (fun k => impl_LabelOk.f k x.f0 x.f1) (labelOk x) := by
  have h1 := h.1
  have h2 := h.2
  obtain ⟨K1, g1⟩ := implNameOk_ev x.f0 (by omega)
  obtain ⟨K2, g2⟩ := implPlainOk_ev x.f1 (by omega)
  refine ⟨K1 + K2, fun k hk => ?_⟩
  have e1 := g1 k (by omega)
  have e2 := g2 k (by omega)
  simp only at e1 e2
  simp only [impl_LabelOk.f, e1, e2, Option.bind_some, labelOk]
  cases nameOk x.f0 <;> simp
theorem specLabelOk_ev (x : S116) (h : WiLabel x) : Ev (fun k => spec_LabelOk.f k x.f0 x.f1) (labelOk x) := by
  have h1 := h.1
  have h2 := h.2
  obtain ⟨K1, g1⟩ := specNameOk_ev x.f0 (by omega)
  obtain ⟨K2, g2⟩ := specPlainOk_ev x.f1 (by omega)
  refine ⟨K1 + K2, fun k hk => ?_⟩
  have e1 := g1 k (by omega)
  have e2 := g2 k (by omega)
  simp only at e1 e2
  simp only [spec_LabelOk.f, e1, e2, Option.bind_some, labelOk]
  cases nameOk x.f0 <;> simp
/-- Is label i right, behind the one before it? -/
def setBit (l : List S116) (i : Nat) : Bool := labelOk (l.getD i z116) && (decide (i = 0) || Op.bytesLess (l.getD (i - 1) z116).f0.toList (l.getD i z116).f0.toList)
def setStep (l : List S116) (i : Nat) : Option Bool := if setBit l i = true then none else some false
def setOk (l : List S116) : Bool := decide ((l.length : Int) ≤ 4) && scan (setStep l) true l.length 0
theorem setStep_false (l : List S116) (i : Nat) (r : Bool) (h : setStep l i = some r) : r = false := by
  unfold setStep at h
  split at h
  · cases h
  · injection h with h; exact h.symm
theorem scan_stop {step : Nat → Option Bool} (hf : ∀ i r, step i = some r → r = false) : ∀ d i j, i ≤ j → j < i + d → step j = some false → scan step true d i = false
  | 0, i, j, h1, h2, _ => by omega
  | d + 1, i, j, h1, h2, h3 => by
    unfold scan
    cases hs : step i with
    | some r => exact hf i r hs
    | none =>
      by_cases e : i = j
      · subst e; rw [hs] at h3; cases h3
      · exact scan_stop hf d (i + 1) j (by omega) (by omega) h3
theorem sub1 (i : Nat) (h : 0 < i) (hi : i < 4611686018427387904) : wrap64 ((i : Int) - 1) = ((i - 1 : Nat) : Int) := by rw [wrap_id (by omega) (by omega)]; omega
theorem implSetOk_ev (l : List S116) (h : l.length ≤ 4000000 ∧ ∀ y ∈ l, WiLabel y) : Ev (fun k => impl_SetOk.f k l) (setOk l) := by
  have h1 := h.1
  have hx : setOk l = scan (fun i => if 4 ≤ i then some false else setStep l i) true l.length 0 := by
    unfold setOk
    by_cases h4 : l.length ≤ 4
    · rw [decide_eq_true (show (l.length : Int) ≤ 4 by omega), Bool.true_and]
      exact scan_congr _ _ (fun j _ hj => by rw [if_neg (by omega)])
    · rw [decide_eq_false (show ¬ (l.length : Int) ≤ 4 by omega), Bool.false_and]
      exact (scan_stop (step := fun i => if 4 ≤ i then some false else setStep l i) (fun i r hr => by
        by_cases hi : 4 ≤ i
        · simp only [if_pos hi] at hr; injection hr with hr; exact hr.symm
        · simp only [if_neg hi] at hr; exact setStep_false l i r hr) l.length 0 4 (by omega) (by omega) (by simp)).symm
  rw [hx]
  unfold impl_SetOk.f
  refine scan_ev (F := fun k i => impl_SetOk.l0 k l l (l.length : Int) i) (n := l.length) (fun k => ?_) (fun i hi => ?_) l.length 0 (by omega)
  · simp only [impl_SetOk.l0]; rw [if_neg (by omega)]
  · obtain ⟨K, g⟩ := implLabelOk_ev (l.getD i z116) (h.2 _ (getD_mem l i _ hi))
    refine ⟨K, fun k hk => ?_⟩
    have e := g k hk
    simp only at e
    simp only [impl_SetOk.l0]
    rw [if_pos (by omega), if_pos (by omega), if_pos (by omega)]
    by_cases h4 : 4 ≤ i
    · rw [if_pos (by omega), if_pos h4]; rfl
    · rw [if_neg (by omega), if_neg h4, rdnLabel, e, Option.bind_some, wrap_up i (by omega)]
      unfold setStep setBit
      cases hl : labelOk (l.getD i z116) with
      | false => simp [goOn]
      | true =>
        by_cases h0 : i = 0
        · subst h0; simp [goOn]
        · rw [if_pos rfl, if_pos (by omega), sub1 i (by omega) (by omega), if_pos (by omega), if_pos (by omega), rdnLabel, decide_eq_false h0]
          cases Op.bytesLess (l.getD (i - 1) z116).f0.toList (l.getD i z116).f0.toList <;> simp [goOn]
theorem specSetOk_ev (l : List S116) (h : l.length ≤ 4000000 ∧ ∀ y ∈ l, WiLabel y) : Ev (fun k => spec_SetOk.f k l) (setOk l) := by
  have h1 := h.1
  unfold spec_SetOk.f setOk
  rw [← scan_end (setStep_false l)]
  refine scan_ev (F := fun k i => spec_SetOk.l0 k l i) (n := l.length) (fun k => ?_) (fun i hi => ?_) l.length 0 (by omega)
  · simp only [spec_SetOk.l0]; rw [if_neg (by omega)]
  · obtain ⟨K, g⟩ := specLabelOk_ev (l.getD i z116) (h.2 _ (getD_mem l i _ hi))
    refine ⟨K, fun k hk => ?_⟩
    have e := g k hk
    simp only at e
    simp only [spec_SetOk.l0, spec_Less.f]
    rw [if_pos (by omega), if_pos (by omega), rdnLabel, e, Option.bind_some, wrap_up i (by omega)]
    unfold setStep setBit
    cases hl : labelOk (l.getD i z116) with
    | false => simp [goOn]
    | true =>
      by_cases h0 : i = 0
      · subst h0; simp [goOn]
      · rw [if_pos rfl, if_pos (by omega), sub1 i (by omega) (by omega), if_pos (by omega), if_pos (by omega), rdnLabel, decide_eq_false h0]
        cases Op.bytesLess (l.getD (i - 1) z116).f0.toList (l.getD i z116).f0.toList <;> simp [goOn]
def alarmOk (x : S57) : Bool := setOk x.f0 && (decide ((x.f0.length : Int) > 0) && ((decide (0 ≤ x.f1) && decide (x.f1 ≤ 99999)) && ((decide (x.f1 ≤ x.f2) && decide (x.f2 ≤ 99999)) && plainOk x.f3)))
theorem implAlarmOk_ev (x : S57) (h : WiAlarm x) : Ev (fun k => impl_AlarmOk.f k x.f0 x.f1 x.f2 x.f3) (alarmOk x) := by
  have h3 := h.2.2.2
  obtain ⟨K1, g1⟩ := implSetOk_ev x.f0 h.1
  obtain ⟨K2, g2⟩ := implPlainOk_ev x.f3 (by omega)
  refine ⟨K1 + K2, fun k hk => ?_⟩
  have e1 := g1 k (by omega)
  have e2 := g2 k (by omega)
  simp only at e1 e2
  simp only [impl_AlarmOk.f, e1, e2, Option.bind_some, alarmOk, inEq]
  by_cases hl : (x.f0.length : Int) > 0
  · rw [if_pos hl, decide_eq_true hl]
    cases setOk x.f0 <;> cases (decide (0 ≤ x.f1) && decide (x.f1 ≤ 99999)) <;> cases (decide (x.f1 ≤ x.f2) && decide (x.f2 ≤ 99999)) <;> simp
  · rw [if_neg hl, decide_eq_false hl]
    cases setOk x.f0 <;> simp
theorem specAlarmOk_ev (x : S57) (h : WiAlarm x) : Ev (fun k => spec_AlarmOk.f k x.f0 x.f1 x.f2 x.f3) (alarmOk x) := by
  have h3 := h.2.2.2
  obtain ⟨K1, g1⟩ := specSetOk_ev x.f0 h.1
  obtain ⟨K2, g2⟩ := specPlainOk_ev x.f3 (by omega)
  refine ⟨K1 + K2, fun k hk => ?_⟩
  have e1 := g1 k (by omega)
  have e2 := g2 k (by omega)
  simp only at e1 e2
  simp only [spec_AlarmOk.f, e1, e2, Option.bind_some, alarmOk, l1InEq]
  by_cases hl : (x.f0.length : Int) > 0
  · rw [if_pos hl, decide_eq_true hl]
    cases setOk x.f0 <;> cases (decide (0 ≤ x.f1) && decide (x.f1 ≤ 99999)) <;> cases (decide (x.f1 ≤ x.f2) && decide (x.f2 ≤ 99999)) <;> simp
  · rw [if_neg hl, decide_eq_false hl]
    cases setOk x.f0 <;> simp

end Go.Proofs.Ytmmaondenopnpaa.Print
