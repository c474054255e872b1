import Derived.Test.YticgekgojgkbgaaMFnExactHomeOf1
import Derived.Test.YticgekgojgkbgaaMFnExactHomeOf2
import Derived.Test.YticgekgojgkbgaaMFnExactHomeOf3
section
namespace Go.Proofs.Yticgekgojgkbgaa.Print
open Go.RowKit Go.Proofs.YticgekgojgkbgaaV.PrintWords Go.Proofs.YticgekgojgkbgaaV.PrintLast Go.Proofs.YticgekgojgkbgaaV.PrintMore
set_option linter.unusedVariables false
set_option linter.unusedSimpArgs false
/-- Each byte of a plain text. -/
def plainStep {ρ : Type} (no : ρ) (s : ByteArray) (i : Nat) : Option ρ := if (bt s (i : Int)) < 32 then some no else if (bt s (i : Int)) > 126 then some no else if (bt s (i : Int)) = 34 then some no else if (bt s (i : Int)) = 92 then some no else none
def plainOk (s : ByteArray) : Bool := decide ((s.size : Int) ≤ 12) && scan (plainStep false s) true s.size 0
theorem plainStep_false (s : ByteArray) (i : Nat) (r : Bool) (h : plainStep false s i = some r) : r = false := by
  unfold plainStep at h
  repeat (split at h; (injection h with h; exact h.symm))
  cases h
theorem implPlainOk_ev (s : ByteArray) (h : s.size < 4611686018427387904) : Ev (fun k => impl_PlainOk.f k s) (plainOk s) := by
  unfold impl_PlainOk.f plainOk
  by_cases hc : (s.size : Int) > 12
  · simp only [if_pos hc, decide_eq_false (show ¬ (s.size : Int) ≤ 12 by omega), Bool.false_and]; exact Ev.now _
  · simp only [if_neg hc, decide_eq_true (show (s.size : Int) ≤ 12 by omega), Bool.true_and]
    refine scan_ev (F := fun k i => impl_PlainOk.l0 k s i) (n := s.size) (fun k => ?_) (fun i hi => ⟨0, fun k _ => ?_⟩) s.size 0 (by omega)
    · simp only [impl_PlainOk.l0]; rw [if_neg (by omega)]
    · simp only [impl_PlainOk.l0, plainStep]
      rw [if_pos (by omega), if_pos (by omega), wrap_up i (by omega)]
      repeat (split; rfl)
      rfl
theorem specPlainOk_ev (s : ByteArray) (h : s.size < 4611686018427387904) : Ev (fun k => spec_PlainOk.f k s) (plainOk s) := by
  unfold spec_PlainOk.f plainOk
  rw [← scan_end (plainStep_false s)]
  refine scan_ev (F := fun k i => spec_PlainOk.l0 k s i) (n := s.size) (fun k => ?_) (fun i hi => ⟨0, fun k _ => ?_⟩) s.size 0 (by omega)
  · simp only [spec_PlainOk.l0]; rw [if_neg (by omega)]
  · simp only [spec_PlainOk.l0, plainStep]
    rw [if_pos (by omega), if_pos (by omega), wrap_up i (by omega)]
    repeat (split; rfl)
    rfl
def labelOk (x : S88) : Bool := nameOk x.f0 && plainOk x.f1
theorem implLabelOk_ev (x : S88) (h : WiLabel x) : Ev (fun k => impl_LabelOk.f k x.f0 x.f1) (labelOk x) := by
  have h1 := h.1
  have h2 := h.2
  obtain ⟨K1, g1⟩ := implNameOk_ev x.f0 (by omega)
  obtain ⟨K2, g2⟩ := implPlainOk_ev x.f1 (by omega)
  refine ⟨K1 + K2, fun k hk => ?_⟩
  have e1 := g1 k (by omega)
  have e2 := g2 k (by omega)
  simp only at e1 e2
  simp only [impl_LabelOk.f, e1, e2, Option.bind_some, labelOk]
  cases nameOk x.f0 <;> simp
theorem specLabelOk_ev (x : S88) (h : WiLabel x) : Ev (fun k => spec_LabelOk.f k x.f0 x.f1) (labelOk x) := by
  have h1 := h.1
  have h2 := h.2
  obtain ⟨K1, g1⟩ := specNameOk_ev x.f0 (by omega)
  obtain ⟨K2, g2⟩ := specPlainOk_ev x.f1 (by omega)
  refine ⟨K1 + K2, fun k hk => ?_⟩
  have e1 := g1 k (by omega)
  have e2 := g2 k (by omega)
  simp only at e1 e2
  simp only [spec_LabelOk.f, e1, e2, Option.bind_some, labelOk]
  cases nameOk x.f0 <;> simp
/-- Is label i right, behind the one before it? -/
def setBit (l : List S88) (i : Nat) : Bool := labelOk (l.getD i z88) && (decide (i = 0) || Op.bytesLess (l.getD (i - 1) z88).f0.toList (l.getD i z88).f0.toList)
def setStep (l : List S88) (i : Nat) : Option Bool := if setBit l i = true then none else some false
def setOk (l : List S88) : Bool := decide ((l.length : Int) ≤ 4) && scan (setStep l) true l.length 0
theorem setStep_false (l : List S88) (i : Nat) (r : Bool) (h : setStep l i = some r) : r = false := by
  unfold setStep at h
  split at h
  · cases h
  · injection h with h; exact h.symm
theorem scan_stop {step : Nat → Option Bool} (hf : ∀ i r, step i = some r → r = false) : ∀ d i j, i ≤ j → j < i + d → step j = some false → scan step true d i = false
  | 0, i, j, h1, h2, _ => by omega
  | d + 1, i, j, h1, h2, h3 => by
    unfold scan
    cases hs : step i with
    | some r => exact hf i r hs
    | none =>
      by_cases e : i = j
      · subst e; rw [hs] at h3; cases h3
      · exact scan_stop hf d (i + 1) j (by omega) (by omega) h3
theorem sub1 (i : Nat) (h : 0 < i) (hi : i < 4611686018427387904) : wrap64 ((i : Int) - 1) = ((i - 1 : Nat) : Int) := by rw [wrap_id (by omega) (by omega)]; omega
theorem implSetOk_ev (l : List S88) (h : l.length ≤ 4000000 ∧ ∀ y ∈ l, WiLabel y) : Ev (fun k => impl_SetOk.f k l) (setOk l) := by
  have h1 := h.1
  have hx : setOk l = scan (fun i => if 4 ≤ i then some false else setStep l i) true l.length 0 := by
    unfold setOk
    by_cases h4 : l.length ≤ 4
    · rw [decide_eq_true (show (l.length : Int) ≤ 4 by omega), Bool.true_and]
      exact scan_congr _ _ (fun j _ hj => by rw [if_neg (by omega)])
    · rw [decide_eq_false (show ¬ (l.length : Int) ≤ 4 by omega), Bool.false_and]
      exact (scan_stop (step := fun i => if 4 ≤ i then some false else setStep l i) (fun i r hr => by
        by_cases hi : 4 ≤ i
        · simp only [if_pos hi] at hr; injection hr with hr; exact hr.symm
        · simp only [if_neg hi] at hr; exact setStep_false l i r hr) l.length 0 4 (by omega) (by omega) (by simp)).symm
  rw [hx]
  unfold impl_SetOk.f
  refine scan_ev (F := fun k i => impl_SetOk.l0 k l l (l.length : Int) i) (n := l.length) (fun k => ?_) (fun i hi => ?_) l.length 0 (by omega)
  · simp only [impl_SetOk.l0]; rw [if_neg (by omega)]
  · obtain ⟨K, g⟩ := implLabelOk_ev (l.getD i z88) (h.2 _ (getD_mem l i _ hi))
    refine ⟨K, fun k hk => ?_⟩
    have e := g k hk
    simp only at e
    simp only [impl_SetOk.l0]
    rw [if_pos (by omega), if_pos (by omega), if_pos (by omega)]
    by_cases h4 : 4 ≤ i
    · rw [if_pos (by omega), if_pos h4]; rfl
    · rw [if_neg (by omega), if_neg h4, rdnLabel, e, Option.bind_some, wrap_up i (by omega)]
      unfold setStep setBit
      cases hl : labelOk (l.getD i z88) with
      | false => simp [goOn]
      | true =>
        by_cases h0 : i = 0
        · subst h0; simp [goOn]
        · rw [if_pos rfl, if_pos (by omega), sub1 i (by omega) (by omega), if_pos (by omega), if_pos (by omega), rdnLabel, decide_eq_false h0]
          cases Op.bytesLess (l.getD (i - 1) z88).f0.toList (l.getD i z88).f0.toList <;> simp [goOn]
theorem specSetOk_ev (l : List S88) (h : l.length ≤ 4000000 ∧ ∀ y ∈ l, WiLabel y) : Ev (fun k => spec_SetOk.f k l) (setOk l) := by
  have h1 := h.1
  unfold spec_SetOk.f setOk
  rw [← scan_end (setStep_false l)]
  refine scan_ev (F := fun k i => spec_SetOk.l0 k l i) (n := l.length) (fun k => ?_) (fun i hi => ?_) l.length 0 (by omega)
  · simp only [spec_SetOk.l0]; rw [if_neg (by omega)]
  · obtain ⟨K, g⟩ := specLabelOk_ev (l.getD i z88) (h.2 _ (getD_mem l i _ hi))
    refine ⟨K, fun k hk => ?_⟩
    have e := g k hk
    simp only at e
    simp only [spec_SetOk.l0, spec_Less.f]
    rw [if_pos (by omega), if_pos (by omega), rdnLabel, e, Option.bind_some, wrap_up i (by omega)]
    unfold setStep setBit
    cases hl : labelOk (l.getD i z88) with
    | false => simp [goOn]
    | true =>
      by_cases h0 : i = 0
      · subst h0; simp [goOn]
      · rw [if_pos rfl, if_pos (by omega), sub1 i (by omega) (by omega), if_pos (by omega), if_pos (by omega), rdnLabel, decide_eq_false h0]
        cases Op.bytesLess (l.getD (i - 1) z88).f0.toList (l.getD i z88).f0.toList <;> simp [goOn]
def alarmOk (x : S43) : Bool := setOk x.f0 && (decide ((x.f0.length : Int) > 0) && ((decide (0 ≤ x.f1) && decide (x.f1 ≤ 99999)) && ((decide (x.f1 ≤ x.f2) && decide (x.f2 ≤ 99999)) && plainOk x.f3)))
theorem implAlarmOk_ev (x : S43) (h : WiAlarm x) : Ev (fun k => impl_AlarmOk.f k x.f0 x.f1 x.f2 x.f3) (alarmOk x) := by
  have h3 := h.2.2.2
  obtain ⟨K1, g1⟩ := implSetOk_ev x.f0 h.1
  obtain ⟨K2, g2⟩ := implPlainOk_ev x.f3 (by omega)
  refine ⟨K1 + K2, fun k hk => ?_⟩
  have e1 := g1 k (by omega)
  have e2 := g2 k (by omega)
  simp only at e1 e2
  simp only [impl_AlarmOk.f, e1, e2, Option.bind_some, alarmOk, inEq]
  by_cases hl : (x.f0.length : Int) > 0
  · rw [if_pos hl, decide_eq_true hl]
    cases setOk x.f0 <;> cases (decide (0 ≤ x.f1) && decide (x.f1 ≤ 99999)) <;> cases (decide (x.f1 ≤ x.f2) && decide (x.f2 ≤ 99999)) <;> simp
  · rw [if_neg hl, decide_eq_false hl]
    cases setOk x.f0 <;> simp
theorem specAlarmOk_ev (x : S43) (h : WiAlarm x) : Ev (fun k => spec_AlarmOk.f k x.f0 x.f1 x.f2 x.f3) (alarmOk x) := by
  have h3 := h.2.2.2
  obtain ⟨K1, g1⟩ := specSetOk_ev x.f0 h.1
  obtain ⟨K2, g2⟩ := specPlainOk_ev x.f3 (by omega)
  refine ⟨K1 + K2, fun k hk => ?_⟩
  have e1 := g1 k (by omega)
  have e2 := g2 k (by omega)
  simp only at e1 e2
  simp only [spec_AlarmOk.f, e1, e2, Option.bind_some, alarmOk, l1InEq]
  by_cases hl : (x.f0.length : Int) > 0
  · rw [if_pos hl, decide_eq_true hl]
    cases setOk x.f0 <;> cases (decide (0 ≤ x.f1) && decide (x.f1 ≤ 99999)) <;> cases (decide (x.f1 ≤ x.f2) && decide (x.f2 ≤ 99999)) <;> simp
  · rw [if_neg hl, decide_eq_false hl]
    cases setOk x.f0 <;> simp

end Go.Proofs.Yticgekgojgkbgaa.Print
end
section
namespace Go.Proofs.Yticgekgojgkbgaa.Print
open Go.RowKit Go.Proofs.YticgekgojgkbgaaV.PrintWords Go.Proofs.YticgekgojgkbgaaV.PrintLast Go.Proofs.YticgekgojgkbgaaV.PrintMore
set_option linter.unusedVariables false
set_option linter.unusedSimpArgs false
def labL (x : S88) : List UInt8 := x.f0.data.toList ++ [61, 34] ++ x.f1.data.toList ++ [34]
def setTail : Bool → List S88 → List UInt8
  | _, [] => []
  | first, x :: r => (if first then [] else [44, 32]) ++ labL x ++ setTail false r
def setText (l : List S88) : ByteArray := if setOk l = true then ⟨([123] ++ setTail true l ++ [125]).toArray⟩ else ⟨#[]⟩
theorem ba_ext {a b : ByteArray} (h : a.data.toList = b.data.toList) : a = b := by
  cases a; cases b
  simp only at h
  rw [Array.toList_inj.1 h]
theorem ba_app (a b : ByteArray) : (a ++ b).data.toList = a.data.toList ++ b.data.toList := by simp [ByteArray.data_append]
theorem ba_len (a : ByteArray) : a.size = a.data.toList.length := rfl
theorem ba_szapp (a b : ByteArray) : (a ++ b).size = a.size + b.size := by rw [ba_len, ba_app, List.length_append, ← ba_len, ← ba_len]
theorem setOk_len (l : List S88) (h : setOk l = true) : l.length ≤ 4 := by
  unfold setOk at h
  rw [Bool.and_eq_true] at h
  have := of_decide_eq_true h.1
  omega
theorem sz2 : (⟨#[44, 32]⟩ : ByteArray).size = 2 := rfl
theorem sz2' : (⟨#[61, 34]⟩ : ByteArray).size = 2 := rfl
theorem sz1 : (⟨#[34]⟩ : ByteArray).size = 1 := rfl
theorem sz1b : (⟨#[125]⟩ : ByteArray).size = 1 := rfl
theorem sz1a : (⟨#[123]⟩ : ByteArray).size = 1 := rfl
theorem specText_go : ∀ (suf pre : List S88) (acc : ByteArray), pre.length + suf.length ≤ 4 → (∀ y ∈ suf, WiLabel y) → acc.size ≤ 1 + pre.length * 10000000 →
    Ev (fun k => spec_SetText.l0 k (pre ++ suf) acc (pre.length : Int)) ⟨(acc.data.toList ++ setTail (decide (pre.length = 0)) suf ++ [125]).toArray⟩
  | [], pre, acc, h1, h2, h3 => by
    refine ⟨1, fun k hk => ?_⟩
    obtain ⟨m, rfl⟩ : ∃ m, k = m + 1 := ⟨k - 1, by omega⟩
    simp only [spec_SetText.l0]
    rw [if_neg (not_lt_end pre), if_pos (by simp only [List.length_nil] at h1; omega)]
    refine congrArg some (ba_ext ?_)
    rw [ba_app]
    simp [setTail]
  | y :: suf, pre, acc, h1, h2, h3 => by
    simp only [List.length_cons] at h1
    have hy := h2 y List.mem_cons_self
    have hy0 := hy.1
    have hy1 := hy.2
    have ih := fun a ha => specText_go suf (pre ++ [y]) a (by simp only [List.length_append, List.length_singleton]; omega) (fun z hz => h2 z (List.mem_cons_of_mem _ hz)) ha
    simp only [List.append_assoc, List.singleton_append, List.length_append, List.length_singleton] at ih
    by_cases hp : pre.length = 0
    · obtain ⟨K, hK⟩ := ih ((((acc ++ y.f0) ++ (⟨#[61, 34]⟩ : ByteArray)) ++ y.f1) ++ (⟨#[34]⟩ : ByteArray)) (by simp only [ba_szapp, sz2', sz1]; omega)
      refine ⟨K + 1, fun k hk => ?_⟩
      obtain ⟨m, rfl⟩ : ∃ m, k = m + 1 := ⟨k - 1, by omega⟩
      have e := hK m (by omega)
      simp only at e
      simp only [spec_SetText.l0, rdmidLabeli]
      rw [if_pos (lt_mid pre suf y), if_neg (by omega), if_pos (by omega), if_pos (by omega), if_pos (by simp only [ba_szapp]; omega), if_pos (by simp only [ba_szapp, sz2']; omega), if_pos (by simp only [ba_szapp, sz2']; omega), wrap_up pre.length (by omega), e]
      refine congrArg some (ba_ext ?_)
      simp only [ba_app, setTail, labL, hp, decide_true, if_true, List.nil_append, List.append_assoc]
      simp [setTail]
    · obtain ⟨K, hK⟩ := ih (((((acc ++ (⟨#[44, 32]⟩ : ByteArray)) ++ y.f0) ++ (⟨#[61, 34]⟩ : ByteArray)) ++ y.f1) ++ (⟨#[34]⟩ : ByteArray)) (by simp only [ba_szapp, sz2', sz2, sz1]; omega)
      refine ⟨K + 1, fun k hk => ?_⟩
      obtain ⟨m, rfl⟩ : ∃ m, k = m + 1 := ⟨k - 1, by omega⟩
      have e := hK m (by omega)
      simp only at e
      simp only [spec_SetText.l0, rdmidLabeli]
      rw [if_pos (lt_mid pre suf y), if_pos (by omega), if_pos (by omega), if_pos (by omega), if_pos (by simp only [ba_szapp, sz2]; omega), if_pos (by simp only [ba_szapp, sz2]; omega), if_pos (by simp only [ba_szapp, sz2, sz2']; omega), if_pos (by simp only [ba_szapp, sz2, sz2']; omega), wrap_up pre.length (by omega), e]
      refine congrArg some (ba_ext ?_)
      simp only [ba_app, setTail, labL, decide_eq_false hp, if_false, List.append_assoc]
      simp [setTail]
theorem specSetText_ev (l : List S88) (h : l.length ≤ 4000000 ∧ ∀ y ∈ l, WiLabel y) : Ev (fun k => spec_SetText.f k l) (setText l) := by
  obtain ⟨K, hK⟩ := specSetOk_ev l h
  by_cases ho : setOk l = true
  · have hl := setOk_len l ho
    obtain ⟨K', hK'⟩ := specText_go l [] (⟨#[123]⟩ : ByteArray) (by simp; omega) h.2 (by simp [sz1a])
    refine ⟨K + K', fun k hk => ?_⟩
    have e := hK k (by omega)
    have e' := hK' k (by omega)
    simp only at e
    simp only [List.nil_append, List.length_nil] at e'
    simp only [spec_SetText.f, e, Option.bind_some, ho, if_true, setText]
    exact e'
  · refine ⟨K, fun k hk => ?_⟩
    have e := hK k hk
    simp only at e
    simp [spec_SetText.f, e, ho, setText]
/-- The parts, each a text. -/
def partB (x : S88) : ByteArray := ((x.f0 ++ (⟨#[61, 34]⟩ : ByteArray)) ++ x.f1) ++ (⟨#[34]⟩ : ByteArray)
theorem partB_l (x : S88) : (partB x).data.toList = labL x := by simp [partB, labL, ba_app]
theorem tail_join : ∀ l : List S88, Lib.joinTail [44, 32] ((l.map partB).map (·.data.toList)) = setTail false l
  | [] => rfl
  | x :: r => by
    have ih := tail_join r
    unfold Lib.joinTail at ih ⊢
    simp only [List.map_cons, List.flatten_cons, setTail, ih, partB_l]
    simp
theorem all_join (l : List S88) : Lib.join ((l.map partB).map (·.data.toList)) [44, 32] = setTail true l := by
  cases l with
  | nil => rfl
  | cons x r =>
    have := tail_join r
    simp only [List.map_cons, Lib.join_cons, setTail, this, partB_l]
    simp
theorem setTail_len : ∀ (b : Bool) (l : List S88), (∀ y ∈ l, WiLabel y) → (setTail b l).length ≤ l.length * 10000000
  | _, [], _ => by simp [setTail]
  | b, x :: r, h => by
    have ih := setTail_len false r (fun y hy => h y (List.mem_cons_of_mem _ hy))
    have h0 := h x List.mem_cons_self
    have h1 := h0.1
    have h2 := h0.2
    have e1 : x.f0.data.toList.length = x.f0.size := rfl
    have e2 : x.f1.data.toList.length = x.f1.size := rfl
    cases b
    · simp only [setTail, labL, List.length_append, List.length_cons, List.length_nil, e1, e2, Bool.false_eq_true, if_false]; omega
    · simp only [setTail, labL, List.length_append, List.length_cons, List.length_nil, e1, e2, if_true]; omega
theorem implText_go (l : List S88) (hl : l.length ≤ 4) (hw : ∀ y ∈ l, WiLabel y) : ∀ (suf pre : List S88), pre ++ suf = l →
    Ev (fun k => impl_SetText.l0 k (pre.map partB) l (l.length : Int) (pre.length : Int)) ⟨([123] ++ setTail true l ++ [125]).toArray⟩
  | [], pre, h => by
    refine ⟨1, fun k hk => ?_⟩
    obtain ⟨m, rfl⟩ : ∃ m, k = m + 1 := ⟨k - 1, by omega⟩
    rw [List.append_nil] at h
    subst h
    have hj := all_join pre
    have ht := setTail_len true pre hw
    have hs : strings_Join.f (pre.map partB) (⟨#[44, 32]⟩ : ByteArray) = some ⟨(setTail true pre).toArray⟩ := by
      unfold strings_Join.f
      rw [show (⟨#[44, 32]⟩ : ByteArray).data.toList = [44, 32] from rfl, hj, List.length_map, if_pos ⟨by omega, by omega⟩]
    have hz : (⟨(setTail true pre).toArray⟩ : ByteArray).size = (setTail true pre).length := by simp [ByteArray.size]
    simp only [impl_SetText.l0]
    rw [if_neg (by omega), hs, Option.bind_some, if_pos (by rw [hz]; omega), if_pos (by rw [ba_szapp, hz, sz1a]; omega)]
    refine congrArg some (ba_ext ?_)
    simp [ba_app]
  | y :: suf, pre, h => by
    obtain ⟨K, hK⟩ := implText_go l hl hw suf (pre ++ [y]) (by rw [← h]; simp)
    have hy := hw y (by rw [← h]; simp)
    have hy0 := hy.1
    have hy1 := hy.2
    have hlen : pre.length < l.length := by rw [← h]; simp
    refine ⟨K + 1, fun k hk => ?_⟩
    obtain ⟨m, rfl⟩ : ∃ m, k = m + 1 := ⟨k - 1, by omega⟩
    have e := hK m (by omega)
    simp only [List.map_append, List.map_cons, List.map_nil, List.length_append, List.length_singleton] at e
    have hr : rd_T88 l (pre.length : Int) = y := by rw [← h]; exact rdmidLabeli pre suf y
    simp only [impl_SetText.l0, hr]
    rw [if_pos (by omega), if_pos (by omega), if_pos (by omega), if_pos (by omega), if_pos (by simp only [ba_szapp, sz2']; omega), if_pos (by simp only [ba_szapp, sz2']; omega), if_pos (by rw [List.length_map]; omega), wrap_up pre.length (by omega)]
    exact e
theorem implSetText_ev (l : List S88) (h : l.length ≤ 4000000 ∧ ∀ y ∈ l, WiLabel y) : Ev (fun k => impl_SetText.f k l) (setText l) := by
  obtain ⟨K, hK⟩ := implSetOk_ev l h
  by_cases ho : setOk l = true
  · have hl := setOk_len l ho
    obtain ⟨K', hK'⟩ := implText_go l hl h.2 l [] rfl
    refine ⟨K + K', fun k hk => ?_⟩
    have e := hK k (by omega)
    have e' := hK' k (by omega)
    simp only at e
    simp only [List.map_nil, List.length_nil] at e'
    simp only [impl_SetText.f, e, Option.bind_some, ho, if_true, setText]
    exact e'
  · refine ⟨K, fun k hk => ?_⟩
    have e := hK k hk
    simp only at e
    simp [impl_SetText.f, e, ho, setText]
theorem setText_sz (l : List S88) (h : l.length ≤ 4000000 ∧ ∀ y ∈ l, WiLabel y) : (setText l).size < 4611686018427387904 := by
  unfold setText
  split
  · have := setTail_len true l h.2
    have h1 := h.1
    rw [ba_len]
    simp only [List.length_append, List.length_singleton]
    omega
  · simp [ByteArray.size]
/-- A sum's step. -/
def sumStep (n b : Int) : Int := ((Go.bits .xor .u32 n b) * 16777619) % 4294967296
def sumGo (s : ByteArray) : Nat → Nat → Int → Int
  | 0, _, n => n
  | d + 1, i, n => sumGo s d (i + 1) (sumStep n (bt s (i : Int)))
theorem xor_nat (k : IntKind) (j : Nat) (hj : j ≤ k.bits) (hk : ∀ n : Int, 0 ≤ n → n < 2 ^ j → k.wrap n = n) (a b : Nat) (ha : a < 2 ^ j) (hb : b < 2 ^ j) :
    Go.bits .xor k a b = ((a ^^^ b : Nat) : Int) := by
  have hp : 2 ^ j ≤ 2 ^ k.bits := Nat.pow_le_pow_right (by decide) hj
  have ha' : a % 2 ^ k.bits = a := Nat.mod_eq_of_lt (Nat.lt_of_lt_of_le ha hp)
  have hb' : b % 2 ^ k.bits = b := Nat.mod_eq_of_lt (Nat.lt_of_lt_of_le hb hp)
  have cast : ∀ n : Nat, n < 2 ^ j → ((n : Nat) : Int) < 2 ^ j := fun n h => by exact_mod_cast h
  simp only [Go.bits, BitVec.ofInt_natCast, BitVec.toNat_xor, BitVec.toNat_ofNat, ha', hb']
  exact hk _ (Int.natCast_nonneg _) (cast _ (Nat.xor_lt_two_pow ha hb))
theorem xor_both (n b : Int) (h0 : 0 ≤ n) (h1 : n < 4294967296) (h2 : 0 ≤ b) (h3 : b ≤ 255) : ∃ X : Nat, X < 4294967296 ∧ Go.bits .xor .u32 n b = (X : Int) ∧ Go.bits .xor .i64 n b = (X : Int) := by
  obtain ⟨a, rfl⟩ := Int.eq_ofNat_of_zero_le h0
  obtain ⟨c, rfl⟩ := Int.eq_ofNat_of_zero_le h2
  have ha : a < 2 ^ 32 := by omega
  have hc : c < 2 ^ 32 := by omega
  refine ⟨a ^^^ c, Nat.xor_lt_two_pow ha hc, ?_, ?_⟩
  · exact xor_nat .u32 32 (by decide) (fun n h h' => by rw [IntKind.wrap_u32]; omega) a c ha hc
  · exact xor_nat .i64 32 (by decide) (fun n h h' => by rw [IntKind.wrap_i64]; omega) a c ha hc
theorem sumStep_range (n b : Int) : 0 ≤ sumStep n b ∧ sumStep n b < 4294967296 := by unfold sumStep; omega
theorem step_spec (n b : Int) (h0 : 0 ≤ n) (h1 : n < 4294967296) (h2 : 0 ≤ b) (h3 : b ≤ 255) :
    Go.bits .and .i64 (wrap64 ((Go.bits .xor .i64 n (wrap64 b)) * 16777619)) 4294967295 = sumStep n b := by
  obtain ⟨X, hX, e1, e2⟩ := xor_both n b h0 h1 h2 h3
  unfold sumStep
  rw [wrap_id (x := b) (by omega) (by omega), e1, e2, wrap_id (by omega) (by omega)]
  exact bits_mask .i64 62 (by decide) (fun n h h' => by rw [IntKind.wrap_i64]; omega) 32 (by decide) _ (by omega) (by omega)
theorem step_impl (n b : Int) (h2 : 0 ≤ b) (h3 : b ≤ 255) : ((Go.bits .xor .u32 n (b % 4294967296)) * 16777619) % 4294967296 = sumStep n b := by
  rw [Int.emod_eq_of_lt h2 (by omega)]; rfl
theorem implSum_go (s : ByteArray) (h : s.size < 4611686018427387904) : ∀ d i n, d + i = s.size → 0 ≤ n → n < 4294967296 → Ev (fun k => impl_Sum.l0 k s n (i : Int)) (sumGo s d i n)
  | 0, i, n, hd, h0, h1 => by
    refine ⟨1, fun k hk => ?_⟩
    obtain ⟨m, rfl⟩ : ∃ m, k = m + 1 := ⟨k - 1, by omega⟩
    simp only [impl_Sum.l0, sumGo]
    rw [if_neg (by omega), wrap_id (by omega) (by omega)]
  | d + 1, i, n, hd, h0, h1 => by
    have hr := sumStep_range n (bt s (i : Int))
    obtain ⟨K, hK⟩ := implSum_go s h d (i + 1) (sumStep n (bt s (i : Int))) (by omega) hr.1 hr.2
    refine ⟨K + 1, fun k hk => ?_⟩
    obtain ⟨m, rfl⟩ : ∃ m, k = m + 1 := ⟨k - 1, by omega⟩
    have e := hK m (by omega)
    have hb := bt_range s (i : Int)
    simp only [impl_Sum.l0, sumGo]
    rw [if_pos (by omega), if_pos (by omega), step_impl n _ hb.1 hb.2, wrap_up i (by omega)]
    exact e
theorem specSum_go (s : ByteArray) (h : s.size < 4611686018427387904) : ∀ d i n, d + i = s.size → 0 ≤ n → n < 4294967296 → Ev (fun k => spec_Sum.l0 k s n (i : Int)) (sumGo s d i n)
  | 0, i, n, hd, h0, h1 => by
    refine ⟨1, fun k hk => ?_⟩
    obtain ⟨m, rfl⟩ : ∃ m, k = m + 1 := ⟨k - 1, by omega⟩
    simp only [spec_Sum.l0, sumGo]
    rw [if_neg (by omega)]
  | d + 1, i, n, hd, h0, h1 => by
    have hr := sumStep_range n (bt s (i : Int))
    obtain ⟨K, hK⟩ := specSum_go s h d (i + 1) (sumStep n (bt s (i : Int))) (by omega) hr.1 hr.2
    refine ⟨K + 1, fun k hk => ?_⟩
    obtain ⟨m, rfl⟩ : ∃ m, k = m + 1 := ⟨k - 1, by omega⟩
    have e := hK m (by omega)
    have hb := bt_range s (i : Int)
    simp only [spec_Sum.l0, sumGo]
    rw [if_pos (by omega), if_pos (by omega), step_spec n _ h0 h1 hb.1 hb.2, wrap_up i (by omega)]
    exact e
def sumOf (s : ByteArray) : Int := sumGo s s.size 0 2166136261
def fingerOf (l : List S88) : Int := Int.tmod (Go.bits .xor .i64 (sumOf (setText l)) (sumOf (setText l) / 65536)) 32
theorem implFinger_ev (l : List S88) (h : l.length ≤ 4000000 ∧ ∀ y ∈ l, WiLabel y) : Ev (fun k => impl_Finger.f k l) (fingerOf l) := by
  obtain ⟨K, g⟩ := implSetText_ev l h
  obtain ⟨K', g'⟩ := implSum_go (setText l) (setText_sz l h) (setText l).size 0 2166136261 (by omega) (by omega) (by omega)
  refine ⟨K + K', fun k hk => ?_⟩
  have e := g k (by omega)
  have e' := g' k (by omega)
  simp only at e e'
  simp only [impl_Finger.f, impl_Sum.f, e, Option.bind_some, show ((0 : Nat) : Int) = 0 from rfl] at e' ⊢
  rw [e', Option.bind_some]; rfl
theorem specFinger_ev (l : List S88) (h : l.length ≤ 4000000 ∧ ∀ y ∈ l, WiLabel y) : Ev (fun k => spec_Finger.f k l) (fingerOf l) := by
  obtain ⟨K, g⟩ := specSetText_ev l h
  obtain ⟨K', g'⟩ := specSum_go (setText l) (setText_sz l h) (setText l).size 0 2166136261 (by omega) (by omega) (by omega)
  refine ⟨K + K', fun k hk => ?_⟩
  have e := g k (by omega)
  have e' := g' k (by omega)
  simp only at e e'
  simp only [spec_Finger.f, spec_Sum.f, e, Option.bind_some, show ((0 : Nat) : Int) = 0 from rfl] at e' ⊢
  rw [e', Option.bind_some]; rfl
def partOf (a n : Int) : Int := if n < 1 then 0 else if a < 0 then 0 else Int.tmod a n
theorem implPartOf_is (a n : Int) : impl_PartOf.f a n = some (partOf a n) := by
  unfold impl_PartOf.f partOf
  by_cases h : n < 1
  · simp [h]
  · by_cases h2 : a < 0
    · simp [h, h2]
    · simp only [if_neg h, if_neg h2]; rw [if_neg (by omega)]
theorem specPartOf_is (a n : Int) : spec_PartOf.f a n = some (partOf a n) := by
  unfold spec_PartOf.f partOf
  by_cases h : n < 1
  · simp [h]
  · by_cases h2 : a < 0
    · simp [h, h2]
    · simp only [if_neg h, if_neg h2]; rw [if_neg (by omega)]

end Go.Proofs.Yticgekgojgkbgaa.Print
end
section
namespace Go.Proofs.Yticgekgojgkbgaa.Print
open Go.RowKit Go.Proofs.YticgekgojgkbgaaV.PrintWords Go.Proofs.YticgekgojgkbgaaV.PrintLast Go.Proofs.YticgekgojgkbgaaV.PrintMore
set_option linter.unusedVariables false
set_option linter.unusedSimpArgs false
def homeOf (l : List S57) (s : List S88) : Int := partOf (fingerOf s) (l.length : Int)
theorem implHomeOf_ev (l : List S57) (s : List S88) (h : s.length ≤ 4000000 ∧ ∀ y ∈ s, WiLabel y) : Ev (fun k => impl_HomeOf.f k l s) (homeOf l s) := by
  obtain ⟨K, g⟩ := implFinger_ev s h
  refine ⟨K, fun k hk => ?_⟩
  have e := g k hk
  simp only at e
  simp [impl_HomeOf.f, e, implPartOf_is, homeOf]
theorem specHomeOf_ev (l : List S57) (s : List S88) (h : s.length ≤ 4000000 ∧ ∀ y ∈ s, WiLabel y) : Ev (fun k => spec_HomeOf.f k l s) (homeOf l s) := by
  obtain ⟨K, g⟩ := specFinger_ev s h
  refine ⟨K, fun k hk => ?_⟩
  have e := g k hk
  simp only at e
  simp [spec_HomeOf.f, e, specPartOf_is, homeOf]

end Go.Proofs.Yticgekgojgkbgaa.Print
end
section
/- The law FnExactHomeOf answers true for all arguments that can be read: the pure statement, without Go and memory. No condition. -/
namespace Go.Proofs.Yticgekgojgkbgaa.Print
open Go.RowKit Go.Proofs.YticgekgojgkbgaaV.PrintWords Go.Proofs.YticgekgojgkbgaaV.PrintLast Go.Proofs.YticgekgojgkbgaaV.PrintMore
set_option linter.unusedVariables false
set_option linter.unusedSimpArgs false
theorem pure_FnExactHomeOf : laws_FnExactHomeOf.Pure := by
  intro p0 p1 hp0 hp1
  obtain ⟨r0, ⟨K0, g0⟩, le0, w0⟩ := szPartS_ev p0 hp0 1048576 (by omega) (by omega)
  simp only at g0
  by_cases c0 : r0 < 0
  · exact ⟨K0, by simp [laws_FnExactHomeOf.f, g0 (K0) (by omega), c0]⟩
  obtain ⟨r1, ⟨K1, g1⟩, le1, w1⟩ := szLabelS_ev p1 hp1 r0 (by omega) (by omega)
  simp only at g1
  by_cases c1 : r1 < 0
  · exact ⟨K0 + K1, by simp [laws_FnExactHomeOf.f, g0 (K0 + K1) (by omega), c0, g1 (K0 + K1) (by omega), c1]⟩
  obtain ⟨L0, f0⟩ := toPartS_ev p0 (w0 (by omega))
  obtain ⟨L1, f1⟩ := eqPartS_ev (p0.map cvPart) (Wi_mapPart (w0 (by omega)))
  obtain ⟨L2, f2⟩ := toLabelS_ev p1 (w1 (by omega))
  obtain ⟨L3, f3⟩ := eqLabelS_ev (p1.map cvLabel) (Wi_mapLabel (w1 (by omega)))
  obtain ⟨L4, f4⟩ := specHomeOf_ev (p0.map cvPart) (p1.map cvLabel) (Wi_mapLabel (w1 (by omega)))
  obtain ⟨L5, f5⟩ := implHomeOf_ev (p0.map cvPart) (p1.map cvLabel) (Wi_mapLabel (w1 (by omega)))
  have G0 := fun m => g0 (K0 + K1 + L0 + L1 + L2 + L3 + L4 + L5 + m) (by omega)
  have G1 := fun m => g1 (K0 + K1 + L0 + L1 + L2 + L3 + L4 + L5 + m) (by omega)
  have F0 := fun m => f0 (K0 + K1 + L0 + L1 + L2 + L3 + L4 + L5 + m) (by omega)
  have F1 := fun m => f1 (K0 + K1 + L0 + L1 + L2 + L3 + L4 + L5 + m) (by omega)
  have F2 := fun m => f2 (K0 + K1 + L0 + L1 + L2 + L3 + L4 + L5 + m) (by omega)
  have F3 := fun m => f3 (K0 + K1 + L0 + L1 + L2 + L3 + L4 + L5 + m) (by omega)
  have F4 := fun m => f4 (K0 + K1 + L0 + L1 + L2 + L3 + L4 + L5 + m) (by omega)
  have F5 := fun m => f5 (K0 + K1 + L0 + L1 + L2 + L3 + L4 + L5 + m) (by omega)
  simp only at F0 F1 F2 F3 F4 F5
  exact ⟨K0 + K1 + L0 + L1 + L2 + L3 + L4 + L5 + 3, by simp [laws_FnExactHomeOf.f, G0, G1, F0, F1, F2, F3, F4, F5, c0, c1]⟩

end Go.Proofs.Yticgekgojgkbgaa.Print
end
