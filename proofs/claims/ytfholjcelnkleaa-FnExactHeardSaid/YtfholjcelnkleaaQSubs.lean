import Derived.Test.YtfholjcelnkleaaF0
import Derived.Test.YtfholjcelnkleaaF32
import Derived.Test.YtfholjcelnkleaaF33
import Derived.Test.YtfholjcelnkleaaF38
import Derived.Test.YtfholjcelnkleaaF39
import Derived.Test.YtfholjcelnkleaaF50
import Derived.Test.YtfholjcelnkleaaF51
import Derived.Test.YtfholjcelnkleaaF54
import Derived.Test.YtfholjcelnkleaaF55
import Derived.Test.YtfholjcelnkleaaQBase
import Derived.Test.YtfholjcelnkleaaQCopies
import Derived.Test.YtfholjcelnkleaaQFamSub
namespace Go.Proofs.Ytfholjcelnkleaa.Print
open Go.RowKit Go.Proofs.YtfholjcelnkleaaV.PrintWords Go.Proofs.YtfholjcelnkleaaV.PrintLast Go.Proofs.YtfholjcelnkleaaV.PrintMore
set_option linter.unusedVariables false
set_option linter.unusedSimpArgs false
/-- What every row below is at most. -/
def OkAlarms (l : List S44) : Prop := l.length ≤ 5000000 ∧ ∀ y ∈ l, y.f0.length ≤ 5000000
def tell (s : S39) (a : S44) : S39 := if s.f1 = true then s else if (s.f0.length : Int) ≥ 3 then ⟨[], true⟩ else ⟨s.f0 ++ [a], s.f1⟩
theorem implCopySub_ev (s : S39) (h : OkAlarms s.f0) : Ev (fun k => impl_copySub.f k s.f0 s.f1) (s.f0, s.f1) := by
  obtain ⟨K, g⟩ := implCopyAlarms_ev s.f0 h.1 h.2
  exact ⟨K, fun k hk => by simp only [impl_copySub.f, g k hk, Option.bind_some]⟩
theorem specL9Copy_ev (s : S39) (h : OkAlarms s.f0) : Ev (fun k => spec_l9Copy.f k s.f0 s.f1) (s.f0, s.f1) := by
  obtain ⟨K, g⟩ := specL4All_ev s.f0 h.1 h.2
  exact ⟨K, fun k hk => by simp only [spec_l9Copy.f, g k hk, Option.bind_some]⟩
theorem implTell_ev (s : S39) (a : S44) (h : OkAlarms s.f0) (ha : a.f0.length ≤ 5000000) : Ev (fun k => impl_Tell.f k s.f0 s.f1 a.f0 a.f1 a.f2 a.f3) ((tell s a).f0, (tell s a).f1) := by
  obtain ⟨K, g⟩ := implCopySub_ev s h
  have h1 := h.1
  refine ⟨K, fun k hk => ?_⟩
  have e := g k hk
  simp only at e
  simp only [impl_Tell.f, e, Option.bind_some, implCopyAlarm_ev a ha, tell]
  by_cases c : s.f1 = true
  · simp only [if_pos c]
  · simp only [if_neg c]
    by_cases c2 : (s.f0.length : Int) ≥ 3
    · simp only [if_pos c2]
    · simp only [if_neg c2]
      rw [if_pos (by omega)]
theorem specTell_ev (s : S39) (a : S44) (h : OkAlarms s.f0) (ha : a.f0.length ≤ 5000000) : Ev (fun k => spec_Tell.f k s.f0 s.f1 a.f0 a.f1 a.f2 a.f3) ((tell s a).f0, (tell s a).f1) := by
  obtain ⟨K, g⟩ := specL9Copy_ev s h
  have h1 := h.1
  refine ⟨K, fun k hk => ?_⟩
  have e := g k hk
  simp only at e
  simp only [spec_Tell.f, e, Option.bind_some, specL4Copy_ev a ha, tell]
  by_cases c : s.f1 = true
  · simp only [if_pos c]
  · simp only [if_neg c]
    by_cases c2 : (s.f0.length : Int) ≥ 3
    · simp only [if_pos c2]
    · simp only [if_neg c2]
      rw [if_pos (by omega)]
theorem tell_or (s : S39) (a : S44) : (∀ y ∈ (tell s a).f0, y ∈ s.f0 ∨ y = a) ∧ ((tell s a).f0.length ≤ s.f0.length ∨ (tell s a).f0.length ≤ 3) := by
  unfold tell
  split
  · exact ⟨fun y hy => .inl hy, .inl (Nat.le_refl _)⟩
  · split
    · exact ⟨fun y hy => by simp at hy, .inl (by simp)⟩
    · refine ⟨fun y hy => ?_, .inr ?_⟩
      · rcases List.mem_append.1 hy with h | h
        · exact .inl h
        · exact .inr (List.mem_singleton.1 h)
      · simp only [List.length_append, List.length_singleton]; omega
theorem tell_ok {s : S39} {a : S44} (h : OkAlarms s.f0) (ha : a.f0.length ≤ 5000000) : OkAlarms (tell s a).f0 := by
  obtain ⟨h1, h2⟩ := tell_or s a
  refine ⟨by have := h.1; rcases h2 with h2 | h2 <;> omega, fun y hy => ?_⟩
  rcases h1 y hy with h | rfl
  · exact (by assumption : OkAlarms s.f0).2 y h
  · exact ha
def hear (s : S39) : S39 × S44 × Int := if s.f1 = true then (z39, z44, 2) else match s.f0 with
  | [] => (⟨[], s.f1⟩, z44, 0)
  | a :: q => (⟨q, false⟩, a, 1)
theorem implHear_ev (s : S39) (h : OkAlarms s.f0) : Ev (fun k => impl_Hear.f k s.f0 s.f1) ((hear s).1.f0, (hear s).1.f1, (hear s).2.1.f0, (hear s).2.1.f1, (hear s).2.1.f2, (hear s).2.1.f3, (hear s).2.2) := by
  obtain ⟨q, lag⟩ := s
  cases lag with
  | true => exact ⟨0, fun k _ => by simp [impl_Hear.f, hear, z39, z44]⟩
  | false =>
    cases q with
    | nil =>
      obtain ⟨K, g⟩ := implCopySub_ev (⟨[], false⟩ : S39) h
      refine ⟨K, fun k hk => ?_⟩
      have e := g k hk
      simp only at e
      simp [impl_Hear.f, hear, e, z44]
    | cons a q =>
      obtain ⟨K, g⟩ := implCopyAlarms_ev q (by have := h.1; simp only [List.length_cons] at this; omega) (fun y hy => h.2 y (List.mem_cons_of_mem _ hy))
      refine ⟨K, fun k hk => ?_⟩
      have e := g k hk
      simp only at e
      have hr : rd_T44 (a :: q) 0 = a := rfl
      have hl : ¬ (((a :: q).length : Int) = 0) := by simp only [List.length_cons]; omega
      have hl1 : 1 ≤ ((a :: q).length : Int) := by simp only [List.length_cons]; omega
      have hl2 : 0 < ((a :: q).length : Int) := by omega
      simp only [impl_Hear.f, Bool.false_eq_true, if_false, if_neg hl, if_pos hl1, List.drop_succ_cons, List.drop_zero, e, Option.bind_some, if_pos hl2, hr, implCopyAlarm_ev a (h.2 a List.mem_cons_self), hear]
theorem specHear_ev (s : S39) (h : OkAlarms s.f0) : Ev (fun k => spec_Hear.f k s.f0 s.f1) ((hear s).1.f0, (hear s).1.f1, (hear s).2.1.f0, (hear s).2.1.f1, (hear s).2.1.f2, (hear s).2.1.f3, (hear s).2.2) := by
  obtain ⟨q, lag⟩ := s
  cases lag with
  | true => exact ⟨0, fun k _ => by simp [spec_Hear.f, hear, z39, z44]⟩
  | false =>
    cases q with
    | nil => exact ⟨0, fun k hk => by simp [spec_Hear.f, hear, z44]⟩
    | cons a q =>
      obtain ⟨K, g⟩ := specL4All_ev q (by have := h.1; simp only [List.length_cons] at this; omega) (fun y hy => h.2 y (List.mem_cons_of_mem _ hy))
      refine ⟨K, fun k hk => ?_⟩
      have e := g k hk
      simp only at e
      have hr : rd_T44 (a :: q) 0 = a := rfl
      have hl : ¬ (((a :: q).length : Int) = 0) := by simp only [List.length_cons]; omega
      have hl1 : 1 ≤ ((a :: q).length : Int) := by simp only [List.length_cons]; omega
      have hl2 : 0 < ((a :: q).length : Int) := by omega
      simp only [spec_Hear.f, Bool.false_eq_true, if_false, if_neg hl, if_pos hl1, List.drop_succ_cons, List.drop_zero, e, Option.bind_some, if_pos hl2, hr, specL4Copy_ev a (h.2 a List.mem_cons_self), hear]
theorem hear_or (s : S39) : (∀ y ∈ (hear s).1.f0, y ∈ s.f0) ∧ (hear s).1.f0.length ≤ s.f0.length ∧ ((hear s).2.1 ∈ s.f0 ∨ (hear s).2.1 = z44) := by
  obtain ⟨q, lag⟩ := s
  cases lag with
  | true => simp [hear, z39]
  | false =>
    cases q with
    | nil => simp [hear]
    | cons a q => exact ⟨fun y hy => List.mem_cons_of_mem _ hy, by simp [hear], .inl List.mem_cons_self⟩
def heard (l : List S44) (s : S39) : List S44 := if (l.foldl tell s).f1 = true then [] else (l.foldl tell s).f0
theorem implHeard_l0 : ∀ (suf pre : List S44) (s : S39), (pre ++ suf).length ≤ 5000000 → (∀ y ∈ suf, y.f0.length ≤ 5000000) → OkAlarms s.f0 → Ev (fun k => impl_Heard.l0 k (pre ++ suf) ((pre ++ suf).length : Int) (pre.length : Int) s.f0 s.f1) (heard suf s)
  | [], pre, s, h, hW, hs => by
    refine Ev.step (f := fun _ => some (heard [] s)) (fun k => ?_) (Ev.now _)
    simp only [impl_Heard.l0]
    rw [if_neg (by simp)]
    simp only [heard, List.foldl_nil]
    by_cases c : s.f1 = true <;> simp [c]
  | y :: suf, pre, s, h, hW, hs => by
    have hy := hW y List.mem_cons_self
    obtain ⟨K, g⟩ := implHeard_l0 suf (pre ++ [y]) (tell s y) (by simpa using h) (fun z hz => hW z (List.mem_cons_of_mem _ hz)) (tell_ok hs hy)
    obtain ⟨K2, g2⟩ := implTell_ev s y hs hy
    have hp : pre.length < 5000000 := by simp at h; omega
    refine ⟨K + K2 + 1, fun k hk => ?_⟩
    obtain ⟨k, rfl⟩ : ∃ m, k = m + 1 := ⟨k - 1, by omega⟩
    have e := g k (by omega)
    have e2 := g2 k (by omega)
    simp only at e e2
    rw [← mid_assoc pre suf y] at e
    simp only [impl_Heard.l0]
    rw [if_pos (lt_mid pre suf y)]
    simp only [nn, if_true, rdmmAlarm, wrap_up pre.length (by omega)]
    rw [if_pos (lt_mid pre suf y), e2]
    simp only [Option.bind_some]
    rw [show ((pre.length + 1 : Nat) : Int) = ((pre ++ [y]).length : Int) by simp, e]
    rfl
theorem implHeard_ev (l : List S44) (s : S39) (h : OkAlarms l) (hs : OkAlarms s.f0) : Ev (fun k => impl_Heard.f k l s.f0 s.f1) (heard l s) := by
  obtain ⟨K, g⟩ := implCopySub_ev s hs
  obtain ⟨K2, g2⟩ := implHeard_l0 l [] s (by simpa using h.1) h.2 hs
  refine ⟨K + K2, fun k hk => ?_⟩
  have e := g k (by omega)
  have e2 := g2 k (by omega)
  simp only [List.nil_append, List.length_nil, Int.ofNat_zero] at e e2
  simp only [impl_Heard.f, e, Option.bind_some]
  exact e2
theorem specHeard_l0 : ∀ (suf pre : List S44) (s : S39), (pre ++ suf).length ≤ 5000000 → (∀ y ∈ suf, y.f0.length ≤ 5000000) → OkAlarms s.f0 → Ev (fun k => spec_Heard.l0 k (pre ++ suf) (pre.length : Int) s.f0 s.f1) (heard suf s)
  | [], pre, s, h, hW, hs => by
    obtain ⟨K, g⟩ := specL4All_ev s.f0 hs.1 hs.2
    refine ⟨K + 1, fun k hk => ?_⟩
    obtain ⟨k, rfl⟩ : ∃ m, k = m + 1 := ⟨k - 1, by omega⟩
    have e := g k (by omega)
    simp only at e
    simp only [spec_Heard.l0]
    rw [if_neg (not_lt_end pre), e]
    simp only [heard, List.foldl_nil, Option.bind_some]
    by_cases c : s.f1 = true <;> simp [c]
  | y :: suf, pre, s, h, hW, hs => by
    have hy := hW y List.mem_cons_self
    obtain ⟨K, g⟩ := specHeard_l0 suf (pre ++ [y]) (tell s y) (by simpa using h) (fun z hz => hW z (List.mem_cons_of_mem _ hz)) (tell_ok hs hy)
    obtain ⟨K2, g2⟩ := specTell_ev s y hs hy
    have hp : pre.length < 5000000 := by simp at h; omega
    refine ⟨K + K2 + 1, fun k hk => ?_⟩
    obtain ⟨k, rfl⟩ : ∃ m, k = m + 1 := ⟨k - 1, by omega⟩
    have e := g k (by omega)
    have e2 := g2 k (by omega)
    simp only at e e2
    rw [← mid_assoc pre suf y] at e
    simp only [spec_Heard.l0]
    rw [if_pos (lt_mid pre suf y)]
    simp only [nn, if_true, rdmmAlarm, wrap_up pre.length (by omega)]
    rw [e2]
    simp only [Option.bind_some]
    rw [show ((pre.length + 1 : Nat) : Int) = ((pre ++ [y]).length : Int) by simp, e]
    rfl
theorem specHeard_ev (l : List S44) (s : S39) (h : OkAlarms l) (hs : OkAlarms s.f0) : Ev (fun k => spec_Heard.f k l s.f0 s.f1) (heard l s) := by
  obtain ⟨K, g⟩ := specL9Copy_ev s hs
  obtain ⟨K2, g2⟩ := specHeard_l0 l [] s (by simpa using h.1) h.2 hs
  refine ⟨K + K2, fun k hk => ?_⟩
  have e := g k (by omega)
  have e2 := g2 k (by omega)
  simp only [List.nil_append, List.length_nil, Int.ofNat_zero] at e e2
  simp only [spec_Heard.f, e, Option.bind_some]
  exact e2
theorem fold_or : ∀ (l : List S44) (s : S39), (∀ y ∈ (l.foldl tell s).f0, y ∈ s.f0 ∨ y ∈ l) ∧ ((l.foldl tell s).f0.length ≤ s.f0.length ∨ (l.foldl tell s).f0.length ≤ 3)
  | [], s => ⟨fun y hy => .inl hy, .inl (Nat.le_refl _)⟩
  | a :: l, s => by
    obtain ⟨h1, h2⟩ := fold_or l (tell s a)
    obtain ⟨h3, h4⟩ := tell_or s a
    refine ⟨fun y hy => ?_, ?_⟩
    · rcases h1 y hy with h | h
      · rcases h3 y h with h | rfl
        · exact .inl h
        · exact .inr List.mem_cons_self
      · exact .inr (List.mem_cons_of_mem _ h)
    · rw [List.foldl_cons]; omega
theorem heard_or (l : List S44) (s : S39) : (∀ y ∈ heard l s, y ∈ s.f0 ∨ y ∈ l) ∧ ((heard l s).length ≤ s.f0.length ∨ (heard l s).length ≤ 3) := by
  unfold heard
  split
  · exact ⟨fun y hy => by simp at hy, .inl (by simp)⟩
  · exact fold_or l s
theorem okl_wi {l : List S44} (h : l.length ≤ 4000000 ∧ ∀ y ∈ l, WiAlarm y) : OkAlarms l := ⟨Nat.le_trans h.1 (by decide), fun y hy => Nat.le_trans (h.2 y hy).1.1 (by decide)⟩
theorem ok_wi {s : S39} (h : WiSub s) : OkAlarms s.f0 := okl_wi h.1
theorem a_wi {a : S44} (h : WiAlarm a) : a.f0.length ≤ 5000000 := Nat.le_trans h.1.1 (by decide)
theorem tell_wi {s : S39} {a : S44} (h : WiSub s) (ha : WiAlarm a) : WiSub (tell s a) := by
  obtain ⟨h1, h2⟩ := tell_or s a
  refine ⟨⟨by have := h.1.1; rcases h2 with h2 | h2 <;> omega, fun y hy => ?_⟩, trivial⟩
  rcases h1 y hy with h3 | rfl
  · exact h.1.2 y h3
  · exact ha
theorem Wi_zAlarm : WiAlarm z44 := ⟨⟨by simp [z44], fun y hy => by simp [z44] at hy⟩, trivial, trivial, by show (⟨#[]⟩ : ByteArray).size ≤ 4000000; decide⟩
theorem hear_wi {s : S39} (h : WiSub s) : WiSub (hear s).1 ∧ WiAlarm (hear s).2.1 := by
  obtain ⟨h1, h2, h3⟩ := hear_or s
  refine ⟨⟨⟨Nat.le_trans h2 h.1.1, fun y hy => h.1.2 y (h1 y hy)⟩, trivial⟩, ?_⟩
  rcases h3 with h3 | h3
  · exact h.1.2 _ h3
  · rw [h3]; exact Wi_zAlarm
theorem heard_wi {l : List S44} {s : S39} (hl : l.length ≤ 4000000 ∧ ∀ y ∈ l, WiAlarm y) (h : WiSub s) : (heard l s).length ≤ 4000000 ∧ ∀ y ∈ heard l s, WiAlarm y := by
  obtain ⟨h1, h2⟩ := heard_or l s
  refine ⟨by have := h.1.1; rcases h2 with h2 | h2 <;> omega, fun y hy => ?_⟩
  rcases h1 y hy with h3 | h3
  · exact h.1.2 y h3
  · exact hl.2 y h3

end Go.Proofs.Ytfholjcelnkleaa.Print
