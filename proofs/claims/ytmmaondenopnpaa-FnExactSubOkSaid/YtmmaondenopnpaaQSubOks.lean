import Derived.Test.YtmmaondenopnpaaF0
import Derived.Test.YtmmaondenopnpaaF97
import Derived.Test.YtmmaondenopnpaaF98
import Derived.Test.YtmmaondenopnpaaF99
import Derived.Test.YtmmaondenopnpaaQOks
import Derived.Test.YtmmaondenopnpaaQFamSub
namespace Go.Proofs.Ytmmaondenopnpaa.Print
open Go.RowKit Go.Proofs.YtmmaondenopnpaaV.PrintWords Go.Proofs.YtmmaondenopnpaaV.PrintLast Go.Proofs.YtmmaondenopnpaaV.PrintMore
set_option linter.unusedVariables false
set_option linter.unusedSimpArgs false
def alarmsOk (l : List S57) : Bool := l.all alarmOk
theorem implAlarmsOk_ev (l : List S57) (h : l.length ≤ 4000000 ∧ ∀ y ∈ l, WiAlarm y) : Ev (fun k => impl_alarmsOk.f k l) (alarmsOk l) := by
  have h1 := h.1
  unfold impl_alarmsOk.f alarmsOk
  rw [show l.all alarmOk = (l.all alarmOk && true) by simp, ← scan_all0 alarmOk z57 true l]
  refine scan_ev (F := fun k i => impl_alarmsOk.l0 k l (l.length : Int) i) (n := l.length) (fun k => ?_) (fun i hi => ?_) l.length 0 (by omega)
  · simp only [impl_alarmsOk.l0]; rw [if_neg (by omega)]
  · obtain ⟨K, g⟩ := implAlarmOk_ev (l.getD i z57) (h.2 _ (getD_mem l i _ hi))
    refine ⟨K, fun k hk => ?_⟩
    have e := g k hk
    simp only at e
    simp only [impl_alarmsOk.l0]
    rw [if_pos (by omega), if_pos (by omega), if_pos (by omega), rdnAlarm, e, Option.bind_some, wrap_up i (by omega)]
    cases alarmOk (l.getD i z57) <;> simp [goOn]
def subOk (x : S29) : Bool := alarmsOk x.f0 && (decide ((x.f0.length : Int) ≤ 3) && (!x.f1 || ((x.f0.length : Int) == 0)))
theorem implSubOk_ev (x : S29) (h : WiSub x) : Ev (fun k => impl_SubOk.f k x.f0 x.f1) (subOk x) := by
  obtain ⟨K, g⟩ := implAlarmsOk_ev x.f0 h.1
  refine ⟨K, fun k hk => ?_⟩
  have e := g k hk
  simp only at e
  simp only [impl_SubOk.f, e, Option.bind_some, subOk]
  by_cases h1 : x.f1 = true
  · rw [if_pos h1]
    by_cases h0 : x.f0 = []
    · simp [h0, alarmsOk]
    · have hz : ((x.f0.length : Int) == 0) = false := beq_eq_false_iff_ne.2 (fun e => h0 (List.length_eq_zero_iff.1 (by omega)))
      simp only [hz, h1, Bool.not_true, Bool.false_or, Bool.and_false]
  · rw [if_neg h1]
    by_cases h3 : (x.f0.length : Int) ≤ 3
    · rw [if_pos h3]; simp [h1, h3]
    · rw [if_neg h3]; simp [h3]
theorem specSubOk_ev (x : S29) (h : WiSub x) : Ev (fun k => spec_SubOk.f k x.f0 x.f1) (subOk x) := by
  have h1 := h.1.1
  unfold spec_SubOk.f subOk
  have hE : ∀ k, spec_SubOk.l0 (k + 1) (x.f0.length : Int) x.f0 x.f1 = some (decide ((x.f0.length : Int) ≤ 3) && (!x.f1 || ((x.f0.length : Int) == 0))) := by
    intro k
    simp only [spec_SubOk.l0]
    rw [if_neg (by omega)]
    by_cases h3 : (x.f0.length : Int) ≤ 3
    · rw [if_pos h3]; cases x.f1 <;> simp [h3]
    · rw [if_neg h3]; simp [h3]
  unfold alarmsOk
  rw [← scan_all0 alarmOk z57 _ x.f0]
  refine scan_ev (F := fun k i => spec_SubOk.l0 k i x.f0 x.f1) (n := x.f0.length) hE (fun i hi => ?_) x.f0.length 0 (by omega)
  obtain ⟨K, g⟩ := specAlarmOk_ev (x.f0.getD i z57) (h.1.2 _ (getD_mem x.f0 i _ hi))
  refine ⟨K, fun k hk => ?_⟩
  have e := g k hk
  simp only at e
  simp only [spec_SubOk.l0]
  rw [if_pos (by omega), if_pos (by omega), rdnAlarm, e, Option.bind_some, wrap_up i (by omega)]
  cases alarmOk (x.f0.getD i z57) <;> simp [goOn]

end Go.Proofs.Ytmmaondenopnpaa.Print
