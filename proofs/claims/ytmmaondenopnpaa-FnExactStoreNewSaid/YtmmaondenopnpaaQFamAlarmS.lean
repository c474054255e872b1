import Derived.Test.YtmmaondenopnpaaF0
import Derived.Test.YtmmaondenopnpaaF4
import Derived.Test.YtmmaondenopnpaaF5
import Derived.Test.YtmmaondenopnpaaF13
import Derived.Test.YtmmaondenopnpaaF14
import Derived.Test.YtmmaondenopnpaaF22
import Derived.Test.YtmmaondenopnpaaF23
import Derived.Test.YtmmaondenopnpaaQBase
import Derived.Test.YtmmaondenopnpaaQFamAlarm
import Derived.Test.YtmmaondenopnpaaOpen
namespace Go.Proofs.Ytmmaondenopnpaa.Print
open Go.RowKit Go.Proofs.YtmmaondenopnpaaV.PrintWords Go.Proofs.YtmmaondenopnpaaV.PrintLast Go.Proofs.YtmmaondenopnpaaV.PrintMore
set_option linter.unusedVariables false
set_option linter.unusedSimpArgs false
theorem rdmidAlarml (pre suf : List S50) (y : S50) : rd_T50 (pre ++ y :: suf) (pre.length : Int) = y := by unfold rd_T50; simp
theorem rdmidAlarmi (pre suf : List S57) (y : S57) : rd_T57 (pre ++ y :: suf) (pre.length : Int) = y := by unfold rd_T57; simp
theorem szAlarmS_l0 : ∀ (suf pre : List S50) (n : Int), 0 ≤ n → n ≤ 1048576 → (∀ y ∈ suf, B50 y) → (pre ++ suf).length < 4611686018427387904 → ∃ r, Ev (fun k => laws_szAlarmS.l0 k (pre ++ suf) n (pre.length : Int)) r ∧ r ≤ n ∧ (0 ≤ r → ∀ y ∈ suf, WAlarm y)
  | [], pre, n, h0, h1, hB, h => by
    refine ⟨n, Ev.step (f := fun _ => some n) (fun k => ?_) (Ev.now _), Int.le_refl _, fun _ y hy => by cases hy⟩
    simp only [laws_szAlarmS.l0]
    rw [if_neg (not_lt_end pre)]
  | y :: suf, pre, n, h0, h1, hB, h => by
    have hp : pre.length < 4611686018427387904 := by simp at h; omega
    have hy := hB y List.mem_cons_self
    obtain ⟨r1, g1, l1, w1⟩ := szAlarm_ev y hy n h0 h1
    by_cases c : r1 < 0
    · refine ⟨-1, Ev.step (f := fun k => (laws_szAlarm.f k y.f0 y.f1 y.f2 y.f3 n).bind fun t => if t < 0 then some (-1) else laws_szAlarmS.l0 k (pre ++ y :: suf) t (wrap64 ((pre.length : Int) + 1))) (fun k => ?_) (Ev.bind g1 ?_), by omega, by omega⟩
      · simp only [laws_szAlarmS.l0]
        rw [if_pos (lt_mid pre suf y), if_pos (nn _), rdmidAlarml]
      · simp only [if_pos c]
        exact Ev.now _
    · obtain ⟨r, g, hl, hw⟩ := szAlarmS_l0 suf (pre ++ [y]) r1 (by omega) (by omega) (fun z hz => hB z (List.mem_cons_of_mem _ hz)) (by simpa using h)
      refine ⟨r, Ev.step (f := fun k => (laws_szAlarm.f k y.f0 y.f1 y.f2 y.f3 n).bind fun t => if t < 0 then some (-1) else laws_szAlarmS.l0 k ((pre ++ [y]) ++ suf) t ((pre ++ [y]).length : Int)) (fun k => ?_) (Ev.bind g1 ?_), by omega, fun hr z hz => ?_⟩
      · simp only [laws_szAlarmS.l0]
        rw [if_pos (lt_mid pre suf y), if_pos (nn _), rdmidAlarml, wrap_up _ (by omega)]
        simp
      · simp only [if_neg c]
        exact g
      · rcases List.mem_cons.1 hz with rfl | hz
        · exact w1 (by omega)
        · exact hw hr z hz
theorem szAlarmS_ev (l : List S50) (hB : l.length ≤ maxLen ∧ ∀ y ∈ l, B50 y) (n : Int) (h0 : 0 ≤ n) (h1 : n ≤ 1048576) : ∃ r, Ev (fun k => laws_szAlarmS.f k l n) r ∧ r ≤ n ∧ (0 ≤ r → l.length ≤ 1048576 ∧ ∀ y ∈ l, WAlarm y) := by
  have q : l.length ≤ 9223372036854775807 := hB.1
  have e : wrap64 (n - (l.length : Int)) = n - (l.length : Int) := wrap_id (by omega) (by omega)
  by_cases c : n - (l.length : Int) < 0
  · exact ⟨-1, ⟨0, fun k _ => by simp [laws_szAlarmS.f, e, c]⟩, by omega, by omega⟩
  · obtain ⟨r, g, hl, hw⟩ := szAlarmS_l0 l [] (n - (l.length : Int)) (by omega) (by omega) hB.2 (by simp; omega)
    refine ⟨r, Ev.congr (fun k => ?_) g, by omega, fun hr => ⟨by omega, hw hr⟩⟩
    unfold laws_szAlarmS.f
    rw [e, if_neg c]
    rfl
theorem toAlarmS_l0 : ∀ (suf pre : List S50), (pre ++ suf).length < 4611686018427387904 → (∀ y ∈ suf, WAlarm y) → Ev (fun k => laws_toAlarmS.l0 k (pre ++ suf) ((pre.map cvAlarm) ++ List.replicate suf.length z57) (pre.length : Int)) ((pre ++ suf).map cvAlarm)
  | [], pre, h, hW => by
    refine Ev.step (f := fun _ => some ((pre ++ []).map cvAlarm)) (fun k => ?_) (Ev.now _)
    simp only [laws_toAlarmS.l0]
    rw [if_neg (not_lt_end pre)]
    simp
  | y :: suf, pre, h, hW => by
    have hp : pre.length < 4611686018427387904 := by simp at h; omega
    have ih := toAlarmS_l0 suf (pre ++ [y]) (by simpa using h) (fun z hz => hW z (List.mem_cons_of_mem _ hz))
    have g := toAlarm_ev y (hW y List.mem_cons_self)
    refine Ev.step (f := fun k => (laws_toAlarm.f k y.f0 y.f1 y.f2 y.f3).bind fun t => laws_toAlarmS.l0 k ((pre ++ [y]) ++ suf) ((pre.map cvAlarm) ++ (⟨t.1, t.2.1, t.2.2.1, t.2.2.2⟩ : S57) :: List.replicate suf.length z57) ((pre ++ [y]).length : Int)) (fun k => ?_) (Ev.bind g ?_)
    · simp only [laws_toAlarmS.l0]
      rw [if_pos (lt_mid pre suf y), if_pos (nn _), rdmidAlarml, wrap_up _ (by omega)]
      congr 1
      funext t
      rw [if_pos (by simp; omega)]
      congr 1
      · simp
      · simp [List.replicate_succ]
      · simp
    · rw [mid_assoc pre suf y]
      have e : (pre.map cvAlarm) ++ (cvAlarm y) :: List.replicate suf.length z57 = ((pre ++ [y]).map cvAlarm) ++ List.replicate suf.length z57 := by simp
      rw [← e] at ih
      exact ih
theorem toAlarmS_ev (l : List S50) (h : l.length ≤ 1048576 ∧ ∀ y ∈ l, WAlarm y) : Ev (fun k => laws_toAlarmS.f k l) (l.map cvAlarm) := by
  have h1 := h.1
  refine Ev.congr (fun k => ?_) (toAlarmS_l0 l [] (by simp; omega) h.2)
  unfold laws_toAlarmS.f
  rw [if_pos (nn l.length), Int.toNat_natCast, if_pos (by omega)]
  rfl
theorem eqAlarmS_l0 : ∀ (suf pre : List S57), (pre ++ suf).length < 4611686018427387904 → (∀ y ∈ suf, WiAlarm y) → Ev (fun k => laws_eqAlarmS.l0 k (pre ++ suf) (pre ++ suf) (pre.length : Int)) true
  | [], pre, h, hW => by
    refine Ev.step (f := fun _ => some true) (fun k => ?_) (Ev.now _)
    simp only [laws_eqAlarmS.l0]
    rw [if_neg (not_lt_end pre)]
  | y :: suf, pre, h, hW => by
    have hp : pre.length < 4611686018427387904 := by simp at h; omega
    have ih := eqAlarmS_l0 suf (pre ++ [y]) (by simpa using h) (fun z hz => hW z (List.mem_cons_of_mem _ hz))
    have g := eqAlarm_ev y (hW y List.mem_cons_self)
    refine Ev.step (f := fun k => (laws_eqAlarm.f k y.f0 y.f1 y.f2 y.f3 y.f0 y.f1 y.f2 y.f3).bind fun t => if t = true then laws_eqAlarmS.l0 k ((pre ++ [y]) ++ suf) ((pre ++ [y]) ++ suf) ((pre ++ [y]).length : Int) else none) (fun k => ?_) (Ev.bind g ?_)
    · simp only [laws_eqAlarmS.l0]
      rw [if_pos (lt_mid pre suf y), if_pos (nn _), if_pos (lt_mid pre suf y), rdmidAlarmi, wrap_up _ (by omega)]
      simp
    · simp only [if_true]
      exact ih
theorem eqAlarmS_ev (l : List S57) (h : l.length ≤ 4000000 ∧ ∀ y ∈ l, WiAlarm y) : Ev (fun k => laws_eqAlarmS.f k l l) true := by
  have h1 := h.1
  refine Ev.congr (fun k => ?_) (eqAlarmS_l0 l [] (by simp; omega) h.2)
  unfold laws_eqAlarmS.f
  rw [if_pos rfl]
  rfl

end Go.Proofs.Ytmmaondenopnpaa.Print
