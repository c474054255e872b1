import Derived.Test.YtmmaondenopnpaaF0
import Derived.Test.YtmmaondenopnpaaF2
import Derived.Test.YtmmaondenopnpaaF3
import Derived.Test.YtmmaondenopnpaaF11
import Derived.Test.YtmmaondenopnpaaF12
import Derived.Test.YtmmaondenopnpaaF20
import Derived.Test.YtmmaondenopnpaaF21
import Derived.Test.YtmmaondenopnpaaQBase
import Derived.Test.YtmmaondenopnpaaQFamLabel
import Derived.Test.YtmmaondenopnpaaOpen
namespace Go.Proofs.Ytmmaondenopnpaa.Print
open Go.RowKit Go.Proofs.YtmmaondenopnpaaV.PrintWords Go.Proofs.YtmmaondenopnpaaV.PrintLast Go.Proofs.YtmmaondenopnpaaV.PrintMore
set_option linter.unusedVariables false
set_option linter.unusedSimpArgs false
theorem rdmidLabell (pre suf : List S115) (y : S115) : rd_T115 (pre ++ y :: suf) (pre.length : Int) = y := by unfold rd_T115; simp
theorem rdmidLabeli (pre suf : List S116) (y : S116) : rd_T116 (pre ++ y :: suf) (pre.length : Int) = y := by unfold rd_T116; simp
theorem szLabelS_l0 : ∀ (suf pre : List S115) (n : Int), 0 ≤ n → n ≤ 1048576 → (∀ y ∈ suf, B115 y) → (pre ++ suf).length < 4611686018427387904 → ∃ r, Ev (fun k => laws_szLabelS.l0 k (pre ++ suf) n (pre.length : Int)) r ∧ r ≤ n ∧ (0 ≤ r → ∀ y ∈ suf, WLabel y)
  | [], pre, n, h0, h1, hB, h => by
    refine ⟨n, Ev.step (f := fun _ => some n) (fun k => ?_) (Ev.now _), Int.le_refl _, fun _ y hy => by cases hy⟩
    simp only [laws_szLabelS.l0]
    rw [if_neg (not_lt_end pre)]
  | y :: suf, pre, n, h0, h1, hB, h => by
    have hp : pre.length < 4611686018427387904 := by simp at h; omega
    have hy := hB y List.mem_cons_self
    obtain ⟨r1, g1, l1, w1⟩ := szLabel_ev y hy n h0 h1
    by_cases c : r1 < 0
    · refine ⟨-1, Ev.step (f := fun k => (laws_szLabel.f y.f0 y.f1 n).bind fun t => if t < 0 then some (-1) else laws_szLabelS.l0 k (pre ++ y :: suf) t (wrap64 ((pre.length : Int) + 1))) (fun k => ?_) (Ev.bind g1 ?_), by omega, by omega⟩
      · simp only [laws_szLabelS.l0]
        rw [if_pos (lt_mid pre suf y), if_pos (nn _), rdmidLabell]
      · simp only [if_pos c]
        exact Ev.now _
    · obtain ⟨r, g, hl, hw⟩ := szLabelS_l0 suf (pre ++ [y]) r1 (by omega) (by omega) (fun z hz => hB z (List.mem_cons_of_mem _ hz)) (by simpa using h)
      refine ⟨r, Ev.step (f := fun k => (laws_szLabel.f y.f0 y.f1 n).bind fun t => if t < 0 then some (-1) else laws_szLabelS.l0 k ((pre ++ [y]) ++ suf) t ((pre ++ [y]).length : Int)) (fun k => ?_) (Ev.bind g1 ?_), by omega, fun hr z hz => ?_⟩
      · simp only [laws_szLabelS.l0]
        rw [if_pos (lt_mid pre suf y), if_pos (nn _), rdmidLabell, wrap_up _ (by omega)]
        simp
      · simp only [if_neg c]
        exact g
      · rcases List.mem_cons.1 hz with rfl | hz
        · exact w1 (by omega)
        · exact hw hr z hz
theorem szLabelS_ev (l : List S115) (hB : l.length ≤ maxLen ∧ ∀ y ∈ l, B115 y) (n : Int) (h0 : 0 ≤ n) (h1 : n ≤ 1048576) : ∃ r, Ev (fun k => laws_szLabelS.f k l n) r ∧ r ≤ n ∧ (0 ≤ r → l.length ≤ 1048576 ∧ ∀ y ∈ l, WLabel y) := by
  have q : l.length ≤ 9223372036854775807 := hB.1
  have e : wrap64 (n - (l.length : Int)) = n - (l.length : Int) := wrap_id (by omega) (by omega)
  by_cases c : n - (l.length : Int) < 0
  · exact ⟨-1, ⟨0, fun k _ => by simp [laws_szLabelS.f, e, c]⟩, by omega, by omega⟩
  · obtain ⟨r, g, hl, hw⟩ := szLabelS_l0 l [] (n - (l.length : Int)) (by omega) (by omega) hB.2 (by simp; omega)
    refine ⟨r, Ev.congr (fun k => ?_) g, by omega, fun hr => ⟨by omega, hw hr⟩⟩
    unfold laws_szLabelS.f
    rw [e, if_neg c]
    rfl
theorem toLabelS_l0 : ∀ (suf pre : List S115), (pre ++ suf).length < 4611686018427387904 → (∀ y ∈ suf, WLabel y) → Ev (fun k => laws_toLabelS.l0 k (pre ++ suf) ((pre.map cvLabel) ++ List.replicate suf.length z116) (pre.length : Int)) ((pre ++ suf).map cvLabel)
  | [], pre, h, hW => by
    refine Ev.step (f := fun _ => some ((pre ++ []).map cvLabel)) (fun k => ?_) (Ev.now _)
    simp only [laws_toLabelS.l0]
    rw [if_neg (not_lt_end pre)]
    simp
  | y :: suf, pre, h, hW => by
    have hp : pre.length < 4611686018427387904 := by simp at h; omega
    have ih := toLabelS_l0 suf (pre ++ [y]) (by simpa using h) (fun z hz => hW z (List.mem_cons_of_mem _ hz))
    have g := toLabel_ev y (hW y List.mem_cons_self)
    refine Ev.step (f := fun k => (laws_toLabel.f y.f0 y.f1).bind fun t => laws_toLabelS.l0 k ((pre ++ [y]) ++ suf) ((pre.map cvLabel) ++ (⟨t.1, t.2⟩ : S116) :: List.replicate suf.length z116) ((pre ++ [y]).length : Int)) (fun k => ?_) (Ev.bind g ?_)
    · simp only [laws_toLabelS.l0]
      rw [if_pos (lt_mid pre suf y), if_pos (nn _), rdmidLabell, wrap_up _ (by omega)]
      congr 1
      funext t
      rw [if_pos (by simp; omega)]
      congr 1
      · simp
      · simp [List.replicate_succ]
      · simp
    · rw [mid_assoc pre suf y]
      have e : (pre.map cvLabel) ++ (cvLabel y) :: List.replicate suf.length z116 = ((pre ++ [y]).map cvLabel) ++ List.replicate suf.length z116 := by simp
      rw [← e] at ih
      exact ih
theorem toLabelS_ev (l : List S115) (h : l.length ≤ 1048576 ∧ ∀ y ∈ l, WLabel y) : Ev (fun k => laws_toLabelS.f k l) (l.map cvLabel) := by
  have h1 := h.1
  refine Ev.congr (fun k => ?_) (toLabelS_l0 l [] (by simp; omega) h.2)
  unfold laws_toLabelS.f
  rw [if_pos (nn l.length), Int.toNat_natCast, if_pos (by omega)]
  rfl
theorem eqLabelS_l0 : ∀ (suf pre : List S116), (pre ++ suf).length < 4611686018427387904 → (∀ y ∈ suf, WiLabel y) → Ev (fun k => laws_eqLabelS.l0 k (pre ++ suf) (pre ++ suf) (pre.length : Int)) true
  | [], pre, h, hW => by
    refine Ev.step (f := fun _ => some true) (fun k => ?_) (Ev.now _)
    simp only [laws_eqLabelS.l0]
    rw [if_neg (not_lt_end pre)]
  | y :: suf, pre, h, hW => by
    have hp : pre.length < 4611686018427387904 := by simp at h; omega
    have ih := eqLabelS_l0 suf (pre ++ [y]) (by simpa using h) (fun z hz => hW z (List.mem_cons_of_mem _ hz))
    have g := eqLabel_ev y (hW y List.mem_cons_self)
    refine Ev.step (f := fun k => (laws_eqLabel.f y.f0 y.f1 y.f0 y.f1).bind fun t => if t = true then laws_eqLabelS.l0 k ((pre ++ [y]) ++ suf) ((pre ++ [y]) ++ suf) ((pre ++ [y]).length : Int) else none) (fun k => ?_) (Ev.bind g ?_)
    · simp only [laws_eqLabelS.l0]
      rw [if_pos (lt_mid pre suf y), if_pos (nn _), if_pos (lt_mid pre suf y), rdmidLabeli, wrap_up _ (by omega)]
      simp
    · simp only [if_true]
      exact ih
theorem eqLabelS_ev (l : List S116) (h : l.length ≤ 4000000 ∧ ∀ y ∈ l, WiLabel y) : Ev (fun k => laws_eqLabelS.f k l l) true := by
  have h1 := h.1
  refine Ev.congr (fun k => ?_) (eqLabelS_l0 l [] (by simp; omega) h.2)
  unfold laws_eqLabelS.f
  rw [if_pos rfl]
  rfl

end Go.Proofs.Ytmmaondenopnpaa.Print
