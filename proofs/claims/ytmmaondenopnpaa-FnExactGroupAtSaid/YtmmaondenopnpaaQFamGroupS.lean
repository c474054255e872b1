import Derived.Test.YtmmaondenopnpaaF0
import Derived.Test.YtmmaondenopnpaaF26
import Derived.Test.YtmmaondenopnpaaF27
import Derived.Test.YtmmaondenopnpaaF29
import Derived.Test.YtmmaondenopnpaaF30
import Derived.Test.YtmmaondenopnpaaF32
import Derived.Test.YtmmaondenopnpaaF33
import Derived.Test.YtmmaondenopnpaaQBase
import Derived.Test.YtmmaondenopnpaaQFamGroup
import Derived.Test.YtmmaondenopnpaaOpen
namespace Go.Proofs.Ytmmaondenopnpaa.Print
open Go.RowKit Go.Proofs.YtmmaondenopnpaaV.PrintWords Go.Proofs.YtmmaondenopnpaaV.PrintLast Go.Proofs.YtmmaondenopnpaaV.PrintMore
set_option linter.unusedVariables false
set_option linter.unusedSimpArgs false
theorem rdmidGroupl (pre suf : List S64) (y : S64) : rd_T64 (pre ++ y :: suf) (pre.length : Int) = y := by unfold rd_T64; simp
theorem rdmidGroupi (pre suf : List S68) (y : S68) : rd_T68 (pre ++ y :: suf) (pre.length : Int) = y := by unfold rd_T68; simp
theorem szGroupS_l0 : ∀ (suf pre : List S64) (n : Int), 0 ≤ n → n ≤ 1048576 → (∀ y ∈ suf, B64 y) → (pre ++ suf).length < 4611686018427387904 → ∃ r, Ev (fun k => laws_szGroupS.l0 k (pre ++ suf) n (pre.length : Int)) r ∧ r ≤ n ∧ (0 ≤ r → ∀ y ∈ suf, WGroup y)
  | [], pre, n, h0, h1, hB, h => by
    refine ⟨n, Ev.step (f := fun _ => some n) (fun k => ?_) (Ev.now _), Int.le_refl _, fun _ y hy => by cases hy⟩
    simp only [laws_szGroupS.l0]
    rw [if_neg (not_lt_end pre)]
  | y :: suf, pre, n, h0, h1, hB, h => by
    have hp : pre.length < 4611686018427387904 := by simp at h; omega
    have hy := hB y List.mem_cons_self
    obtain ⟨r1, g1, l1, w1⟩ := szGroup_ev y hy n h0 h1
    by_cases c : r1 < 0
    · refine ⟨-1, Ev.step (f := fun k => (laws_szGroup.f k y.f0 y.f1 y.f2 y.f3 y.f4 n).bind fun t => if t < 0 then some (-1) else laws_szGroupS.l0 k (pre ++ y :: suf) t (wrap64 ((pre.length : Int) + 1))) (fun k => ?_) (Ev.bind g1 ?_), by omega, by omega⟩
      · simp only [laws_szGroupS.l0]
        rw [if_pos (lt_mid pre suf y), if_pos (nn _), rdmidGroupl]
      · simp only [if_pos c]
        exact Ev.now _
    · obtain ⟨r, g, hl, hw⟩ := szGroupS_l0 suf (pre ++ [y]) r1 (by omega) (by omega) (fun z hz => hB z (List.mem_cons_of_mem _ hz)) (by simpa using h)
      refine ⟨r, Ev.step (f := fun k => (laws_szGroup.f k y.f0 y.f1 y.f2 y.f3 y.f4 n).bind fun t => if t < 0 then some (-1) else laws_szGroupS.l0 k ((pre ++ [y]) ++ suf) t ((pre ++ [y]).length : Int)) (fun k => ?_) (Ev.bind g1 ?_), by omega, fun hr z hz => ?_⟩
      · simp only [laws_szGroupS.l0]
        rw [if_pos (lt_mid pre suf y), if_pos (nn _), rdmidGroupl, wrap_up _ (by omega)]
        simp
      · simp only [if_neg c]
        exact g
      · rcases List.mem_cons.1 hz with rfl | hz
        · exact w1 (by omega)
        · exact hw hr z hz
theorem szGroupS_ev (l : List S64) (hB : l.length ≤ maxLen ∧ ∀ y ∈ l, B64 y) (n : Int) (h0 : 0 ≤ n) (h1 : n ≤ 1048576) : ∃ r, Ev (fun k => laws_szGroupS.f k l n) r ∧ r ≤ n ∧ (0 ≤ r → l.length ≤ 1048576 ∧ ∀ y ∈ l, WGroup y) := by
  have q : l.length ≤ 9223372036854775807 := hB.1
  have e : wrap64 (n - (l.length : Int)) = n - (l.length : Int) := wrap_id (by omega) (by omega)
  by_cases c : n - (l.length : Int) < 0
  · exact ⟨-1, ⟨0, fun k _ => by simp [laws_szGroupS.f, e, c]⟩, by omega, by omega⟩
  · obtain ⟨r, g, hl, hw⟩ := szGroupS_l0 l [] (n - (l.length : Int)) (by omega) (by omega) hB.2 (by simp; omega)
    refine ⟨r, Ev.congr (fun k => ?_) g, by omega, fun hr => ⟨by omega, hw hr⟩⟩
    unfold laws_szGroupS.f
    rw [e, if_neg c]
    rfl
theorem toGroupS_l0 : ∀ (suf pre : List S64), (pre ++ suf).length < 4611686018427387904 → (∀ y ∈ suf, WGroup y) → Ev (fun k => laws_toGroupS.l0 k (pre ++ suf) ((pre.map cvGroup) ++ List.replicate suf.length z68) (pre.length : Int)) ((pre ++ suf).map cvGroup)
  | [], pre, h, hW => by
    refine Ev.step (f := fun _ => some ((pre ++ []).map cvGroup)) (fun k => ?_) (Ev.now _)
    simp only [laws_toGroupS.l0]
    rw [if_neg (not_lt_end pre)]
    simp
  | y :: suf, pre, h, hW => by
    have hp : pre.length < 4611686018427387904 := by simp at h; omega
    have ih := toGroupS_l0 suf (pre ++ [y]) (by simpa using h) (fun z hz => hW z (List.mem_cons_of_mem _ hz))
    have g := toGroup_ev y (hW y List.mem_cons_self)
    refine Ev.step (f := fun k => (laws_toGroup.f k y.f0 y.f1 y.f2 y.f3 y.f4).bind fun t => laws_toGroupS.l0 k ((pre ++ [y]) ++ suf) ((pre.map cvGroup) ++ (⟨t.1, t.2.1, t.2.2.1, t.2.2.2.1, t.2.2.2.2⟩ : S68) :: List.replicate suf.length z68) ((pre ++ [y]).length : Int)) (fun k => ?_) (Ev.bind g ?_)
    · simp only [laws_toGroupS.l0]
      rw [if_pos (lt_mid pre suf y), if_pos (nn _), rdmidGroupl, wrap_up _ (by omega)]
      congr 1
      funext t
      rw [if_pos (by simp; omega)]
      congr 1
      · simp
      · simp [List.replicate_succ]
      · simp
    · rw [mid_assoc pre suf y]
      have e : (pre.map cvGroup) ++ (cvGroup y) :: List.replicate suf.length z68 = ((pre ++ [y]).map cvGroup) ++ List.replicate suf.length z68 := by simp
      rw [← e] at ih
      exact ih
theorem toGroupS_ev (l : List S64) (h : l.length ≤ 1048576 ∧ ∀ y ∈ l, WGroup y) : Ev (fun k => laws_toGroupS.f k l) (l.map cvGroup) := by
  have h1 := h.1
  refine Ev.congr (fun k => ?_) (toGroupS_l0 l [] (by simp; omega) h.2)
  unfold laws_toGroupS.f
  rw [if_pos (nn l.length), Int.toNat_natCast, if_pos (by omega)]
  rfl
theorem eqGroupS_l0 : ∀ (suf pre : List S68), (pre ++ suf).length < 4611686018427387904 → (∀ y ∈ suf, WiGroup y) → Ev (fun k => laws_eqGroupS.l0 k (pre ++ suf) (pre ++ suf) (pre.length : Int)) true
  | [], pre, h, hW => by
    refine Ev.step (f := fun _ => some true) (fun k => ?_) (Ev.now _)
    simp only [laws_eqGroupS.l0]
    rw [if_neg (not_lt_end pre)]
  | y :: suf, pre, h, hW => by
    have hp : pre.length < 4611686018427387904 := by simp at h; omega
    have ih := eqGroupS_l0 suf (pre ++ [y]) (by simpa using h) (fun z hz => hW z (List.mem_cons_of_mem _ hz))
    have g := eqGroup_ev y (hW y List.mem_cons_self)
    refine Ev.step (f := fun k => (laws_eqGroup.f k y.f0 y.f1 y.f2 y.f3 y.f4 y.f0 y.f1 y.f2 y.f3 y.f4).bind fun t => if t = true then laws_eqGroupS.l0 k ((pre ++ [y]) ++ suf) ((pre ++ [y]) ++ suf) ((pre ++ [y]).length : Int) else none) (fun k => ?_) (Ev.bind g ?_)
    · simp only [laws_eqGroupS.l0]
      rw [if_pos (lt_mid pre suf y), if_pos (nn _), if_pos (lt_mid pre suf y), rdmidGroupi, wrap_up _ (by omega)]
      simp
    · simp only [if_true]
      exact ih
theorem eqGroupS_ev (l : List S68) (h : l.length ≤ 4000000 ∧ ∀ y ∈ l, WiGroup y) : Ev (fun k => laws_eqGroupS.f k l l) true := by
  have h1 := h.1
  refine Ev.congr (fun k => ?_) (eqGroupS_l0 l [] (by simp; omega) h.2)
  unfold laws_eqGroupS.f
  rw [if_pos rfl]
  rfl

end Go.Proofs.Ytmmaondenopnpaa.Print
