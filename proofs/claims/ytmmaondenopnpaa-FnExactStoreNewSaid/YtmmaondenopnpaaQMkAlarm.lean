import Derived.Test.YtmmaondenopnpaaF0
import Derived.Test.YtmmaondenopnpaaF65
import Derived.Test.YtmmaondenopnpaaF69
import Derived.Test.YtmmaondenopnpaaQBase
import Derived.Test.YtmmaondenopnpaaQMkText
import Derived.Test.YtmmaondenopnpaaQMkLabel
namespace Go.Proofs.Ytmmaondenopnpaa.Print
open Go.RowKit Go.Proofs.YtmmaondenopnpaaV.PrintWords Go.Proofs.YtmmaondenopnpaaV.PrintLast Go.Proofs.YtmmaondenopnpaaV.PrintMore
set_option linter.unusedVariables false
set_option linter.unusedSimpArgs false
def cnAlarms : List S57 → Nat
  | [] => 0
  | y :: ys => cnLabels y.f0 + 3 + cnAlarms ys
noncomputable def mkAlarms : Int → List S57 → List S57
  | _, [] => []
  | k0, y :: ys => ⟨mkLabels k0 y.f0, (k0 + (cnLabels y.f0 : Int)), (k0 + (cnLabels y.f0 : Int) + 1), mkText (k0 + (cnLabels y.f0 : Int) + 2)⟩ :: mkAlarms (k0 + (cnLabels y.f0 : Int) + 3) ys
theorem mkAlarms_length : ∀ (k0 : Int) (l : List S57), (mkAlarms k0 l).length = l.length
  | _, [] => rfl
  | k0, y :: ys => by simp [mkAlarms, mkAlarms_length _ ys]
theorem cnAlarms_le : ∀ (l : List S57), l.length ≤ cnAlarms l
  | [] => Nat.le_refl _
  | y :: ys => by have := cnAlarms_le ys; simp only [cnAlarms, List.length_cons]; omega
theorem rdmmAlarm (pre suf : List S57) (y : S57) : rd_T57 (pre ++ y :: suf) (pre.length : Int) = y := by unfold rd_T57; simp
theorem markAlarmS_l0 : ∀ (suf pre : List S57) (k0 : Int), 0 ≤ k0 → k0 + (cnAlarms suf : Int) < 4611686018427387904 → (pre ++ suf).length < 4611686018427387904 → Ev (fun k => laws_markAlarmS.l0 k (pre ++ suf) k0 (pre.length : Int)) (k0 + (cnAlarms suf : Int), pre ++ mkAlarms k0 suf)
  | [], pre, k0, h0, h1, h => by
    refine Ev.step (f := fun _ => some (k0, pre ++ [])) (fun k => ?_) (by rw [show (k0 + (cnAlarms [] : Int), pre ++ mkAlarms k0 []) = (k0, pre ++ []) from by simp [cnAlarms, mkAlarms]]; exact Ev.now _)
    simp only [laws_markAlarmS.l0]
    rw [if_neg (not_lt_end pre)]
  | y :: suf, pre, k0, h0, h1, h => by
    have hp : pre.length < 4611686018427387904 := by simp at h; omega
    have hc : cnAlarms (y :: suf) = cnLabels y.f0 + 3 + cnAlarms suf := rfl
    rw [hc] at h1 ⊢
    obtain ⟨K, g⟩ := markAlarmS_l0 suf (pre ++ [(⟨mkLabels k0 y.f0, (k0 + (cnLabels y.f0 : Int)), (k0 + (cnLabels y.f0 : Int) + 1), mkText (k0 + (cnLabels y.f0 : Int) + 2)⟩ : S57)]) (k0 + (cnLabels y.f0 : Int) + 3) (by omega) (by omega) (by simpa using h)
    obtain ⟨K0, g0⟩ := markLabelS_ev y.f0 k0 (by omega) (by omega)
    obtain ⟨K1, g1⟩ := markText_ev (k0 + (cnLabels y.f0 : Int) + 2) (by omega) (by omega)
    refine ⟨K + K0 + K1 + 1, fun k hk => ?_⟩
    obtain ⟨k, rfl⟩ : ∃ m, k = m + 1 := ⟨k - 1, by omega⟩
    have G := g k (by omega)
    have G0 := g0 k (by omega)
    have G1 := g1 k (by omega)
    dsimp only at G G0 G1
    have w1 : wrap64 ((k0 + (cnLabels y.f0 : Int)) + 1) = (k0 + (cnLabels y.f0 : Int) + 1) := (wrap_id (by omega) (by omega)).trans (by omega)
    have w2 : wrap64 ((k0 + (cnLabels y.f0 : Int) + 1) + 1) = (k0 + (cnLabels y.f0 : Int) + 2) := (wrap_id (by omega) (by omega)).trans (by omega)
    have w3 : wrap64 ((k0 + (cnLabels y.f0 : Int) + 2) + 1) = (k0 + (cnLabels y.f0 : Int) + 3) := (wrap_id (by omega) (by omega)).trans (by omega)
    simp only [laws_markAlarmS.l0]
    rw [if_pos (lt_mid pre suf y)]
    simp only [nn, if_true, rdmmAlarm, Option.bind_some, Int.toNat_natCast, set_mid, wrap_up pre.length (by omega), G0, G1, w1, w2, w3]
    have eL : pre ++ (⟨mkLabels k0 y.f0, (k0 + (cnLabels y.f0 : Int)), (k0 + (cnLabels y.f0 : Int) + 1), mkText (k0 + (cnLabels y.f0 : Int) + 2)⟩ : S57) :: suf = (pre ++ [(⟨mkLabels k0 y.f0, (k0 + (cnLabels y.f0 : Int)), (k0 + (cnLabels y.f0 : Int) + 1), mkText (k0 + (cnLabels y.f0 : Int) + 2)⟩ : S57)]) ++ suf := by simp
    have eN : ((pre.length + 1 : Nat) : Int) = ((pre ++ [(⟨mkLabels k0 y.f0, (k0 + (cnLabels y.f0 : Int)), (k0 + (cnLabels y.f0 : Int) + 1), mkText (k0 + (cnLabels y.f0 : Int) + 2)⟩ : S57)]).length : Int) := by simp
    rw [eL, eN, G]
    refine congrArg some (Prod.ext ?_ ?_)
    · simp only []; push_cast; omega
    · simp [mkAlarms]
theorem markAlarmS_ev (l : List S57) (k0 : Int) (h0 : 0 ≤ k0) (h1 : k0 + (cnAlarms l : Int) < 4611686018427387904) : Ev (fun k => laws_markAlarmS.f k l k0) (k0 + (cnAlarms l : Int), mkAlarms k0 l) := by
  have := cnAlarms_le l
  exact Ev.congr (fun k => by unfold laws_markAlarmS.f; rfl) (markAlarmS_l0 l [] k0 h0 h1 (by simp; omega))
theorem heldAlarmS_l0 : ∀ (suf pre : List S57) (k0 : Int), 0 ≤ k0 → k0 + (cnAlarms suf : Int) < 4611686018427387904 → (pre ++ suf).length < 4611686018427387904 → Ev (fun k => laws_heldAlarmS.l0 k (pre ++ mkAlarms k0 suf) k0 (pre.length : Int)) (k0 + (cnAlarms suf : Int))
  | [], pre, k0, h0, h1, h => by
    refine Ev.step (f := fun _ => some k0) (fun k => ?_) (by simpa [cnAlarms] using Ev.now k0)
    rw [show mkAlarms k0 [] = [] from rfl]
    simp only [laws_heldAlarmS.l0]
    rw [if_neg (not_lt_end pre)]
  | y :: suf, pre, k0, h0, h1, h => by
    have hp : pre.length < 4611686018427387904 := by simp at h; omega
    have hc : cnAlarms (y :: suf) = cnLabels y.f0 + 3 + cnAlarms suf := rfl
    rw [hc] at h1 ⊢
    obtain ⟨K, g⟩ := heldAlarmS_l0 suf (pre ++ [(⟨mkLabels k0 y.f0, (k0 + (cnLabels y.f0 : Int)), (k0 + (cnLabels y.f0 : Int) + 1), mkText (k0 + (cnLabels y.f0 : Int) + 2)⟩ : S57)]) (k0 + (cnLabels y.f0 : Int) + 3) (by omega) (by omega) (by simpa using h)
    obtain ⟨K0, g0⟩ := heldLabelS_ev y.f0 k0 (by omega) (by omega)
    obtain ⟨K1, g1⟩ := markText_ev (k0 + (cnLabels y.f0 : Int) + 2) (by omega) (by omega)
    refine ⟨K + K0 + K1 + 1, fun k hk => ?_⟩
    obtain ⟨k, rfl⟩ : ∃ m, k = m + 1 := ⟨k - 1, by omega⟩
    have G := g k (by omega)
    have G0 := g0 k (by omega)
    have G1 := g1 k (by omega)
    dsimp only at G G0 G1
    have w1 : wrap64 ((k0 + (cnLabels y.f0 : Int)) + 1) = (k0 + (cnLabels y.f0 : Int) + 1) := (wrap_id (by omega) (by omega)).trans (by omega)
    have w2 : wrap64 ((k0 + (cnLabels y.f0 : Int) + 1) + 1) = (k0 + (cnLabels y.f0 : Int) + 2) := (wrap_id (by omega) (by omega)).trans (by omega)
    have w3 : wrap64 ((k0 + (cnLabels y.f0 : Int) + 2) + 1) = (k0 + (cnLabels y.f0 : Int) + 3) := (wrap_id (by omega) (by omega)).trans (by omega)
    have n0 : ¬ (k0 + (cnLabels y.f0 : Int) < 0) := by omega
    rw [show mkAlarms k0 (y :: suf) = ⟨mkLabels k0 y.f0, (k0 + (cnLabels y.f0 : Int)), (k0 + (cnLabels y.f0 : Int) + 1), mkText (k0 + (cnLabels y.f0 : Int) + 2)⟩ :: mkAlarms (k0 + (cnLabels y.f0 : Int) + 3) suf from rfl]
    simp only [laws_heldAlarmS.l0]
    rw [if_pos (lt_mid pre _ _)]
    simp only [nn, if_true, if_false, rdmmAlarm, Option.bind_some, wrap_up pre.length (by omega), G0, G1, w1, w2, w3, n0, bne_self_eq_false, Bool.false_eq_true]
    have eL : pre ++ (⟨mkLabels k0 y.f0, (k0 + (cnLabels y.f0 : Int)), (k0 + (cnLabels y.f0 : Int) + 1), mkText (k0 + (cnLabels y.f0 : Int) + 2)⟩ : S57) :: mkAlarms (k0 + (cnLabels y.f0 : Int) + 3) suf = (pre ++ [(⟨mkLabels k0 y.f0, (k0 + (cnLabels y.f0 : Int)), (k0 + (cnLabels y.f0 : Int) + 1), mkText (k0 + (cnLabels y.f0 : Int) + 2)⟩ : S57)]) ++ mkAlarms (k0 + (cnLabels y.f0 : Int) + 3) suf := by simp
    have eN : ((pre.length + 1 : Nat) : Int) = ((pre ++ [(⟨mkLabels k0 y.f0, (k0 + (cnLabels y.f0 : Int)), (k0 + (cnLabels y.f0 : Int) + 1), mkText (k0 + (cnLabels y.f0 : Int) + 2)⟩ : S57)]).length : Int) := by simp
    rw [eL, eN, G]
    refine congrArg some ?_
    push_cast; omega
theorem heldAlarmS_ev (l : List S57) (k0 : Int) (h0 : 0 ≤ k0) (h1 : k0 + (cnAlarms l : Int) < 4611686018427387904) : Ev (fun k => laws_heldAlarmS.f k (mkAlarms k0 l) k0) (k0 + (cnAlarms l : Int)) := by
  have := cnAlarms_le l
  exact Ev.congr (fun k => by unfold laws_heldAlarmS.f; rfl) (heldAlarmS_l0 l [] k0 h0 h1 (by simp; omega))

end Go.Proofs.Ytmmaondenopnpaa.Print
