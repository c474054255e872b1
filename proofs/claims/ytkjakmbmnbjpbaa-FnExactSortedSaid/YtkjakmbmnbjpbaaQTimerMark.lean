import Derived.Test.YtkjakmbmnbjpbaaF0
import Derived.Test.YtkjakmbmnbjpbaaF16
import Derived.Test.YtkjakmbmnbjpbaaF17
import Derived.Test.YtkjakmbmnbjpbaaQBase
import Derived.Test.YtkjakmbmnbjpbaaQTimer
namespace Go.Proofs.Ytkjakmbmnbjpbaa.Print
open Go.RowKit Go.Proofs.YtkjakmbmnbjpbaaV.PrintWords Go.Proofs.YtkjakmbmnbjpbaaV.PrintLast Go.Proofs.YtkjakmbmnbjpbaaV.PrintMore
set_option linter.unusedVariables false
set_option linter.unusedSimpArgs false
def mkTimers : Int → List S25 → List S25
  | _, [] => []
  | k0, _ :: ys => ⟨k0, k0 + 1⟩ :: mkTimers (k0 + 2) ys
theorem markTimerS_l0 : ∀ (suf pre : List S25) (k0 : Int), 0 ≤ k0 → k0 + 2 * suf.length < 4611686018427387904 → (pre ++ suf).length < 4611686018427387904 →
    Ev (fun k => laws_markTimerS.l0 k (pre ++ suf) k0 (pre.length : Int)) (k0 + 2 * suf.length, pre ++ mkTimers k0 suf)
  | [], pre, k0, h0, h1, h => by
    refine Ev.step (f := fun _ => some (k0, pre ++ [])) (fun k => ?_) (by rw [show (k0 + 2 * (([] : List S25).length : Int), pre ++ mkTimers k0 []) = (k0, pre ++ []) from by simp [mkTimers]]; exact Ev.now _)
    simp only [laws_markTimerS.l0]
    rw [if_neg (not_lt_end pre)]
  | y :: suf, pre, k0, h0, h1, h => by
    simp only [List.length_cons] at h1
    have ih := markTimerS_l0 suf (pre ++ [⟨k0, k0 + 1⟩]) (k0 + 2) (by omega) (by omega) (by simpa using h)
    have e : ((k0 + 2) + 2 * (suf.length : Int), pre ++ [(⟨k0, k0 + 1⟩ : S25)] ++ mkTimers (k0 + 2) suf) = (k0 + 2 * ((y :: suf).length : Int), pre ++ mkTimers k0 (y :: suf)) := by
      refine Prod.ext ?_ ?_
      · simp only [List.length_cons]; omega
      · simp [mkTimers]
    rw [e] at ih
    refine Ev.step (f := fun k => laws_markTimerS.l0 k ((pre ++ [(⟨k0, k0 + 1⟩ : S25)]) ++ suf) (k0 + 2) ((pre ++ [(⟨k0, k0 + 1⟩ : S25)]).length : Int)) (fun k => ?_) ih
    simp only [laws_markTimerS.l0]
    have hp : pre.length < 4611686018427387904 := by simp at h; omega
    rw [if_pos (lt_mid pre suf y), if_pos (nn _), wrap_up _ (by omega), wrap_id (x := k0 + 1) (by omega) (by omega), wrap_id (x := k0 + 1 + 1) (by omega) (by omega)]
    simp only [Option.bind_some, Int.toNat_natCast, set_mid, rd_midTi]
    congr 1
    · simp
    · omega
    · simp
theorem markTimerS_ev (l : List S25) (h : l.length ≤ 2000000) : Ev (fun k => laws_markTimerS.f k l 1) (1 + 2 * l.length, mkTimers 1 l) := by
  unfold laws_markTimerS.f
  exact markTimerS_l0 l [] 1 (by omega) (by omega) (by simp; omega)
theorem heldTimerS_l0 : ∀ (suf pre : List S25) (k0 : Int), 0 ≤ k0 → k0 + 2 * suf.length < 4611686018427387904 → (pre ++ suf).length < 4611686018427387904 →
    Ev (fun k => laws_heldTimerS.l0 k (pre ++ mkTimers k0 suf) k0 (pre.length : Int)) (k0 + 2 * suf.length)
  | [], pre, k0, h0, h1, h => by
    refine Ev.step (f := fun _ => some k0) (fun k => ?_) (by simpa using Ev.now k0)
    rw [show mkTimers k0 [] = [] from rfl]
    simp only [laws_heldTimerS.l0]
    rw [if_neg (not_lt_end pre)]
  | y :: suf, pre, k0, h0, h1, h => by
    simp only [List.length_cons] at h1
    have ih := heldTimerS_l0 suf (pre ++ [⟨k0, k0 + 1⟩]) (k0 + 2) (by omega) (by omega) (by simpa using h)
    have e : (k0 + 2) + 2 * (suf.length : Int) = k0 + 2 * ((y :: suf).length : Int) := by simp only [List.length_cons]; omega
    rw [e] at ih
    refine Ev.step (f := fun k => laws_heldTimerS.l0 k ((pre ++ [(⟨k0, k0 + 1⟩ : S25)]) ++ mkTimers (k0 + 2) suf) (k0 + 2) ((pre ++ [(⟨k0, k0 + 1⟩ : S25)]).length : Int)) (fun k => ?_) ih
    rw [show mkTimers k0 (y :: suf) = ⟨k0, k0 + 1⟩ :: mkTimers (k0 + 2) suf from rfl]
    simp only [laws_heldTimerS.l0]
    have hp : pre.length < 4611686018427387904 := by simp at h; omega
    rw [if_pos (lt_mid pre _ _), if_pos (nn _), wrap_up _ (by omega), wrap_id (x := k0 + 1) (by omega) (by omega), wrap_id (x := k0 + 1 + 1) (by omega) (by omega)]
    simp only [rd_midTi, if_true]
    congr 1
    · simp
    · omega
    · simp
theorem mkTimers_length : ∀ (l : List S25) (k0 : Int), (mkTimers k0 l).length = l.length
  | [], _ => rfl
  | _ :: l, k0 => by simp [mkTimers, mkTimers_length l]
theorem heldTimerS_ev (l : List S25) (h : l.length ≤ 2000000) : Ev (fun k => laws_heldTimerS.f k (mkTimers 1 l) 1) (1 + 2 * l.length) := by
  unfold laws_heldTimerS.f
  exact heldTimerS_l0 l [] 1 (by omega) (by omega) (by simp; omega)

end Go.Proofs.Ytkjakmbmnbjpbaa.Print
