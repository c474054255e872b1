import Derived.Test.YtkjakmbmnbjpbaaF0
import Derived.Test.YtkjakmbmnbjpbaaF3
import Derived.Test.YtkjakmbmnbjpbaaF6
import Derived.Test.YtkjakmbmnbjpbaaF8
import Derived.Test.YtkjakmbmnbjpbaaF10
import Derived.Test.YtkjakmbmnbjpbaaF11
import Derived.Test.YtkjakmbmnbjpbaaQBase
namespace Go.Proofs.Ytkjakmbmnbjpbaa.Print
open Go.RowKit Go.Proofs.YtkjakmbmnbjpbaaV.PrintWords Go.Proofs.YtkjakmbmnbjpbaaV.PrintLast Go.Proofs.YtkjakmbmnbjpbaaV.PrintMore
set_option linter.unusedVariables false
set_option linter.unusedSimpArgs false
def cvTimer (x : S23) : S25 := ⟨x.f0, x.f1⟩
theorem rd_midTl (pre suf : List S23) (y : S23) : rd_T23 (pre ++ y :: suf) (pre.length : Int) = y := by unfold rd_T23; simp
theorem rd_midTi (pre suf : List S25) (y : S25) : rd_T25 (pre ++ y :: suf) (pre.length : Int) = y := by unfold rd_T25; simp
theorem szTimerS_ev (l : List S23) (n : Int) (h0 : 0 ≤ n) (h1 : n ≤ 1048576) (hl : l.length ≤ maxLen) : ∃ r, laws_szTimerS.f l n = some r ∧ (0 ≤ r → (l.length : Int) ≤ n) := by
  unfold maxLen at hl
  unfold laws_szTimerS.f
  rw [wrap_id (by omega) (by omega)]
  split
  · exact ⟨_, rfl, by omega⟩
  · exact ⟨_, rfl, by omega⟩
theorem toTimerS_l0 : ∀ (suf pre : List S23), (pre ++ suf).length < 4611686018427387904 → Ev (fun k => laws_toTimerS.l0 k (pre ++ suf) (pre.map cvTimer ++ List.replicate suf.length z25) (pre.length : Int)) ((pre ++ suf).map cvTimer)
  | [], pre, h => by
    refine Ev.step (f := fun _ => some ((pre ++ []).map cvTimer)) (fun k => ?_) (Ev.now _)
    simp only [laws_toTimerS.l0]
    rw [if_neg (not_lt_end pre)]
    simp
  | y :: suf, pre, h => by
    have ih := toTimerS_l0 suf (pre ++ [y]) (by simpa using h)
    refine Ev.step (f := fun k => laws_toTimerS.l0 k ((pre ++ [y]) ++ suf) ((pre ++ [y]).map cvTimer ++ List.replicate suf.length z25) ((pre ++ [y]).length : Int)) (fun k => ?_) (by rw [mid_assoc pre suf y]; exact ih)
    simp only [laws_toTimerS.l0]
    have hp : pre.length < 4611686018427387904 := by simp at h; omega
    rw [if_pos (lt_mid pre suf y), if_pos (nn _), rd_midTl, wrap_up _ (by omega)]
    simp only [laws_toTimer.f, Option.bind_some]
    rw [if_pos (by simp; omega)]
    congr 1
    · simp
    · simp [List.replicate_succ, cvTimer]
    · simp
theorem toTimerS_ev (l : List S23) (h : l.length ≤ 1048576) : Ev (fun k => laws_toTimerS.f k l) (l.map cvTimer) := by
  unfold laws_toTimerS.f
  simp only [if_pos (nn l.length), Int.toNat_natCast, if_pos (show l.length ≤ 17592186044416 by omega)]
  exact toTimerS_l0 l [] (by simp; omega)
theorem eqTimerS_l0 : ∀ (suf pre : List S25), (pre ++ suf).length < 4611686018427387904 → Ev (fun k => laws_eqTimerS.l0 k (pre ++ suf) (pre ++ suf) (pre.length : Int)) true
  | [], pre, h => by
    refine Ev.step (f := fun _ => some true) (fun k => ?_) (Ev.now _)
    simp only [laws_eqTimerS.l0]
    rw [if_neg (not_lt_end pre)]
  | y :: suf, pre, h => by
    have ih := eqTimerS_l0 suf (pre ++ [y]) (by simpa using h)
    refine Ev.step (f := fun k => laws_eqTimerS.l0 k ((pre ++ [y]) ++ suf) ((pre ++ [y]) ++ suf) ((pre ++ [y]).length : Int)) (fun k => ?_) ih
    simp only [laws_eqTimerS.l0]
    have hp : pre.length < 4611686018427387904 := by simp at h; omega
    rw [if_pos (lt_mid pre suf y), if_pos (nn _), if_pos (lt_mid pre suf y), rd_midTi, wrap_up _ (by omega)]
    simp [laws_eqTimer.f]
theorem eqTimerS_ev (l : List S25) (h : l.length < 4611686018427387904) : Ev (fun k => laws_eqTimerS.f k l l) true := by
  unfold laws_eqTimerS.f
  simp only [if_true]
  exact eqTimerS_l0 l [] (by simpa using h)

end Go.Proofs.Ytkjakmbmnbjpbaa.Print
