import Derived.Test.YtfholjcelnkleaaF0
import Derived.Test.YtfholjcelnkleaaQBase
import Derived.Test.YtfholjcelnkleaaQFamAlarmS
import Derived.Test.YtfholjcelnkleaaQMkAlarm
namespace Go.Proofs.Ytfholjcelnkleaa.Print
open Go.RowKit Go.Proofs.YtfholjcelnkleaaV.PrintWords Go.Proofs.YtfholjcelnkleaaV.PrintLast Go.Proofs.YtfholjcelnkleaaV.PrintMore
set_option linter.unusedVariables false
set_option linter.unusedSimpArgs false
theorem cnLabels_eq : ∀ l : List S164, cnLabels l = 2 * l.length
  | [] => rfl
  | y :: ys => by have := cnLabels_eq ys; simp only [cnLabels, List.length_cons]; omega
theorem cnLabels_wi {l : List S164} (h : l.length ≤ 4000000 ∧ ∀ y ∈ l, WiLabel y) : cnLabels l ≤ 8000000 := by have := h.1; rw [cnLabels_eq]; omega
theorem cnAlarms_le2 : ∀ l : List S44, (∀ y ∈ l, WiAlarm y) → cnAlarms l ≤ l.length * 8000003
  | [], _ => Nat.le_refl _
  | y :: ys, h => by
    have h1 := cnAlarms_le2 ys (fun z hz => h z (List.mem_cons_of_mem _ hz))
    have h2 := cnLabels_wi (h y List.mem_cons_self).1
    simp only [cnAlarms, List.length_cons]
    omega
theorem cnAlarms_wi {l : List S44} (h : l.length ≤ 4000000 ∧ ∀ y ∈ l, WiAlarm y) : cnAlarms l ≤ 40000000000000 := by
  have h1 := cnAlarms_le2 l h.2
  have h2 := Nat.mul_le_mul_right 8000003 h.1
  omega

end Go.Proofs.Ytfholjcelnkleaa.Print
