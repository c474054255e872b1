import Derived.Test.YtfholjcelnkleaaF0
import Derived.Test.YtfholjcelnkleaaQFamAlarmS
namespace Go.Proofs.Ytfholjcelnkleaa.Print
open Go.RowKit Go.Proofs.YtfholjcelnkleaaV.PrintWords Go.Proofs.YtfholjcelnkleaaV.PrintLast Go.Proofs.YtfholjcelnkleaaV.PrintMore
set_option linter.unusedVariables false
set_option linter.unusedSimpArgs false
theorem Wi_mapAlarm {l : List S34} (h : l.length ≤ 1048576 ∧ ∀ y ∈ l, WAlarm y) : (l.map cvAlarm).length ≤ 4000000 ∧ ∀ y ∈ l.map cvAlarm, WiAlarm y :=
  ⟨by rw [List.length_map]; exact Nat.le_trans h.1 (by decide), fun y hy => by obtain ⟨z, hz, rfl⟩ := List.mem_map.1 hy; exact Wi_cvAlarm (h.2 z hz)⟩

end Go.Proofs.Ytfholjcelnkleaa.Print
