import Derived.Test.YtmmaondenopnpaaF0
import Derived.Test.YtmmaondenopnpaaQFamGroupS
import Derived.Test.YtmmaondenopnpaaQFamAlarmS
import Derived.Test.YtmmaondenopnpaaQFamLabelS
namespace Go.Proofs.Ytmmaondenopnpaa.Print
open Go.RowKit Go.Proofs.YtmmaondenopnpaaV.PrintWords Go.Proofs.YtmmaondenopnpaaV.PrintLast Go.Proofs.YtmmaondenopnpaaV.PrintMore
set_option linter.unusedVariables false
set_option linter.unusedSimpArgs false
theorem Wi_mapLabel {l : List S115} (h : l.length ≤ 1048576 ∧ ∀ y ∈ l, WLabel y) : (l.map cvLabel).length ≤ 4000000 ∧ ∀ y ∈ l.map cvLabel, WiLabel y :=
  ⟨by rw [List.length_map]; exact Nat.le_trans h.1 (by decide), fun y hy => by obtain ⟨z, hz, rfl⟩ := List.mem_map.1 hy; exact Wi_cvLabel (h.2 z hz)⟩
theorem Wi_mapAlarm {l : List S50} (h : l.length ≤ 1048576 ∧ ∀ y ∈ l, WAlarm y) : (l.map cvAlarm).length ≤ 4000000 ∧ ∀ y ∈ l.map cvAlarm, WiAlarm y :=
  ⟨by rw [List.length_map]; exact Nat.le_trans h.1 (by decide), fun y hy => by obtain ⟨z, hz, rfl⟩ := List.mem_map.1 hy; exact Wi_cvAlarm (h.2 z hz)⟩
theorem Wi_mapGroup {l : List S64} (h : l.length ≤ 1048576 ∧ ∀ y ∈ l, WGroup y) : (l.map cvGroup).length ≤ 4000000 ∧ ∀ y ∈ l.map cvGroup, WiGroup y :=
  ⟨by rw [List.length_map]; exact Nat.le_trans h.1 (by decide), fun y hy => by obtain ⟨z, hz, rfl⟩ := List.mem_map.1 hy; exact Wi_cvGroup (h.2 z hz)⟩

end Go.Proofs.Ytmmaondenopnpaa.Print
