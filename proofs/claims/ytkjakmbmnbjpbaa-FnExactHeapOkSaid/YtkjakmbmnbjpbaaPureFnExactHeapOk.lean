/- The law FnExactHeapOk answers true for all arguments that can be read: the pure statement, without Go and memory. No condition. -/
import Derived.Test.YtkjakmbmnbjpbaaF0
import Derived.Test.YtkjakmbmnbjpbaaF12
import Derived.Test.YtkjakmbmnbjpbaaQBase
import Derived.Test.YtkjakmbmnbjpbaaQTimer
import Derived.Test.YtkjakmbmnbjpbaaQHeap
import Derived.Test.YtkjakmbmnbjpbaaQHeapOk
import Derived.Test.YtkjakmbmnbjpbaaSFnExactHeapOk
namespace Go.Proofs.Ytkjakmbmnbjpbaa.Print
open Go.RowKit Go.Proofs.YtkjakmbmnbjpbaaW.PrintWords Go.Proofs.YtkjakmbmnbjpbaaW.PrintLast Go.Proofs.YtkjakmbmnbjpbaaW.PrintMore
set_option linter.unusedVariables false
set_option linter.unusedSimpArgs false
theorem pure_FnExactHeapOk : laws_FnExactHeapOk.Pure := by
  intro l hl
  obtain ⟨r, hr, hb⟩ := szTimerS_ev l 1048576 (by omega) (by omega) hl.1
  by_cases hn : r < 0
  · exact ⟨0, by simp [laws_FnExactHeapOk.f, hr, hn]⟩
  have hlen : l.length ≤ 1048576 := by have := hb (by omega); omega
  obtain ⟨K1, h1⟩ := toTimerS_ev l hlen
  obtain ⟨K2, h2⟩ := specHeapOk_ev (l.map cvTimer) (by simp; omega)
  obtain ⟨K3, h3⟩ := implHeapOk_ev (l.map cvTimer) (by simp; omega)
  obtain ⟨K4, h4⟩ := eqTimerS_ev (l.map cvTimer) (by simp; omega)
  have H1 := fun m => h1 (K1 + K2 + K3 + K4 + m) (by omega)
  have H2 := fun m => h2 (K1 + K2 + K3 + K4 + m) (by omega)
  have H3 := fun m => h3 (K1 + K2 + K3 + K4 + m) (by omega)
  have H4 := fun m => h4 (K1 + K2 + K3 + K4 + m) (by omega)
  exact ⟨K1 + K2 + K3 + K4 + 5, by simp [laws_FnExactHeapOk.f, hr, hn, H1, H2, H3, H4]⟩

end Go.Proofs.Ytkjakmbmnbjpbaa.Print
