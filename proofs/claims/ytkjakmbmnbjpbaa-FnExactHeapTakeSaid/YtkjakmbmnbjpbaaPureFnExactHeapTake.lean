/- The law FnExactHeapTake answers true for all arguments that can be read: the pure statement, without Go and memory. No condition. -/
import Derived.Test.YtkjakmbmnbjpbaaF0
import Derived.Test.YtkjakmbmnbjpbaaF10
import Derived.Test.YtkjakmbmnbjpbaaF35
import Derived.Test.YtkjakmbmnbjpbaaQBase
import Derived.Test.YtkjakmbmnbjpbaaQTimer
import Derived.Test.YtkjakmbmnbjpbaaQTimerMark
import Derived.Test.YtkjakmbmnbjpbaaQHeap
import Derived.Test.YtkjakmbmnbjpbaaQHeapTake
import Derived.Test.YtkjakmbmnbjpbaaSFnExactHeapTake
namespace Go.Proofs.Ytkjakmbmnbjpbaa.Print
open Go.RowKit Go.Proofs.YtkjakmbmnbjpbaaV.PrintWords Go.Proofs.YtkjakmbmnbjpbaaV.PrintLast Go.Proofs.YtkjakmbmnbjpbaaV.PrintMore
set_option linter.unusedVariables false
set_option linter.unusedSimpArgs false
theorem pure_FnExactHeapTake : laws_FnExactHeapTake.Pure := by
  intro l hl
  obtain ⟨r, hr, hb⟩ := szTimerS_ev l 1048576 (by omega) (by omega) hl.1
  by_cases hn : r < 0
  · exact ⟨0, by simp [laws_FnExactHeapTake.f, hr, hn]⟩
  have hlen : l.length ≤ 1048576 := by have := hb (by omega); omega
  obtain ⟨g, a, b, c, hg, hgl⟩ : ∃ g a b c, hTake (l.map cvTimer) = (g, a, b, c) ∧ g.length ≤ 1048576 := ⟨(hTake (l.map cvTimer)).1, (hTake (l.map cvTimer)).2.1, (hTake (l.map cvTimer)).2.2.1, (hTake (l.map cvTimer)).2.2.2, rfl, Nat.le_trans (hTake_len _) (by simp; omega)⟩
  obtain ⟨K1, h1⟩ := toTimerS_ev l hlen
  obtain ⟨K2, h2⟩ := hg ▸ specTake_ev (l.map cvTimer) (by simp; omega)
  obtain ⟨K3, h3⟩ := hg ▸ implTake_ev (l.map cvTimer) (by simp; omega)
  obtain ⟨K4, h4⟩ := eqTimerS_ev (l.map cvTimer) (by simp; omega)
  obtain ⟨K5, h5⟩ := eqTimerS_ev g (by omega)
  obtain ⟨K6, h6⟩ := markTimerS_ev (l.map cvTimer) (by simp; omega)
  obtain ⟨K7, h7⟩ := markTimerS_ev g (by omega)
  obtain ⟨K8, h8⟩ := heldTimerS_ev g (by omega)
  have H1 := fun m => h1 (K1 + K2 + K3 + K4 + K5 + K6 + K7 + K8 + m) (by omega)
  have H2 := fun m => h2 (K1 + K2 + K3 + K4 + K5 + K6 + K7 + K8 + m) (by omega)
  have H3 := fun m => h3 (K1 + K2 + K3 + K4 + K5 + K6 + K7 + K8 + m) (by omega)
  have H4 := fun m => h4 (K1 + K2 + K3 + K4 + K5 + K6 + K7 + K8 + m) (by omega)
  have H5 := fun m => h5 (K1 + K2 + K3 + K4 + K5 + K6 + K7 + K8 + m) (by omega)
  have H6 := fun m => h6 (K1 + K2 + K3 + K4 + K5 + K6 + K7 + K8 + m) (by omega)
  have H7 := fun m => h7 (K1 + K2 + K3 + K4 + K5 + K6 + K7 + K8 + m) (by omega)
  have H8 := fun m => h8 (K1 + K2 + K3 + K4 + K5 + K6 + K7 + K8 + m) (by omega)
  dsimp only at H1 H2 H3 H4 H5 H6 H7 H8
  exact ⟨K1 + K2 + K3 + K4 + K5 + K6 + K7 + K8 + 6, by simp [laws_FnExactHeapTake.f, laws_FnExactHeapTake.j0, laws_FnExactHeapTake.j1, laws_FnExactHeapTake.j2, hr, hn, not_neg12, H1, H2, H3, H4, H5, H6, H7, H8, laws_eqTimer.f]⟩

end Go.Proofs.Ytkjakmbmnbjpbaa.Print
