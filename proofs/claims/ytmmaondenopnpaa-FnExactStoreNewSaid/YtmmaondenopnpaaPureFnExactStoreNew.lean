/- The law FnExactStoreNew answers true for all arguments that can be read: the pure statement, without Go and memory. No condition. -/
import Derived.Test.YtmmaondenopnpaaF0
import Derived.Test.YtmmaondenopnpaaF56
import Derived.Test.YtmmaondenopnpaaF57
import Derived.Test.YtmmaondenopnpaaF58
import Derived.Test.YtmmaondenopnpaaF72
import Derived.Test.YtmmaondenopnpaaQBase
import Derived.Test.YtmmaondenopnpaaQEqPartS
import Derived.Test.YtmmaondenopnpaaQMkPart
namespace Go.Proofs.Ytmmaondenopnpaa.Print
open Go.RowKit Go.Proofs.YtmmaondenopnpaaV.PrintWords Go.Proofs.YtmmaondenopnpaaV.PrintLast Go.Proofs.YtmmaondenopnpaaV.PrintMore
set_option linter.unusedVariables false
set_option linter.unusedSimpArgs false
def zPart : S105 := ⟨-1, 0, []⟩
def storeNew (n : Int) : List S105 := if n = 2 then [zPart, zPart] else if n = 3 then [zPart, zPart, zPart] else [zPart]
theorem wr1 : wrap64 1 = 1 := wrap_id (by omega) (by omega)
theorem wr2 : wrap64 2 = 2 := wrap_id (by omega) (by omega)
theorem wr3 : wrap64 3 = 3 := wrap_id (by omega) (by omega)
theorem implStoreNew_ev (n : Int) : Ev (fun k => impl_StoreNew.f k n) (storeNew n) := by
  refine ⟨10, fun k hk => ?_⟩
  obtain ⟨m, rfl⟩ : ∃ m, k = m + 10 := ⟨k - 10, by omega⟩
  by_cases h1 : n ≥ 1
  · by_cases h2 : n ≤ 3
    · rcases (show n = 1 ∨ n = 2 ∨ n = 3 by omega) with rfl | rfl | rfl <;> simp [impl_StoreNew.f, impl_in.f, impl_StoreNew.j0, impl_StoreNew.l0, storeNew, zPart, wr1, wr2, wr3]
    · simp [impl_StoreNew.f, impl_in.f, h1, h2, impl_StoreNew.j0, impl_StoreNew.l0, storeNew, zPart, wr1, show n ≠ 2 by omega, show n ≠ 3 by omega]
  · simp [impl_StoreNew.f, impl_in.f, h1, impl_StoreNew.j0, impl_StoreNew.l0, storeNew, zPart, wr1, show n ≠ 2 by omega, show n ≠ 3 by omega]
theorem specStoreNew_ev (n : Int) : Ev (fun k => spec_StoreNew.f k n) (storeNew n) := by
  refine ⟨10, fun k hk => ?_⟩
  obtain ⟨m, rfl⟩ : ∃ m, k = m + 10 := ⟨k - 10, by omega⟩
  by_cases h1 : n > 1
  · by_cases h2 : n ≤ 3
    · rcases (show n = 2 ∨ n = 3 by omega) with rfl | rfl <;> simp [spec_StoreNew.f, spec_StoreNew.l0, storeNew, zPart]
    · simp [spec_StoreNew.f, spec_StoreNew.l0, storeNew, zPart, show ¬ n ≤ 3 by omega, show n ≠ 2 by omega, show n ≠ 3 by omega]
  · simp [spec_StoreNew.f, spec_StoreNew.l0, storeNew, zPart, show ¬ 1 < n by omega, show n ≠ 2 by omega, show n ≠ 3 by omega]
theorem storeNew_wi (n : Int) : (storeNew n).length ≤ 4000000 ∧ ∀ y ∈ storeNew n, WiPart y := by
  have hz : WiPart zPart := ⟨trivial, trivial, by simp [zPart], fun y hy => by simp [zPart] at hy⟩
  have : ∀ y ∈ storeNew n, y = zPart := by intro y hy; unfold storeNew at hy; split at hy <;> (try split at hy) <;> simp at hy <;> exact hy
  exact ⟨by unfold storeNew; split <;> (try split) <;> simp, fun y hy => by rw [this y hy]; exact hz⟩
theorem storeNew_cn (n : Int) : cnParts (storeNew n) ≤ 6 := by unfold storeNew; split <;> (try split) <;> simp [cnParts, zPart, cnChains]
theorem pure_FnExactStoreNew : laws_FnExactStoreNew.Pure := by
  intro n _
  have hc := storeNew_cn n
  obtain ⟨K0, g0⟩ := implStoreNew_ev n
  obtain ⟨K1, g1⟩ := specStoreNew_ev n
  obtain ⟨K2, g2⟩ := eqPartS_ev (storeNew n) (storeNew_wi n)
  obtain ⟨K3, g3⟩ := markPartS_ev (storeNew n) 1 (by omega) (by omega)
  obtain ⟨K4, g4⟩ := heldPartS_ev (storeNew n) 1 (by omega) (by omega)
  have G0 := g0 (K0 + K1 + K2 + K3 + K4) (by omega)
  have G1 := g1 (K0 + K1 + K2 + K3 + K4) (by omega)
  have G2 := g2 (K0 + K1 + K2 + K3 + K4) (by omega)
  have G3 := g3 (K0 + K1 + K2 + K3 + K4) (by omega)
  have G4 := g4 (K0 + K1 + K2 + K3 + K4) (by omega)
  simp only at G0 G1 G2 G3 G4
  have hn : (1 + (cnParts (storeNew n) : Int) < 0) = False := eq_false (by omega)
  exact ⟨K0 + K1 + K2 + K3 + K4, by simp [laws_FnExactStoreNew.f, G0, G1, G2, G3, G4, hn]⟩
end Go.Proofs.Ytmmaondenopnpaa.Print
namespace Go.Proofs.Ytmmaondenopnpaa.Pure
theorem FnExactStoreNew : Go.Proofs.Ytmmaondenopnpaa.Print.laws_FnExactStoreNew.Pure := Go.Proofs.Ytmmaondenopnpaa.Print.pure_FnExactStoreNew
end Go.Proofs.Ytmmaondenopnpaa.Pure
namespace Go.Proofs.Ytmmaondenopnpaa.Print

end Go.Proofs.Ytmmaondenopnpaa.Print
