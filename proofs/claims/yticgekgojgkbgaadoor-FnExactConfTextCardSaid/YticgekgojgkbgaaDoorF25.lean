-- Written by printx.py, a program of this session (wip/gen), over the kit's print.py.
import Derived.Test.YticgekgojgkbgaaDoorF0
import Derived.Test.YticgekgojgkbgaaDoorNJoin
namespace Go.Proofs.YticgekgojgkbgaaDoor.Print
open Go.RowKit Go.Proofs.YticgekgojgkbgaaDoorV.PrintWords Go.Proofs.YticgekgojgkbgaaDoorV.PrintLast Go.Proofs.YticgekgojgkbgaaDoorV.PrintMore
attribute [local go_sem] max2_int min2_int max_two min_two max_three min_three max_four min_four   -- for this text's walks alone
set_option linter.unusedVariables false
set_option linter.unusedSimpArgs false

/-! ### strings_Join: function 14 -/
def strings_Join.f (l0 : List ByteArray) (a1 : ByteArray) : Option ByteArray := if l0.length ≤ 140737488355328 ∧ (Lib.join (l0.map (·.data.toList)) a1.data.toList).length ≤ 140737488355328 then some ⟨(Lib.join (l0.map (·.data.toList)) a1.data.toList).toArray⟩ else none
theorem strings_Join.calls (A0 : Option Addr) (c0 : Nat) (l0 : List ByteArray) (a1 : ByteArray) (r : ByteArray) (w : World) (hr0 : Kd.C Kd.string w A0 l0.length l0) (hc0 : l0.length ≤ c0) (h : strings_Join.f l0 a1 = some r) :
 Calls Tryd.prog 14 #[.slice A0 l0.length c0, .string a1] w fun e w' => e = .returned (.string r) ∧ Below w.heap.size w w' := by
 unfold strings_Join.f at h
 split at h
 ·
  rename_i hb
  injection h with h
  subst h
  by_cases h0 : l0 = []
  ·
   subst h0
   exact (Tryd.strings_Join_none A0 c0 a1 w).mono fun e w' ⟨he, hw⟩ => ⟨he, hw ▸ Below.refl _ _⟩
  ·
   obtain ⟨ad, rfl, hcell⟩ := hr0.2.2 (List.length_pos_iff.2 h0)
   have hc : ∀ (j : Nat) x, l0[j]? = some x → w.cell? (ad.add j) = some (.string x) := by
    intro j x hx
    obtain ⟨c, hl, hk, hu⟩ := hcell j x hx
    have := hu 0 (.string x) (by rw [show c = [.string x] from hk]; rfl)
    simpa [Kd.string, Kd.scalar] using this
   have hp : 0 < l0.length := List.length_pos_iff.2 h0
   have hs := hc 0 l0[0] (List.getElem?_eq_getElem hp)
   have hb0 : ad.block < w.heap.size := by
    have h1 := hs
    rw [show ad.add 0 = ad from rfl] at h1
    unfold World.cell? at h1
    by_cases hlt : ad.block < w.heap.size
    ·
     exact hlt
    ·
     rw [Array.getElem?_eq_none (by omega)] at h1; simp at h1
   have hspot : ad = ⟨ad.block, ad.off, none⟩ := by
    have h1 := hs
    rw [show ad.add 0 = ad from rfl] at h1
    unfold World.cell? at h1
    rcases ad with ⟨b, o, s⟩
    cases s with
    | none => rfl
    | some s => simp only [Option.isSome_some, if_true] at h1; split at h1 <;> simp at h1
   have hcells : ∀ (j : Nat) x, l0[j]? = some x → w.cell? ⟨ad.block, ad.off + j, none⟩ = some (.string x) := by
    intro j x hx
    have := hc j x hx
    unfold Addr.add at this
    by_cases hj : j = 0
    ·
     subst hj; rw [if_pos rfl] at this; rw [hspot] at this; exact this
    ·
     rw [if_neg hj] at this; exact this
   rw [show (some ad : Option Addr) = some ⟨ad.block, ad.off, none⟩ from by rw [← hspot]]
   exact Tryd.strings_Join ad.block ad.off c0 l0 a1 w hcells hb0 hb.1 hc0 hb.2
 ·
  exact absurd h (by simp)

end Go.Proofs.YticgekgojgkbgaaDoor.Print
