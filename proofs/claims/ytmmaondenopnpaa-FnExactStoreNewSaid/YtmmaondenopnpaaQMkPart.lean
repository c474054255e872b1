import Derived.Test.YtmmaondenopnpaaF0
import Derived.Test.YtmmaondenopnpaaF67
import Derived.Test.YtmmaondenopnpaaF71
import Derived.Test.YtmmaondenopnpaaQBase
import Derived.Test.YtmmaondenopnpaaQMkText
import Derived.Test.YtmmaondenopnpaaQMkChain
namespace Go.Proofs.Ytmmaondenopnpaa.Print
open Go.RowKit Go.Proofs.YtmmaondenopnpaaV.PrintWords Go.Proofs.YtmmaondenopnpaaV.PrintLast Go.Proofs.YtmmaondenopnpaaV.PrintMore
set_option linter.unusedVariables false
set_option linter.unusedSimpArgs false
def cnParts : List S105 → Nat
  | [] => 0
  | y :: ys => cnChains y.f2 + 2 + cnParts ys
noncomputable def mkParts : Int → List S105 → List S105
  | _, [] => []
  | k0, y :: ys => ⟨k0, (k0 + 1), mkChains (k0 + 2) y.f2⟩ :: mkParts (k0 + 2 + (cnChains y.f2 : Int)) ys
theorem mkParts_length : ∀ (k0 : Int) (l : List S105), (mkParts k0 l).length = l.length
  | _, [] => rfl
  | k0, y :: ys => by simp [mkParts, mkParts_length _ ys]
theorem cnParts_le : ∀ (l : List S105), l.length ≤ cnParts l
  | [] => Nat.le_refl _
  | y :: ys => by have := cnParts_le ys; simp only [cnParts, List.length_cons]; omega
theorem rdmmPart (pre suf : List S105) (y : S105) : rd_T105 (pre ++ y :: suf) (pre.length : Int) = y := by unfold rd_T105; simp
theorem markPartS_l0 : ∀ (suf pre : List S105) (k0 : Int), 0 ≤ k0 → k0 + (cnParts suf : Int) < 4611686018427387904 → (pre ++ suf).length < 4611686018427387904 → Ev (fun k => laws_markPartS.l0 k (pre ++ suf) k0 (pre.length : Int)) (k0 + (cnParts suf : Int), pre ++ mkParts k0 suf)
  | [], pre, k0, h0, h1, h => by
    refine Ev.step (f := fun _ => some (k0, pre ++ [])) (fun k => ?_) (by rw [show (k0 + (cnParts [] : Int), pre ++ mkParts k0 []) = (k0, pre ++ []) from by simp [cnParts, mkParts]]; exact Ev.now _)
    simp only [laws_markPartS.l0]
    rw [if_neg (not_lt_end pre)]
  | y :: suf, pre, k0, h0, h1, h => by
    have hp : pre.length < 4611686018427387904 := by simp at h; omega
    have hc : cnParts (y :: suf) = cnChains y.f2 + 2 + cnParts suf := rfl
    rw [hc] at h1 ⊢
    obtain ⟨K, g⟩ := markPartS_l0 suf (pre ++ [(⟨k0, (k0 + 1), mkChains (k0 + 2) y.f2⟩ : S105)]) (k0 + 2 + (cnChains y.f2 : Int)) (by omega) (by omega) (by simpa using h)
    obtain ⟨K0, g0⟩ := markChainS_ev y.f2 (k0 + 2) (by omega) (by omega)
    refine ⟨K + K0 + 1, fun k hk => ?_⟩
    obtain ⟨k, rfl⟩ : ∃ m, k = m + 1 := ⟨k - 1, by omega⟩
    have G := g k (by omega)
    have G0 := g0 k (by omega)
    dsimp only at G G0
    have w0 : wrap64 (k0 + 1) = (k0 + 1) := (wrap_id (by omega) (by omega)).trans (by omega)
    have w1 : wrap64 ((k0 + 1) + 1) = (k0 + 2) := (wrap_id (by omega) (by omega)).trans (by omega)
    simp only [laws_markPartS.l0]
    rw [if_pos (lt_mid pre suf y)]
    simp only [nn, if_true, rdmmPart, Option.bind_some, Int.toNat_natCast, set_mid, wrap_up pre.length (by omega), G0, w0, w1]
    have eL : pre ++ (⟨k0, (k0 + 1), mkChains (k0 + 2) y.f2⟩ : S105) :: suf = (pre ++ [(⟨k0, (k0 + 1), mkChains (k0 + 2) y.f2⟩ : S105)]) ++ suf := by simp
    have eN : ((pre.length + 1 : Nat) : Int) = ((pre ++ [(⟨k0, (k0 + 1), mkChains (k0 + 2) y.f2⟩ : S105)]).length : Int) := by simp
    rw [eL, eN, G]
    refine congrArg some (Prod.ext ?_ ?_)
    · simp only []; push_cast; omega
    · simp [mkParts]
theorem markPartS_ev (l : List S105) (k0 : Int) (h0 : 0 ≤ k0) (h1 : k0 + (cnParts l : Int) < 4611686018427387904) : Ev (fun k => laws_markPartS.f k l k0) (k0 + (cnParts l : Int), mkParts k0 l) := by
  have := cnParts_le l
  exact Ev.congr (fun k => by unfold laws_markPartS.f; rfl) (markPartS_l0 l [] k0 h0 h1 (by simp; omega))
theorem heldPartS_l0 : ∀ (suf pre : List S105) (k0 : Int), 0 ≤ k0 → k0 + (cnParts suf : Int) < 4611686018427387904 → (pre ++ suf).length < 4611686018427387904 → Ev (fun k => laws_heldPartS.l0 k (pre ++ mkParts k0 suf) k0 (pre.length : Int)) (k0 + (cnParts suf : Int))
  | [], pre, k0, h0, h1, h => by
    refine Ev.step (f := fun _ => some k0) (fun k => ?_) (by simpa [cnParts] using Ev.now k0)
    rw [show mkParts k0 [] = [] from rfl]
    simp only [laws_heldPartS.l0]
    rw [if_neg (not_lt_end pre)]
  | y :: suf, pre, k0, h0, h1, h => by
    have hp : pre.length < 4611686018427387904 := by simp at h; omega
    have hc : cnParts (y :: suf) = cnChains y.f2 + 2 + cnParts suf := rfl
    rw [hc] at h1 ⊢
    obtain ⟨K, g⟩ := heldPartS_l0 suf (pre ++ [(⟨k0, (k0 + 1), mkChains (k0 + 2) y.f2⟩ : S105)]) (k0 + 2 + (cnChains y.f2 : Int)) (by omega) (by omega) (by simpa using h)
    obtain ⟨K0, g0⟩ := heldChainS_ev y.f2 (k0 + 2) (by omega) (by omega)
    refine ⟨K + K0 + 1, fun k hk => ?_⟩
    obtain ⟨k, rfl⟩ : ∃ m, k = m + 1 := ⟨k - 1, by omega⟩
    have G := g k (by omega)
    have G0 := g0 k (by omega)
    dsimp only at G G0
    have w0 : wrap64 (k0 + 1) = (k0 + 1) := (wrap_id (by omega) (by omega)).trans (by omega)
    have w1 : wrap64 ((k0 + 1) + 1) = (k0 + 2) := (wrap_id (by omega) (by omega)).trans (by omega)
    have n2 : ¬ ((k0 + 2) + (cnChains y.f2 : Int) < 0) := by omega
    rw [show mkParts k0 (y :: suf) = ⟨k0, (k0 + 1), mkChains (k0 + 2) y.f2⟩ :: mkParts (k0 + 2 + (cnChains y.f2 : Int)) suf from rfl]
    simp only [laws_heldPartS.l0]
    rw [if_pos (lt_mid pre _ _)]
    simp only [nn, if_true, if_false, rdmmPart, Option.bind_some, wrap_up pre.length (by omega), G0, w0, w1, n2, bne_self_eq_false, Bool.false_eq_true]
    have eL : pre ++ (⟨k0, (k0 + 1), mkChains (k0 + 2) y.f2⟩ : S105) :: mkParts (k0 + 2 + (cnChains y.f2 : Int)) suf = (pre ++ [(⟨k0, (k0 + 1), mkChains (k0 + 2) y.f2⟩ : S105)]) ++ mkParts (k0 + 2 + (cnChains y.f2 : Int)) suf := by simp
    have eN : ((pre.length + 1 : Nat) : Int) = ((pre ++ [(⟨k0, (k0 + 1), mkChains (k0 + 2) y.f2⟩ : S105)]).length : Int) := by simp
    rw [eL, eN, G]
    refine congrArg some ?_
    push_cast; omega
theorem heldPartS_ev (l : List S105) (k0 : Int) (h0 : 0 ≤ k0) (h1 : k0 + (cnParts l : Int) < 4611686018427387904) : Ev (fun k => laws_heldPartS.f k (mkParts k0 l) k0) (k0 + (cnParts l : Int)) := by
  have := cnParts_le l
  exact Ev.congr (fun k => by unfold laws_heldPartS.f; rfl) (heldPartS_l0 l [] k0 h0 h1 (by simp; omega))

end Go.Proofs.Ytmmaondenopnpaa.Print
