import Derived.Test.YtmmaondenopnpaaF0
import Derived.Test.YtmmaondenopnpaaF66
import Derived.Test.YtmmaondenopnpaaF70
import Derived.Test.YtmmaondenopnpaaQBase
import Derived.Test.YtmmaondenopnpaaQMkText
import Derived.Test.YtmmaondenopnpaaQMkAlarm
namespace Go.Proofs.Ytmmaondenopnpaa.Print
open Go.RowKit Go.Proofs.YtmmaondenopnpaaV.PrintWords Go.Proofs.YtmmaondenopnpaaV.PrintLast Go.Proofs.YtmmaondenopnpaaV.PrintMore
set_option linter.unusedVariables false
set_option linter.unusedSimpArgs false
def cnChains : List S124 → Nat
  | [] => 0
  | y :: ys => cnAlarms y.f1 + 1 + cnChains ys
noncomputable def mkChains : Int → List S124 → List S124
  | _, [] => []
  | k0, y :: ys => ⟨k0, mkAlarms (k0 + 1) y.f1⟩ :: mkChains (k0 + 1 + (cnAlarms y.f1 : Int)) ys
theorem mkChains_length : ∀ (k0 : Int) (l : List S124), (mkChains k0 l).length = l.length
  | _, [] => rfl
  | k0, y :: ys => by simp [mkChains, mkChains_length _ ys]
theorem cnChains_le : ∀ (l : List S124), l.length ≤ cnChains l
  | [] => Nat.le_refl _
  | y :: ys => by have := cnChains_le ys; simp only [cnChains, List.length_cons]; omega
theorem rdmmChain (pre suf : List S124) (y : S124) : rd_T124 (pre ++ y :: suf) (pre.length : Int) = y := by unfold rd_T124; simp
theorem markChainS_l0 : ∀ (suf pre : List S124) (k0 : Int), 0 ≤ k0 → k0 + (cnChains suf : Int) < 4611686018427387904 → (pre ++ suf).length < 4611686018427387904 → Ev (fun k => laws_markChainS.l0 k (pre ++ suf) k0 (pre.length : Int)) (k0 + (cnChains suf : Int), pre ++ mkChains k0 suf)
  | [], pre, k0, h0, h1, h => by
    refine Ev.step (f := fun _ => some (k0, pre ++ [])) (fun k => ?_) (by rw [show (k0 + (cnChains [] : Int), pre ++ mkChains k0 []) = (k0, pre ++ []) from by simp [cnChains, mkChains]]; exact Ev.now _)
    simp only [laws_markChainS.l0]
    rw [if_neg (not_lt_end pre)]
  | y :: suf, pre, k0, h0, h1, h => by
    have hp : pre.length < 4611686018427387904 := by simp at h; omega
    have hc : cnChains (y :: suf) = cnAlarms y.f1 + 1 + cnChains suf := rfl
    rw [hc] at h1 ⊢
    obtain ⟨K, g⟩ := markChainS_l0 suf (pre ++ [(⟨k0, mkAlarms (k0 + 1) y.f1⟩ : S124)]) (k0 + 1 + (cnAlarms y.f1 : Int)) (by omega) (by omega) (by simpa using h)
    obtain ⟨K0, g0⟩ := markAlarmS_ev y.f1 (k0 + 1) (by omega) (by omega)
    refine ⟨K + K0 + 1, fun k hk => ?_⟩
    obtain ⟨k, rfl⟩ : ∃ m, k = m + 1 := ⟨k - 1, by omega⟩
    have G := g k (by omega)
    have G0 := g0 k (by omega)
    dsimp only at G G0
    have w0 : wrap64 (k0 + 1) = (k0 + 1) := (wrap_id (by omega) (by omega)).trans (by omega)
    simp only [laws_markChainS.l0]
    rw [if_pos (lt_mid pre suf y)]
    simp only [nn, if_true, rdmmChain, Option.bind_some, Int.toNat_natCast, set_mid, wrap_up pre.length (by omega), G0, w0]
    have eL : pre ++ (⟨k0, mkAlarms (k0 + 1) y.f1⟩ : S124) :: suf = (pre ++ [(⟨k0, mkAlarms (k0 + 1) y.f1⟩ : S124)]) ++ suf := by simp
    have eN : ((pre.length + 1 : Nat) : Int) = ((pre ++ [(⟨k0, mkAlarms (k0 + 1) y.f1⟩ : S124)]).length : Int) := by simp
    rw [eL, eN, G]
    refine congrArg some (Prod.ext ?_ ?_)
    · simp only []; push_cast; omega
    · simp [mkChains]
theorem markChainS_ev (l : List S124) (k0 : Int) (h0 : 0 ≤ k0) (h1 : k0 + (cnChains l : Int) < 4611686018427387904) : Ev (fun k => laws_markChainS.f k l k0) (k0 + (cnChains l : Int), mkChains k0 l) := by
  have := cnChains_le l
  exact Ev.congr (fun k => by unfold laws_markChainS.f; rfl) (markChainS_l0 l [] k0 h0 h1 (by simp; omega))
theorem heldChainS_l0 : ∀ (suf pre : List S124) (k0 : Int), 0 ≤ k0 → k0 + (cnChains suf : Int) < 4611686018427387904 → (pre ++ suf).length < 4611686018427387904 → Ev (fun k => laws_heldChainS.l0 k (pre ++ mkChains k0 suf) k0 (pre.length : Int)) (k0 + (cnChains suf : Int))
  | [], pre, k0, h0, h1, h => by
    refine Ev.step (f := fun _ => some k0) (fun k => ?_) (by simpa [cnChains] using Ev.now k0)
    rw [show mkChains k0 [] = [] from rfl]
    simp only [laws_heldChainS.l0]
    rw [if_neg (not_lt_end pre)]
  | y :: suf, pre, k0, h0, h1, h => by
    have hp : pre.length < 4611686018427387904 := by simp at h; omega
    have hc : cnChains (y :: suf) = cnAlarms y.f1 + 1 + cnChains suf := rfl
    rw [hc] at h1 ⊢
    obtain ⟨K, g⟩ := heldChainS_l0 suf (pre ++ [(⟨k0, mkAlarms (k0 + 1) y.f1⟩ : S124)]) (k0 + 1 + (cnAlarms y.f1 : Int)) (by omega) (by omega) (by simpa using h)
    obtain ⟨K0, g0⟩ := heldAlarmS_ev y.f1 (k0 + 1) (by omega) (by omega)
    refine ⟨K + K0 + 1, fun k hk => ?_⟩
    obtain ⟨k, rfl⟩ : ∃ m, k = m + 1 := ⟨k - 1, by omega⟩
    have G := g k (by omega)
    have G0 := g0 k (by omega)
    dsimp only at G G0
    have w0 : wrap64 (k0 + 1) = (k0 + 1) := (wrap_id (by omega) (by omega)).trans (by omega)
    have n1 : ¬ ((k0 + 1) + (cnAlarms y.f1 : Int) < 0) := by omega
    rw [show mkChains k0 (y :: suf) = ⟨k0, mkAlarms (k0 + 1) y.f1⟩ :: mkChains (k0 + 1 + (cnAlarms y.f1 : Int)) suf from rfl]
    simp only [laws_heldChainS.l0]
    rw [if_pos (lt_mid pre _ _)]
    simp only [nn, if_true, if_false, rdmmChain, Option.bind_some, wrap_up pre.length (by omega), G0, w0, n1, bne_self_eq_false, Bool.false_eq_true]
    have eL : pre ++ (⟨k0, mkAlarms (k0 + 1) y.f1⟩ : S124) :: mkChains (k0 + 1 + (cnAlarms y.f1 : Int)) suf = (pre ++ [(⟨k0, mkAlarms (k0 + 1) y.f1⟩ : S124)]) ++ mkChains (k0 + 1 + (cnAlarms y.f1 : Int)) suf := by simp
    have eN : ((pre.length + 1 : Nat) : Int) = ((pre ++ [(⟨k0, mkAlarms (k0 + 1) y.f1⟩ : S124)]).length : Int) := by simp
    rw [eL, eN, G]
    refine congrArg some ?_
    push_cast; omega
theorem heldChainS_ev (l : List S124) (k0 : Int) (h0 : 0 ≤ k0) (h1 : k0 + (cnChains l : Int) < 4611686018427387904) : Ev (fun k => laws_heldChainS.f k (mkChains k0 l) k0) (k0 + (cnChains l : Int)) := by
  have := cnChains_le l
  exact Ev.congr (fun k => by unfold laws_heldChainS.f; rfl) (heldChainS_l0 l [] k0 h0 h1 (by simp; omega))

end Go.Proofs.Ytmmaondenopnpaa.Print
