import Derived.Test.YtmmaondenopnpaaF0
import Derived.Test.YtmmaondenopnpaaF41
import Derived.Test.YtmmaondenopnpaaF44
import Derived.Test.YtmmaondenopnpaaF47
import Derived.Test.YtmmaondenopnpaaQBase
import Derived.Test.YtmmaondenopnpaaOpen
namespace Go.Proofs.Ytmmaondenopnpaa.Print
open Go.RowKit Go.Proofs.YtmmaondenopnpaaV.PrintWords Go.Proofs.YtmmaondenopnpaaV.PrintLast Go.Proofs.YtmmaondenopnpaaV.PrintMore
set_option linter.unusedVariables false
set_option linter.unusedSimpArgs false
theorem rdmidInt (pre suf : List Int) (y : Int) : rd (pre ++ y :: suf) (pre.length : Int) = y := by unfold rd; simp
theorem szIntS_ev (l : List Int) (hB : l.length ≤ maxLen ∧ ∀ y ∈ l, (Lit.int .i64 y).wf = true) (n : Int) (h0 : 0 ≤ n) (h1 : n ≤ 1048576) : ∃ r, Ev (fun k => laws_szIntS.f l n) r ∧ r ≤ n ∧ (0 ≤ r → l.length ≤ 1048576 ∧ ∀ y ∈ l, True) := by
  have q : l.length ≤ 9223372036854775807 := hB.1
  have e : wrap64 (n - (l.length : Int)) = n - (l.length : Int) := wrap_id (by omega) (by omega)
  by_cases c : n - (l.length : Int) < 0
  · exact ⟨-1, ⟨0, fun k _ => by simp [laws_szIntS.f, e, c]⟩, by omega, by omega⟩
  · exact ⟨n - (l.length : Int), ⟨0, fun k _ => by simp [laws_szIntS.f, e, c]⟩, by omega, fun hr => ⟨by omega, fun y hy => trivial⟩⟩
theorem toIntS_l0 : ∀ (suf pre : List Int), (pre ++ suf).length < 4611686018427387904 → (∀ y ∈ suf, True) → Ev (fun k => laws_toIntS.l0 k (pre ++ suf) (pre ++ List.replicate suf.length 0) (pre.length : Int)) (pre ++ suf)
  | [], pre, h, hW => by
    refine Ev.step (f := fun _ => some (pre ++ [])) (fun k => ?_) (Ev.now _)
    simp only [laws_toIntS.l0]
    rw [if_neg (not_lt_end pre)]
    simp
  | y :: suf, pre, h, hW => by
    have hp : pre.length < 4611686018427387904 := by simp at h; omega
    have ih := toIntS_l0 suf (pre ++ [y]) (by simpa using h) (fun z hz => hW z (List.mem_cons_of_mem _ hz))
    refine Ev.step (f := fun k => laws_toIntS.l0 k ((pre ++ [y]) ++ suf) ((pre ++ [y]) ++ List.replicate suf.length 0) ((pre ++ [y]).length : Int)) (fun k => ?_) (by rw [mid_assoc pre suf y]; exact ih)
    simp only [laws_toIntS.l0]
    rw [if_pos (lt_mid pre suf y), if_pos (nn _), rdmidInt, wrap_up _ (by omega), if_pos (by simp; omega)]
    congr 1
    · simp
    · simp [List.replicate_succ]
    · simp
theorem toIntS_ev (l : List Int) (h : l.length ≤ 1048576 ∧ ∀ y ∈ l, True) : Ev (fun k => laws_toIntS.f k l) l := by
  have h1 := h.1
  refine Ev.congr (fun k => ?_) (toIntS_l0 l [] (by simp; omega) h.2)
  unfold laws_toIntS.f
  rw [if_pos (nn l.length), Int.toNat_natCast, if_pos (by omega)]
  rfl
theorem eqIntS_l0 : ∀ (suf pre : List Int), (pre ++ suf).length < 4611686018427387904 → (∀ y ∈ suf, True) → Ev (fun k => laws_eqIntS.l0 k (pre ++ suf) (pre ++ suf) (pre.length : Int)) true
  | [], pre, h, hW => by
    refine Ev.step (f := fun _ => some true) (fun k => ?_) (Ev.now _)
    simp only [laws_eqIntS.l0]
    rw [if_neg (not_lt_end pre)]
  | y :: suf, pre, h, hW => by
    have hp : pre.length < 4611686018427387904 := by simp at h; omega
    have ih := eqIntS_l0 suf (pre ++ [y]) (by simpa using h) (fun z hz => hW z (List.mem_cons_of_mem _ hz))
    refine Ev.step (f := fun k => laws_eqIntS.l0 k ((pre ++ [y]) ++ suf) ((pre ++ [y]) ++ suf) ((pre ++ [y]).length : Int)) (fun k => ?_) ih
    simp only [laws_eqIntS.l0]
    rw [if_pos (lt_mid pre suf y), if_pos (nn _), if_pos (lt_mid pre suf y), wrap_up _ (by omega)]
    simp
theorem eqIntS_ev (l : List Int) (h : l.length ≤ 4000000 ∧ ∀ y ∈ l, True) : Ev (fun k => laws_eqIntS.f k l l) true := by
  have h1 := h.1
  refine Ev.congr (fun k => ?_) (eqIntS_l0 l [] (by simp; omega) h.2)
  unfold laws_eqIntS.f
  rw [if_pos rfl]
  rfl

end Go.Proofs.Ytmmaondenopnpaa.Print
