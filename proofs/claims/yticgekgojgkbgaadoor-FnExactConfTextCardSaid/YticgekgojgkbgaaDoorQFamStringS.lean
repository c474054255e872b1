import Derived.Test.YticgekgojgkbgaaDoorF0
import Derived.Test.YticgekgojgkbgaaDoorF1
import Derived.Test.YticgekgojgkbgaaDoorF11
import Derived.Test.YticgekgojgkbgaaDoorF42
import Derived.Test.YticgekgojgkbgaaDoorQBase
import Derived.Test.YticgekgojgkbgaaDoorOpen
namespace Go.Proofs.YticgekgojgkbgaaDoor.Print
open Go.RowKit Go.Proofs.YticgekgojgkbgaaDoorV.PrintWords Go.Proofs.YticgekgojgkbgaaDoorV.PrintLast Go.Proofs.YticgekgojgkbgaaDoorV.PrintMore
set_option linter.unusedVariables false
set_option linter.unusedSimpArgs false
theorem rdmidString (pre suf : List ByteArray) (y : ByteArray) : rdOf ByteArray.empty (pre ++ y :: suf) (pre.length : Int) = y := by unfold rdOf; simp
theorem szStringS_l0 : ∀ (suf pre : List ByteArray) (n : Int), 0 ≤ n → n ≤ 1048576 → (∀ y ∈ suf, y.size ≤ maxLen) → (pre ++ suf).length < 4611686018427387904 → ∃ r, Ev (fun k => laws_szStringS.l0 k (pre ++ suf) n (pre.length : Int)) r ∧ r ≤ n ∧ (0 ≤ r → ∀ y ∈ suf, y.size ≤ 1048576)
  | [], pre, n, h0, h1, hB, h => by
    refine ⟨n, Ev.step (f := fun _ => some n) (fun k => ?_) (Ev.now _), Int.le_refl _, fun _ y hy => by cases hy⟩
    simp only [laws_szStringS.l0]
    rw [if_neg (not_lt_end pre)]
  | y :: suf, pre, n, h0, h1, hB, h => by
    have hp : pre.length < 4611686018427387904 := by simp at h; omega
    have hy := hB y List.mem_cons_self
    have q : y.size ≤ 9223372036854775807 := hy
    have e : wrap64 (n - (y.size : Int)) = n - (y.size : Int) := wrap_id (by omega) (by omega)
    by_cases c : n - (y.size : Int) < 0
    · refine ⟨-1, Ev.step (f := fun _ => some (-1)) (fun k => ?_) (Ev.now _), by omega, by omega⟩
      simp only [laws_szStringS.l0]
      rw [if_pos (lt_mid pre suf y), if_pos (nn _), rdmidString, e, if_pos c]
    · obtain ⟨r, g, hl, hw⟩ := szStringS_l0 suf (pre ++ [y]) (n - (y.size : Int)) (by omega) (by omega) (fun z hz => hB z (List.mem_cons_of_mem _ hz)) (by simpa using h)
      refine ⟨r, Ev.step (f := fun k => laws_szStringS.l0 k ((pre ++ [y]) ++ suf) (n - (y.size : Int)) ((pre ++ [y]).length : Int)) (fun k => ?_) g, by omega, fun hr z hz => ?_⟩
      · simp only [laws_szStringS.l0]
        rw [if_pos (lt_mid pre suf y), if_pos (nn _), rdmidString, e, if_neg c, wrap_up _ (by omega)]
        simp
      · rcases List.mem_cons.1 hz with rfl | hz
        · omega
        · exact hw hr z hz
theorem szStringS_ev (l : List ByteArray) (hB : l.length ≤ maxLen ∧ ∀ y ∈ l, y.size ≤ maxLen) (n : Int) (h0 : 0 ≤ n) (h1 : n ≤ 1048576) : ∃ r, Ev (fun k => laws_szStringS.f k l n) r ∧ r ≤ n ∧ (0 ≤ r → l.length ≤ 1048576 ∧ ∀ y ∈ l, y.size ≤ 1048576) := by
  have q : l.length ≤ 9223372036854775807 := hB.1
  have e : wrap64 (n - (l.length : Int)) = n - (l.length : Int) := wrap_id (by omega) (by omega)
  by_cases c : n - (l.length : Int) < 0
  · exact ⟨-1, ⟨0, fun k _ => by simp [laws_szStringS.f, e, c]⟩, by omega, by omega⟩
  · obtain ⟨r, g, hl, hw⟩ := szStringS_l0 l [] (n - (l.length : Int)) (by omega) (by omega) hB.2 (by simp; omega)
    refine ⟨r, Ev.congr (fun k => ?_) g, by omega, fun hr => ⟨by omega, hw hr⟩⟩
    unfold laws_szStringS.f
    rw [e, if_neg c]
    rfl
theorem toStringS_l0 : ∀ (suf pre : List ByteArray), (pre ++ suf).length < 4611686018427387904 → (∀ y ∈ suf, y.size ≤ 1048576) → Ev (fun k => laws_toStringS.l0 k (pre ++ suf) (pre ++ List.replicate suf.length (⟨#[]⟩ : ByteArray)) (pre.length : Int)) (pre ++ suf)
  | [], pre, h, hW => by
    refine Ev.step (f := fun _ => some (pre ++ [])) (fun k => ?_) (Ev.now _)
    simp only [laws_toStringS.l0]
    rw [if_neg (not_lt_end pre)]
    simp
  | y :: suf, pre, h, hW => by
    have hp : pre.length < 4611686018427387904 := by simp at h; omega
    have ih := toStringS_l0 suf (pre ++ [y]) (by simpa using h) (fun z hz => hW z (List.mem_cons_of_mem _ hz))
    refine Ev.step (f := fun k => laws_toStringS.l0 k ((pre ++ [y]) ++ suf) ((pre ++ [y]) ++ List.replicate suf.length (⟨#[]⟩ : ByteArray)) ((pre ++ [y]).length : Int)) (fun k => ?_) (by rw [mid_assoc pre suf y]; exact ih)
    simp only [laws_toStringS.l0]
    rw [if_pos (lt_mid pre suf y), if_pos (nn _), rdmidString, wrap_up _ (by omega), if_pos (by simp; omega)]
    congr 1
    · simp
    · simp [List.replicate_succ]
    · simp
theorem toStringS_ev (l : List ByteArray) (h : l.length ≤ 1048576 ∧ ∀ y ∈ l, y.size ≤ 1048576) : Ev (fun k => laws_toStringS.f k l) l := by
  have h1 := h.1
  refine Ev.congr (fun k => ?_) (toStringS_l0 l [] (by simp; omega) h.2)
  unfold laws_toStringS.f
  rw [if_pos (nn l.length), Int.toNat_natCast, if_pos (by omega)]
  rfl
theorem eqStringS_l0 : ∀ (suf pre : List ByteArray), (pre ++ suf).length < 4611686018427387904 → (∀ y ∈ suf, y.size ≤ 4000000) → Ev (fun k => laws_eqStringS.l0 k (pre ++ suf) (pre ++ suf) (pre.length : Int)) true
  | [], pre, h, hW => by
    refine Ev.step (f := fun _ => some true) (fun k => ?_) (Ev.now _)
    simp only [laws_eqStringS.l0]
    rw [if_neg (not_lt_end pre)]
  | y :: suf, pre, h, hW => by
    have hp : pre.length < 4611686018427387904 := by simp at h; omega
    have ih := eqStringS_l0 suf (pre ++ [y]) (by simpa using h) (fun z hz => hW z (List.mem_cons_of_mem _ hz))
    refine Ev.step (f := fun k => laws_eqStringS.l0 k ((pre ++ [y]) ++ suf) ((pre ++ [y]) ++ suf) ((pre ++ [y]).length : Int)) (fun k => ?_) ih
    simp only [laws_eqStringS.l0]
    rw [if_pos (lt_mid pre suf y), if_pos (nn _), if_pos (lt_mid pre suf y), wrap_up _ (by omega)]
    simp
theorem eqStringS_ev (l : List ByteArray) (h : l.length ≤ 4000000 ∧ ∀ y ∈ l, y.size ≤ 4000000) : Ev (fun k => laws_eqStringS.f k l l) true := by
  have h1 := h.1
  refine Ev.congr (fun k => ?_) (eqStringS_l0 l [] (by simp; omega) h.2)
  unfold laws_eqStringS.f
  rw [if_pos rfl]
  rfl

end Go.Proofs.YticgekgojgkbgaaDoor.Print
