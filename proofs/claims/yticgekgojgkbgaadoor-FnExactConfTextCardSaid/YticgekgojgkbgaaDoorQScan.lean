import Derived.Test.YticgekgojgkbgaaDoorF0
import Derived.Test.YticgekgojgkbgaaDoorQBase
namespace Go.Proofs.YticgekgojgkbgaaDoor.Print
open Go.RowKit Go.Proofs.YticgekgojgkbgaaDoorV.PrintWords Go.Proofs.YticgekgojgkbgaaDoorV.PrintLast Go.Proofs.YticgekgojgkbgaaDoorV.PrintMore
set_option linter.unusedVariables false
set_option linter.unusedSimpArgs false
/-- A loop that goes on or stops with an answer. -/
def scan {ρ : Type} (step : Nat → Option ρ) (fin : ρ) : Nat → Nat → ρ
  | 0, _ => fin
  | d + 1, i => match step i with
    | some r => r
    | none => scan step fin d (i + 1)
/-- What one round does. -/
def goOn {ρ : Type} (o : Option ρ) (next : Option ρ) : Option ρ := match o with
  | some r => some r
  | none => next
theorem goOn_none {ρ : Type} (next : Option ρ) : goOn none next = next := rfl
theorem goOn_some {ρ : Type} (r : ρ) (next : Option ρ) : goOn (some r) next = some r := rfl
theorem scan_ev2 {ρ : Type} {F : Nat → Int → Option ρ} {n : Nat} {step : Nat → Option ρ} {fin : ρ} (hend : ∃ K, ∀ k, K ≤ k → F (k + 1) (n : Int) = some fin)
    (hstep : ∀ i, i < n → ∃ K, ∀ k, K ≤ k → F (k + 1) (i : Int) = goOn (step i) (F k ((i + 1 : Nat) : Int))) : ∀ d i, d + i = n → Ev (fun k => F k (i : Int)) (scan step fin d i)
  | 0, i, h => by
    obtain rfl : i = n := by omega
    obtain ⟨K, hK⟩ := hend
    refine ⟨K + 1, fun k hk => ?_⟩
    obtain ⟨m, rfl⟩ : ∃ m, k = m + 1 := ⟨k - 1, by omega⟩
    exact hK m (by omega)
  | d + 1, i, h => by
    obtain ⟨K, hK⟩ := hstep i (by omega)
    unfold scan
    cases hs : step i with
    | some r =>
      refine ⟨K + 1, fun k hk => ?_⟩
      obtain ⟨m, rfl⟩ : ∃ m, k = m + 1 := ⟨k - 1, by omega⟩
      have := hK m (by omega)
      rw [hs] at this
      exact this
    | none =>
      obtain ⟨K', hK'⟩ := scan_ev2 hend hstep d (i + 1) (by omega)
      refine ⟨max K K' + 1, fun k hk => ?_⟩
      obtain ⟨m, rfl⟩ : ∃ m, k = m + 1 := ⟨k - 1, by omega⟩
      have := hK m (by omega)
      rw [hs] at this
      exact this.trans (hK' m (by omega))
theorem scan_ev {ρ : Type} {F : Nat → Int → Option ρ} {n : Nat} {step : Nat → Option ρ} {fin : ρ} (hend : ∀ k, F (k + 1) (n : Int) = some fin)
    (hstep : ∀ i, i < n → ∃ K, ∀ k, K ≤ k → F (k + 1) (i : Int) = goOn (step i) (F k ((i + 1 : Nat) : Int))) : ∀ d i, d + i = n → Ev (fun k => F k (i : Int)) (scan step fin d i) := scan_ev2 ⟨0, fun k _ => hend k⟩ hstep
theorem scan_congr {ρ : Type} {s s' : Nat → Option ρ} {f : ρ} : ∀ d i, (∀ j, i ≤ j → j < i + d → s j = s' j) → scan s f d i = scan s' f d i
  | 0, _, _ => rfl
  | d + 1, i, h => by
    unfold scan
    rw [h i (Nat.le_refl _) (by omega)]
    cases s' i with
    | some r => rfl
    | none => exact scan_congr d (i + 1) (fun j h1 h2 => h j (by omega) (by omega))
/-- All of a list, and e. -/
theorem scan_all {α : Type} (p : α → Bool) (z : α) (e : Bool) : ∀ (suf pre : List α), scan (fun i => if p ((pre ++ suf).getD i z) = true then none else some false) e suf.length pre.length = (suf.all p && e)
  | [], pre => by simp [scan]
  | y :: suf, pre => by
    have ih := scan_all p z e suf (pre ++ [y])
    simp only [List.append_assoc, List.singleton_append, List.length_append, List.length_singleton] at ih
    simp only [List.length_cons, scan]
    rw [show (pre ++ y :: suf).getD pre.length z = y by simp]
    cases hp : p y with
    | true => simp only [if_true]; rw [ih]; simp [hp]
    | false => simp [hp]
theorem scan_all0 {α : Type} (p : α → Bool) (z : α) (e : Bool) (l : List α) : scan (fun i => if p (l.getD i z) = true then none else some false) e l.length 0 = (l.all p && e) := scan_all p z e l []
/-- Two lists of one length, element by element. -/
theorem scan_same {α β : Type} [DecidableEq β] (f : α → β) (z : α) : ∀ (a b pa pb : List α), a.length = b.length → pa.length = pb.length →
    scan (fun i => if f ((pa ++ a).getD i z) = f ((pb ++ b).getD i z) then none else some false) true a.length pa.length = decide (a.map f = b.map f)
  | [], [], pa, pb, _, _ => by simp [scan]
  | [], _ :: _, _, _, h, _ => by simp at h
  | _ :: _, [], _, _, h, _ => by simp at h
  | x :: a, y :: b, pa, pb, h, h2 => by
    have ih := scan_same f z a b (pa ++ [x]) (pb ++ [y]) (by simpa using h) (by simp [h2])
    simp only [List.append_assoc, List.singleton_append, List.length_append, List.length_singleton] at ih
    simp only [List.length_cons, scan]
    rw [show (pa ++ x :: a).getD pa.length z = x by simp, show (pb ++ y :: b).getD pa.length z = y by rw [h2]; simp]
    by_cases he : f x = f y
    · simp only [if_pos he]; rw [ih]; simp [he]
    · simp [he]
theorem scan_same0 {α β : Type} [DecidableEq β] (f : α → β) (z : α) (a b : List α) (h : a.length = b.length) : scan (fun i => if f (a.getD i z) = f (b.getD i z) then none else some false) true a.length 0 = decide (a.map f = b.map f) := scan_same f z a b [] [] h rfl
/-- The place of the first that is so, or -1. -/
def place {α : Type} (p : α → Bool) : List α → Nat → Int
  | [], _ => -1
  | x :: l, i => if p x = true then (i : Int) else place p l (i + 1)
theorem scan_place {α : Type} (p : α → Bool) (z : α) : ∀ (suf pre : List α), scan (fun i => if p ((pre ++ suf).getD i z) = true then some (i : Int) else none) (-1) suf.length pre.length = place p suf pre.length
  | [], pre => by simp [scan, place]
  | y :: suf, pre => by
    have ih := scan_place p z suf (pre ++ [y])
    simp only [List.append_assoc, List.singleton_append, List.length_append, List.length_singleton] at ih
    simp only [List.length_cons, scan, place]
    rw [show (pre ++ y :: suf).getD pre.length z = y by simp]
    by_cases hp : p y = true
    · simp [hp]
    · simp only [if_neg hp]; exact ih
theorem scan_place0 {α : Type} (p : α → Bool) (z : α) (l : List α) : scan (fun i => if p (l.getD i z) = true then some (i : Int) else none) (-1) l.length 0 = place p l 0 := scan_place p z l []
theorem getD_eq {α : Type} (l : List α) (i : Nat) (z : α) (h : i < l.length) : l.getD i z = l[i] := by simp [List.getD_eq_getElem?_getD, List.getElem?_eq_getElem h]
theorem getD_mem {α : Type} (l : List α) (i : Nat) (z : α) (h : i < l.length) : l.getD i z ∈ l := by rw [getD_eq l i z h]; exact List.getElem_mem h

end Go.Proofs.YticgekgojgkbgaaDoor.Print
