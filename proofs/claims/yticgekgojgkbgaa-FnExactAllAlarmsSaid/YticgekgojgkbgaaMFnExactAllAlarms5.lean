import Derived.Test.YticgekgojgkbgaaMFnExactAllAlarms1
import Derived.Test.YticgekgojgkbgaaMFnExactAllAlarms2
import Derived.Test.YticgekgojgkbgaaMFnExactAllAlarms4
import Derived.Test.YticgekgojgkbgaaMFnExactAllAlarms3
section
namespace Go.Proofs.Yticgekgojgkbgaa.Print
open Go.RowKit Go.Proofs.YticgekgojgkbgaaV.PrintWords Go.Proofs.YticgekgojgkbgaaV.PrintLast Go.Proofs.YticgekgojgkbgaaV.PrintMore
set_option linter.unusedVariables false
set_option linter.unusedSimpArgs false
theorem rdmidPartl (pre suf : List S52) (y : S52) : rd_T52 (pre ++ y :: suf) (pre.length : Int) = y := by unfold rd_T52; simp
theorem rdmidParti (pre suf : List S57) (y : S57) : rd_T57 (pre ++ y :: suf) (pre.length : Int) = y := by unfold rd_T57; simp
theorem szPartS_l0 : ∀ (suf pre : List S52) (n : Int), 0 ≤ n → n ≤ 1048576 → (∀ y ∈ suf, B52 y) → (pre ++ suf).length < 4611686018427387904 → ∃ r, Ev (fun k => laws_szPartS.l0 k (pre ++ suf) n (pre.length : Int)) r ∧ r ≤ n ∧ (0 ≤ r → ∀ y ∈ suf, WPart y)
  | [], pre, n, h0, h1, hB, h => by
    refine ⟨n, Ev.step (f := fun _ => some n) (fun k => ?_) (Ev.now _), Int.le_refl _, fun _ y hy => by cases hy⟩
    simp only [laws_szPartS.l0]
    rw [if_neg (not_lt_end pre)]
  | y :: suf, pre, n, h0, h1, hB, h => by
    have hp : pre.length < 4611686018427387904 := by simp at h; omega
    have hy := hB y List.mem_cons_self
    obtain ⟨r1, g1, l1, w1⟩ := szPart_ev y hy n h0 h1
    by_cases c : r1 < 0
    · refine ⟨-1, Ev.step (f := fun k => (laws_szPart.f k y.f0 y.f1 y.f2 n).bind fun t => if t < 0 then some (-1) else laws_szPartS.l0 k (pre ++ y :: suf) t (wrap64 ((pre.length : Int) + 1))) (fun k => ?_) (Ev.bind g1 ?_), by omega, by omega⟩
      · simp only [laws_szPartS.l0]
        rw [if_pos (lt_mid pre suf y), if_pos (nn _), rdmidPartl]
      · simp only [if_pos c]
        exact Ev.now _
    · obtain ⟨r, g, hl, hw⟩ := szPartS_l0 suf (pre ++ [y]) r1 (by omega) (by omega) (fun z hz => hB z (List.mem_cons_of_mem _ hz)) (by simpa using h)
      refine ⟨r, Ev.step (f := fun k => (laws_szPart.f k y.f0 y.f1 y.f2 n).bind fun t => if t < 0 then some (-1) else laws_szPartS.l0 k ((pre ++ [y]) ++ suf) t ((pre ++ [y]).length : Int)) (fun k => ?_) (Ev.bind g1 ?_), by omega, fun hr z hz => ?_⟩
      · simp only [laws_szPartS.l0]
        rw [if_pos (lt_mid pre suf y), if_pos (nn _), rdmidPartl, wrap_up _ (by omega)]
        simp
      · simp only [if_neg c]
        exact g
      · rcases List.mem_cons.1 hz with rfl | hz
        · exact w1 (by omega)
        · exact hw hr z hz
theorem szPartS_ev (l : List S52) (hB : l.length ≤ maxLen ∧ ∀ y ∈ l, B52 y) (n : Int) (h0 : 0 ≤ n) (h1 : n ≤ 1048576) : ∃ r, Ev (fun k => laws_szPartS.f k l n) r ∧ r ≤ n ∧ (0 ≤ r → l.length ≤ 1048576 ∧ ∀ y ∈ l, WPart y) := by
  have q : l.length ≤ 9223372036854775807 := hB.1
  have e : wrap64 (n - (l.length : Int)) = n - (l.length : Int) := wrap_id (by omega) (by omega)
  by_cases c : n - (l.length : Int) < 0
  · exact ⟨-1, ⟨0, fun k _ => by simp [laws_szPartS.f, e, c]⟩, by omega, by omega⟩
  · obtain ⟨r, g, hl, hw⟩ := szPartS_l0 l [] (n - (l.length : Int)) (by omega) (by omega) hB.2 (by simp; omega)
    refine ⟨r, Ev.congr (fun k => ?_) g, by omega, fun hr => ⟨by omega, hw hr⟩⟩
    unfold laws_szPartS.f
    rw [e, if_neg c]
    rfl
theorem toPartS_l0 : ∀ (suf pre : List S52), (pre ++ suf).length < 4611686018427387904 → (∀ y ∈ suf, WPart y) → Ev (fun k => laws_toPartS.l0 k (pre ++ suf) ((pre.map cvPart) ++ List.replicate suf.length z57) (pre.length : Int)) ((pre ++ suf).map cvPart)
  | [], pre, h, hW => by
    refine Ev.step (f := fun _ => some ((pre ++ []).map cvPart)) (fun k => ?_) (Ev.now _)
    simp only [laws_toPartS.l0]
    rw [if_neg (not_lt_end pre)]
    simp
  | y :: suf, pre, h, hW => by
    have hp : pre.length < 4611686018427387904 := by simp at h; omega
    have ih := toPartS_l0 suf (pre ++ [y]) (by simpa using h) (fun z hz => hW z (List.mem_cons_of_mem _ hz))
    have g := toPart_ev y (hW y List.mem_cons_self)
    refine Ev.step (f := fun k => (laws_toPart.f k y.f0 y.f1 y.f2).bind fun t => laws_toPartS.l0 k ((pre ++ [y]) ++ suf) ((pre.map cvPart) ++ (⟨t.1, t.2.1, t.2.2⟩ : S57) :: List.replicate suf.length z57) ((pre ++ [y]).length : Int)) (fun k => ?_) (Ev.bind g ?_)
    · simp only [laws_toPartS.l0]
      rw [if_pos (lt_mid pre suf y), if_pos (nn _), rdmidPartl, wrap_up _ (by omega)]
      congr 1
      funext t
      rw [if_pos (by simp; omega)]
      congr 1
      · simp
      · simp [List.replicate_succ]
      · simp
    · rw [mid_assoc pre suf y]
      have e : (pre.map cvPart) ++ (cvPart y) :: List.replicate suf.length z57 = ((pre ++ [y]).map cvPart) ++ List.replicate suf.length z57 := by simp
      rw [← e] at ih
      exact ih
theorem toPartS_ev (l : List S52) (h : l.length ≤ 1048576 ∧ ∀ y ∈ l, WPart y) : Ev (fun k => laws_toPartS.f k l) (l.map cvPart) := by
  have h1 := h.1
  refine Ev.congr (fun k => ?_) (toPartS_l0 l [] (by simp; omega) h.2)
  unfold laws_toPartS.f
  rw [if_pos (nn l.length), Int.toNat_natCast, if_pos (by omega)]
  rfl
theorem eqPartS_l0 : ∀ (suf pre : List S57), (pre ++ suf).length < 4611686018427387904 → (∀ y ∈ suf, WiPart y) → Ev (fun k => laws_eqPartS.l0 k (pre ++ suf) (pre ++ suf) (pre.length : Int)) true
  | [], pre, h, hW => by
    refine Ev.step (f := fun _ => some true) (fun k => ?_) (Ev.now _)
    simp only [laws_eqPartS.l0]
    rw [if_neg (not_lt_end pre)]
  | y :: suf, pre, h, hW => by
    have hp : pre.length < 4611686018427387904 := by simp at h; omega
    have ih := eqPartS_l0 suf (pre ++ [y]) (by simpa using h) (fun z hz => hW z (List.mem_cons_of_mem _ hz))
    have g := eqPart_ev y (hW y List.mem_cons_self)
    refine Ev.step (f := fun k => (laws_eqPart.f k y.f0 y.f1 y.f2 y.f0 y.f1 y.f2).bind fun t => if t = true then laws_eqPartS.l0 k ((pre ++ [y]) ++ suf) ((pre ++ [y]) ++ suf) ((pre ++ [y]).length : Int) else none) (fun k => ?_) (Ev.bind g ?_)
    · simp only [laws_eqPartS.l0]
      rw [if_pos (lt_mid pre suf y), if_pos (nn _), if_pos (lt_mid pre suf y), rdmidParti, wrap_up _ (by omega)]
      simp
    · simp only [if_true]
      exact ih
theorem eqPartS_ev (l : List S57) (h : l.length ≤ 4000000 ∧ ∀ y ∈ l, WiPart y) : Ev (fun k => laws_eqPartS.f k l l) true := by
  have h1 := h.1
  refine Ev.congr (fun k => ?_) (eqPartS_l0 l [] (by simp; omega) h.2)
  unfold laws_eqPartS.f
  rw [if_pos rfl]
  rfl

end Go.Proofs.Yticgekgojgkbgaa.Print
end
section
namespace Go.Proofs.Yticgekgojgkbgaa.Print
open Go.RowKit Go.Proofs.YticgekgojgkbgaaV.PrintWords Go.Proofs.YticgekgojgkbgaaV.PrintLast Go.Proofs.YticgekgojgkbgaaV.PrintMore
set_option linter.unusedVariables false
set_option linter.unusedSimpArgs false
theorem Wi_mapPart {l : List S52} (h : l.length ≤ 1048576 ∧ ∀ y ∈ l, WPart y) : (l.map cvPart).length ≤ 4000000 ∧ ∀ y ∈ l.map cvPart, WiPart y :=
  ⟨by rw [List.length_map]; exact Nat.le_trans h.1 (by decide), fun y hy => by obtain ⟨z, hz, rfl⟩ := List.mem_map.1 hy; exact Wi_cvPart (h.2 z hz)⟩

end Go.Proofs.Yticgekgojgkbgaa.Print
end
section
namespace Go.Proofs.Yticgekgojgkbgaa.Print
open Go.RowKit Go.Proofs.YticgekgojgkbgaaV.PrintWords Go.Proofs.YticgekgojgkbgaaV.PrintLast Go.Proofs.YticgekgojgkbgaaV.PrintMore
set_option linter.unusedVariables false
set_option linter.unusedSimpArgs false
theorem rdnLabel (l : List S88) (i : Nat) : rd_T88 l (i : Int) = l.getD i z88 := by unfold rd_T88; simp

end Go.Proofs.Yticgekgojgkbgaa.Print
end
section
namespace Go.Proofs.Yticgekgojgkbgaa.Print
open Go.RowKit Go.Proofs.YticgekgojgkbgaaV.PrintWords Go.Proofs.YticgekgojgkbgaaV.PrintLast Go.Proofs.YticgekgojgkbgaaV.PrintMore
set_option linter.unusedVariables false
set_option linter.unusedSimpArgs false
/-- Labels in order, by names and by values. -/
def setLess : List S88 → List S88 → Bool
  | [], [] => false
  | [], _ :: _ => true
  | _ :: _, [] => false
  | x :: a, y :: b => if x.f0.toList = y.f0.toList then (if x.f1.toList = y.f1.toList then setLess a b else Op.bytesLess x.f1.toList y.f1.toList) else Op.bytesLess x.f0.toList y.f0.toList
theorem implSetLess_l0 (a b : List S88) (ha : a.length < 4611686018427387904) : ∀ (sa sb pa pb : List S88), pa ++ sa = a → pb ++ sb = b → pa.length = pb.length → Ev (fun k => impl_SetLess.l0 k a b (pa.length : Int)) (setLess sa sb)
  | [], sb, pa, pb, ea, eb, hp => by
    have hl : a.length = pa.length := by rw [← ea]; simp
    have hb : b.length = pb.length + sb.length := by rw [← eb]; simp
    refine Ev.step (f := fun k => impl_SetLess.j1 k a b (pa.length : Int) false) (fun k => ?_) (Ev.step (f := fun _ => some (setLess [] sb)) (fun k => ?_) (Ev.now _))
    · simp only [impl_SetLess.l0]; rw [if_neg (by omega)]
    · simp only [impl_SetLess.j1]; rw [if_neg (by simp)]
      cases sb with
      | nil => simp only [List.length_nil] at hb; rw [decide_eq_false (by omega)]; rfl
      | cons y sb => simp only [List.length_cons] at hb; rw [decide_eq_true (by omega)]; rfl
  | x :: sa, [], pa, pb, ea, eb, hp => by
    have hl : a.length = pa.length + (sa.length + 1) := by rw [← ea]; simp
    have hb : b.length = pb.length := by rw [← eb]; simp
    refine Ev.step (f := fun k => impl_SetLess.j1 k a b (pa.length : Int) false) (fun k => ?_) (Ev.step (f := fun _ => some (setLess (x :: sa) [])) (fun k => ?_) (Ev.now _))
    · simp only [impl_SetLess.l0]; rw [if_pos (by omega), decide_eq_false (by omega)]
    · simp only [impl_SetLess.j1]; rw [if_neg (by simp), decide_eq_false (by omega)]; rfl
  | x :: sa, y :: sb, pa, pb, ea, eb, hp => by
    have hl : a.length = pa.length + (sa.length + 1) := by rw [← ea]; simp
    have hb : b.length = pb.length + (sb.length + 1) := by rw [← eb]; simp
    have ga : a.getD pa.length z88 = x := by rw [← ea]; simp
    have gb : b.getD pa.length z88 = y := by rw [← eb, hp]; simp
    have ih := implSetLess_l0 a b ha sa sb (pa ++ [x]) (pb ++ [y]) (by rw [← ea]; simp) (by rw [← eb]; simp) (by simp [hp])
    refine Ev.step (f := fun k => impl_SetLess.j1 k a b (pa.length : Int) true) (fun k => ?_) ?_
    · simp only [impl_SetLess.l0]; rw [if_pos (by omega), decide_eq_true (by omega)]
    · refine Ev.step (f := fun k => if x.f0.toList = y.f0.toList then (if x.f1.toList = y.f1.toList then impl_SetLess.l0 k a b ((pa.length + 1 : Nat) : Int) else some (Op.bytesLess x.f1.toList y.f1.toList)) else some (Op.bytesLess x.f0.toList y.f0.toList)) (fun k => ?_) ?_
      · simp only [impl_SetLess.j1]
        rw [if_pos trivial, if_pos (by omega), if_pos (by omega), if_pos (by omega), rdnLabel, rdnLabel, ga, gb, wrap_up _ (by omega)]
      · unfold setLess
        by_cases h1 : x.f0.toList = y.f0.toList
        · simp only [if_pos h1]
          by_cases h2 : x.f1.toList = y.f1.toList
          · simp only [if_pos h2]; simpa using ih
          · simp only [if_neg h2]; exact Ev.now _
        · simp only [if_neg h1]; exact Ev.now _
theorem implSetLess_ev (a b : List S88) (ha : a.length < 4611686018427387904) : Ev (fun k => impl_SetLess.f k a b) (setLess a b) := by
  unfold impl_SetLess.f
  exact implSetLess_l0 a b ha a b [] [] rfl rfl rfl
theorem specSetLess_l0 (a b : List S88) (ha : a.length < 4611686018427387904) : ∀ (sa sb pa pb : List S88), pa ++ sa = a → pb ++ sb = b → pa.length = pb.length → Ev (fun k => spec_SetLess.l0 k a b (pa.length : Int)) (setLess sa sb)
  | [], sb, pa, pb, ea, eb, hp => by
    have hl : a.length = pa.length := by rw [← ea]; simp
    have hb : b.length = pb.length + sb.length := by rw [← eb]; simp
    refine Ev.step (f := fun k => spec_SetLess.j1 k a b (pa.length : Int) false) (fun k => ?_) (Ev.step (f := fun _ => some (setLess [] sb)) (fun k => ?_) (Ev.now _))
    · simp only [spec_SetLess.l0]; rw [if_neg (by omega)]
    · simp only [spec_SetLess.j1]; rw [if_neg (by simp)]
      cases sb with
      | nil => simp only [List.length_nil] at hb; rw [decide_eq_false (by omega)]; rfl
      | cons y sb => simp only [List.length_cons] at hb; rw [decide_eq_true (by omega)]; rfl
  | x :: sa, [], pa, pb, ea, eb, hp => by
    have hl : a.length = pa.length + (sa.length + 1) := by rw [← ea]; simp
    have hb : b.length = pb.length := by rw [← eb]; simp
    refine Ev.step (f := fun k => spec_SetLess.j1 k a b (pa.length : Int) false) (fun k => ?_) (Ev.step (f := fun _ => some (setLess (x :: sa) [])) (fun k => ?_) (Ev.now _))
    · simp only [spec_SetLess.l0]; rw [if_pos (by omega), decide_eq_false (by omega)]
    · simp only [spec_SetLess.j1]; rw [if_neg (by simp), decide_eq_false (by omega)]; rfl
  | x :: sa, y :: sb, pa, pb, ea, eb, hp => by
    have hl : a.length = pa.length + (sa.length + 1) := by rw [← ea]; simp
    have hb : b.length = pb.length + (sb.length + 1) := by rw [← eb]; simp
    have ga : a.getD pa.length z88 = x := by rw [← ea]; simp
    have gb : b.getD pa.length z88 = y := by rw [← eb, hp]; simp
    have ih := specSetLess_l0 a b ha sa sb (pa ++ [x]) (pb ++ [y]) (by rw [← ea]; simp) (by rw [← eb]; simp) (by simp [hp])
    refine Ev.step (f := fun k => spec_SetLess.j1 k a b (pa.length : Int) true) (fun k => ?_) ?_
    · simp only [spec_SetLess.l0]; rw [if_pos (by omega), decide_eq_true (by omega)]
    · refine Ev.step (f := fun k => if x.f0.toList = y.f0.toList then (if x.f1.toList = y.f1.toList then spec_SetLess.l0 k a b ((pa.length + 1 : Nat) : Int) else some (Op.bytesLess x.f1.toList y.f1.toList)) else some (Op.bytesLess x.f0.toList y.f0.toList)) (fun k => ?_) ?_
      · simp only [spec_SetLess.j1, spec_Less.f, Option.bind_some]
        rw [if_pos trivial, if_pos (by omega), if_pos (by omega), if_pos (by omega), rdnLabel, rdnLabel, ga, gb, wrap_up _ (by omega)]
      · unfold setLess
        by_cases h1 : x.f0.toList = y.f0.toList
        · simp only [if_pos h1]
          by_cases h2 : x.f1.toList = y.f1.toList
          · simp only [if_pos h2]; simpa using ih
          · simp only [if_neg h2]; exact Ev.now _
        · simp only [if_neg h1]; exact Ev.now _
theorem specSetLess_ev (a b : List S88) (ha : a.length < 4611686018427387904) : Ev (fun k => spec_SetLess.f k a b) (setLess a b) := by
  unfold spec_SetLess.f
  exact specSetLess_l0 a b ha a b [] [] rfl rfl rfl

end Go.Proofs.Yticgekgojgkbgaa.Print
end
section
namespace Go.Proofs.Yticgekgojgkbgaa.Print
open Go.RowKit Go.Proofs.YticgekgojgkbgaaV.PrintWords Go.Proofs.YticgekgojgkbgaaV.PrintLast Go.Proofs.YticgekgojgkbgaaV.PrintMore
set_option linter.unusedVariables false
set_option linter.unusedSimpArgs false
open Go.Sort
theorem bytesLess_dec : ∀ (x y : List UInt8), Op.bytesLess x y = decide (x < y)
  | [], [] => by simp [Op.bytesLess]
  | _ :: _, [] => by simp [Op.bytesLess]
  | [], _ :: _ => by simp [Op.bytesLess]
  | a :: x, b :: y => by
    rw [Op.bytesLess, bytesLess_dec x y]
    simp only [List.cons_lt_cons_iff]
    by_cases h1 : a < b <;> by_cases h2 : a = b <;> by_cases h3 : x < y <;> simp [h1, h2, h3]
def flatL : List S88 → List (List UInt8)
  | [] => []
  | x :: a => x.f0.toList :: x.f1.toList :: flatL a
theorem setLess_dec : ∀ a b, setLess a b = decide (flatL a < flatL b)
  | [], [] => by simp [setLess, flatL]
  | [], _ :: _ => by simp [setLess, flatL]
  | _ :: _, [] => by simp [setLess, flatL]
  | x :: a, y :: b => by
    unfold setLess
    rw [setLess_dec a b, bytesLess_dec, bytesLess_dec]
    simp only [flatL, List.cons_lt_cons_iff]
    by_cases h1 : x.f0.toList = y.f0.toList
    · rw [if_pos h1]
      by_cases h2 : x.f1.toList = y.f1.toList
      · rw [if_pos h2]; simp [h1, h2, List.lt_irrefl]
      · rw [if_neg h2]; simp [h1, h2, List.lt_irrefl]
    · rw [if_neg h1]; simp [h1]
def altA (x y : S43) : Bool := setLess x.f0 y.f0
theorem swo_altA : SWO altA where
  irrefl x := by simp [altA, setLess_dec, List.lt_irrefl]
  trans x y z h1 h2 := by simp only [altA, setLess_dec, decide_eq_true_eq] at *; exact List.lt_trans h1 h2
  ntrans x y z h1 h2 := by
    simp only [altA, setLess_dec, decide_eq_false_iff_not, List.not_lt] at *
    exact List.le_trans h2 h1
section
variable {α : Type} {lt : α → α → Bool}
/-- x is put in from the end, over what it is less than (the list turned). -/
def insR (lt : α → α → Bool) (x : α) : List α → List α
  | [] => [x]
  | y :: r => if lt x y = true then y :: insR lt x r else x :: y :: r
theorem insR_mem {x y : α} : ∀ {r : List α}, y ∈ insR lt x r ↔ y = x ∨ y ∈ r
  | [] => by simp [insR]
  | z :: r => by
    unfold insR
    split
    · rw [List.mem_cons, insR_mem (r := r), List.mem_cons]
      constructor
      · rintro (h | h | h)
        · exact .inr (.inl h)
        · exact .inl h
        · exact .inr (.inr h)
      · rintro (h | h | h)
        · exact .inr (.inl h)
        · exact .inl h
        · exact .inr (.inr h)
    · simp
theorem insR_length (x : α) : ∀ r : List α, (insR lt x r).length = r.length + 1
  | [] => rfl
  | y :: r => by
    unfold insR
    split
    · simp [insR_length x r]
    · simp
theorem insR_sorted (hS : SWO lt) (x : α) : ∀ r : List α, r.Pairwise (fun a b => lt a b = false) → (insR lt x r).Pairwise (fun a b => lt a b = false)
  | [], _ => by simp [insR]
  | y :: r, h => by
    obtain ⟨h1, h2⟩ := List.pairwise_cons.1 h
    unfold insR
    by_cases c : lt x y = true
    · rw [if_pos c]
      refine List.pairwise_cons.2 ⟨fun z hz => ?_, insR_sorted hS x r h2⟩
      rcases insR_mem.1 hz with rfl | hz
      · cases e : lt y z with
        | false => rfl
        | true => have := hS.trans _ _ _ c e; rw [hS.irrefl] at this; cases this
      · exact h1 z hz
    · rw [if_neg c]
      have c' : lt x y = false := by simpa using c
      refine List.pairwise_cons.2 ⟨fun z hz => ?_, h⟩
      rcases List.mem_cons.1 hz with rfl | hz
      · exact c'
      · exact hS.ntrans _ _ _ c' (h1 z hz)
theorem insR_filter (hS : SWO lt) (x c : α) : ∀ r : List α, (insR lt x r).filter (Stable.eqv lt c) = (x :: r).filter (Stable.eqv lt c)
  | [] => rfl
  | y :: r => by
    unfold insR
    by_cases h : lt x y = true
    · rw [if_pos h, List.filter_cons, insR_filter hS x c r]
      by_cases hy : Stable.eqv lt c y = true
      · have hx : Stable.eqv lt c x = false := Stable.eqv_no hS h hy
        simp [hx, hy]
      · simp [List.filter_cons, hy]
    · rw [if_neg h]
def insE (lt : α → α → Bool) (x : α) (out : List α) : List α := (insR lt x out.reverse).reverse
def sortE (lt : α → α → Bool) : List α → List α → List α
  | out, [] => out
  | out, x :: l => sortE lt (insE lt x out) l
theorem insE_mem {x y : α} {r : List α} : y ∈ insE lt x r ↔ y = x ∨ y ∈ r := by simp [insE, insR_mem]
theorem sortE_mem {y : α} : ∀ {l out : List α}, y ∈ sortE lt out l ↔ y ∈ out ∨ y ∈ l
  | [], out => by simp [sortE]
  | x :: l, out => by
    rw [sortE, sortE_mem (l := l), insE_mem, List.mem_cons]
    constructor
    · rintro ((h | h) | h)
      · exact .inr (.inl h)
      · exact .inl h
      · exact .inr (.inr h)
    · rintro (h | h | h)
      · exact .inl (.inr h)
      · exact .inl (.inl h)
      · exact .inr h
theorem sortE_length : ∀ (l out : List α), (sortE lt out l).length = out.length + l.length
  | [], out => rfl
  | x :: l, out => by rw [sortE, sortE_length l]; simp [insE, insR_length]; omega
theorem sortE_spec (hS : SWO lt) : ∀ (l out : List α), out.Pairwise (fun a b => lt b a = false) → (sortE lt out l).Pairwise (fun a b => lt b a = false) ∧ Stable.St lt (out ++ l) (sortE lt out l)
  | [], out, h => ⟨h, by rw [List.append_nil]; exact Stable.St.refl _⟩
  | x :: l, out, h => by
    have h1 : (insE lt x out).Pairwise (fun a b => lt b a = false) := by
      unfold insE; rw [List.pairwise_reverse]; exact insR_sorted hS x _ (by rw [List.pairwise_reverse]; exact h)
    obtain ⟨a, b⟩ := sortE_spec hS l (insE lt x out) h1
    refine ⟨a, fun c => ?_⟩
    rw [sortE, b c, List.filter_append, List.filter_append]
    have : (insE lt x out).filter (Stable.eqv lt c) = (out ++ [x]).filter (Stable.eqv lt c) := by
      unfold insE; rw [List.filter_reverse, insR_filter hS, ← List.filter_reverse]; simp
    rw [this, List.filter_append, List.append_assoc, ← List.filter_append]; rfl
theorem insR_map {β : Type} (f : β → α) (x : β) : ∀ r : List β, (insR (fun i j => lt (f i) (f j)) x r).map f = insR lt (f x) (r.map f)
  | [] => rfl
  | y :: r => by
    simp only [insR, List.map_cons]
    split
    · rw [List.map_cons, insR_map f x r]
    · rfl
theorem sortE_map {β : Type} (f : β → α) : ∀ (l out : List β), (sortE (fun i j => lt (f i) (f j)) out l).map f = sortE lt (out.map f) (l.map f)
  | [], out => rfl
  | x :: l, out => by
    rw [sortE, sortE_map f l]
    simp only [List.map_cons, sortE]
    congr 1
    simp only [insE]; rw [List.map_reverse, insR_map, List.map_reverse]
end
theorem Ev.all {β γ : Type} (f : β → Nat → Option γ) (v : β → γ) : ∀ l : List β, (∀ x ∈ l, Ev (f x) (v x)) → ∃ K, ∀ x ∈ l, ∀ k, K ≤ k → f x k = some (v x)
  | [], _ => ⟨0, fun _ h => by cases h⟩
  | y :: l, h => by
    obtain ⟨K, g⟩ := Ev.all f v l (fun x hx => h x (List.mem_cons_of_mem _ hx))
    obtain ⟨K1, g1⟩ := h y List.mem_cons_self
    refine ⟨K + K1, fun x hx k hk => ?_⟩
    rcases List.mem_cons.1 hx with rfl | hx
    · exact g1 k (by omega)
    · exact g x hx k (by omega)
theorem byl_lt {x y : S43} (h : x.f0.length ≤ 5000000) : impl_byLabels.lt x y = altA x y := by
  obtain ⟨K, g⟩ := implSetLess_ev x.f0 y.f0 (by omega)
  exact impl_byLabels.lt_eq (g K (Nat.le_refl _))
theorem byl_at (l : List S43) (hl : ∀ y ∈ l, y.f0.length ≤ 5000000) (j : Nat) : (impl_byLabels.at_ l j).f0.length ≤ 5000000 := by
  unfold impl_byLabels.at_
  cases l with
  | nil => show (z43).f0.length ≤ _; simp [z43]
  | cons a l =>
    rw [List.getD_eq_getElem?_getD]
    have : (if j < (a :: l).length then j else 0) < (a :: l).length := by
      split
      · assumption
      · simp
    rw [List.getElem?_eq_getElem this]
    exact hl _ (List.getElem_mem _)
theorem byl_ltn (l : List S43) (hl : ∀ y ∈ l, y.f0.length ≤ 5000000) : impl_byLabels.ltn l = fun i j => altA (impl_byLabels.at_ l i) (impl_byLabels.at_ l j) := by
  funext i j
  exact byl_lt (byl_at l hl i)
theorem byl_map (l : List S43) : (List.range l.length).map (impl_byLabels.at_ l) = l := by
  apply List.ext_getElem
  · simp
  · intro i h1 h2
    simp [impl_byLabels.at_, h2]
theorem byl_out (l : List S43) (hl : ∀ y ∈ l, y.f0.length ≤ 5000000) : impl_byLabels.out l = sortE altA [] l := by
  have hS : SWO (impl_byLabels.ltn l) := by
    rw [byl_ltn l hl]
    exact ⟨fun x => swo_altA.irrefl _, fun x y z => swo_altA.trans _ _ _, fun x y z => swo_altA.ntrans _ _ _⟩
  obtain ⟨a, b⟩ := sortE_spec hS (List.range l.length) [] List.Pairwise.nil
  have e := Stable.stable_eq hS (Array.range l.length) (sortE (impl_byLabels.ltn l) [] (List.range l.length)) (by simpa using b) a
  rw [Array.size_range] at e
  unfold impl_byLabels.out
  rw [e, byl_ltn l hl, sortE_map, byl_map]; rfl
theorem implByLabels_ev (l : List S43) (h : l.length ≤ 4000000 ∧ ∀ y ∈ l, WiAlarm y) : Ev (fun k => impl_byLabels.f k l) (sortE altA [] l) := by
  have hl : ∀ y ∈ l, y.f0.length ≤ 5000000 := fun y hy => Nat.le_trans (h.2 y hy).1.1 (by decide)
  have hS : SWO (impl_byLabels.ltn l) := by
    rw [byl_ltn l hl]
    exact ⟨fun x => swo_altA.irrefl _, fun x y z => swo_altA.trans _ _ _, fun x y z => swo_altA.ntrans _ _ _⟩
  have hp : ∀ x ∈ l, ∃ K, ∀ y ∈ l, ∀ k, K ≤ k → impl_SetLess.f k x.f0 y.f0 = some (setLess x.f0 y.f0) := fun x hx => Ev.all (fun y k => impl_SetLess.f k x.f0 y.f0) (fun y => setLess x.f0 y.f0) l (fun y hy => implSetLess_ev _ _ (by have := hl x hx; omega))
  have hq : ∀ m : List S43, (∀ x ∈ m, x ∈ l) → ∃ K, ∀ x ∈ m, ∀ y ∈ l, ∀ k, K ≤ k → impl_SetLess.f k x.f0 y.f0 = some (setLess x.f0 y.f0) := fun m => by
    induction m with
    | nil => exact fun _ => ⟨0, fun _ h => by cases h⟩
    | cons z m ih =>
      intro hm
      obtain ⟨K, g⟩ := ih (fun x hx => hm x (List.mem_cons_of_mem _ hx))
      obtain ⟨K1, g1⟩ := hp z (hm z List.mem_cons_self)
      refine ⟨K + K1, fun x hx y hy k hk => ?_⟩
      rcases List.mem_cons.1 hx with rfl | hx
      · exact g1 y hy k (by omega)
      · exact g x hx y hy k (by omega)
  obtain ⟨K, g⟩ := hq l (fun _ h => h)
  refine ⟨K, fun k hk => ?_⟩
  show impl_byLabels.f k l = _
  unfold impl_byLabels.f
  rw [if_pos ⟨fun x hx y hy => by rw [g x hx y hy k hk]; rfl, by omega, hS⟩, byl_out l hl]

end Go.Proofs.Yticgekgojgkbgaa.Print
end
section
namespace Go.Proofs.Yticgekgojgkbgaa.Print
open Go.RowKit Go.Proofs.YticgekgojgkbgaaV.PrintWords Go.Proofs.YticgekgojgkbgaaV.PrintLast Go.Proofs.YticgekgojgkbgaaV.PrintMore
set_option linter.unusedVariables false
set_option linter.unusedSimpArgs false
def nnLabels : List S85 → Nat
  | [] => 0
  | _ :: ys => 1 + nnLabels ys
theorem szLabel_nn (x : S85) (hB : B85 x) (k : Nat) (n r : Int) (h : laws_szLabel.f x.f0 x.f1 n = some r) (hr : 0 ≤ r) (h0 : 0 ≤ n) (h1 : n ≤ 1048576) : r ≤ n ∧ ((0 : Nat) : Int) ≤ n - r := by
  unfold laws_szLabel.f at h
  have q1 : x.f0.size ≤ 9223372036854775807 := hB.1
  rw [show wrap64 (n - (x.f0.size : Int)) = n - (x.f0.size : Int) from wrap_id (by omega) (by omega)] at h
  by_cases c1 : n - (x.f0.size : Int) < 0
  · rw [if_pos c1] at h; injection h with h; omega
  rw [if_neg c1] at h
  have q2 : x.f1.size ≤ 9223372036854775807 := hB.2
  rw [show wrap64 ((n - (x.f0.size : Int)) - (x.f1.size : Int)) = (n - (x.f0.size : Int)) - (x.f1.size : Int) from wrap_id (by omega) (by omega)] at h
  by_cases c2 : (n - (x.f0.size : Int)) - (x.f1.size : Int) < 0
  · rw [if_pos c2] at h; injection h with h; omega
  rw [if_neg c2] at h
  injection h with h
  exact ⟨by omega, by omega⟩
theorem szLabelS_nn_l0 : ∀ (suf pre : List S85) (k : Nat) (n r : Int), (∀ y ∈ suf, B85 y) → (pre ++ suf).length < 4611686018427387904 → laws_szLabelS.l0 k (pre ++ suf) n (pre.length : Int) = some r → 0 ≤ r → 0 ≤ n → n ≤ 1048576 → r ≤ n ∧ (nnLabels suf : Int) ≤ n - r + suf.length
  | [], pre, k, n, r, hB, hl, h, hr, h0, h1 => by
    cases k with
    | zero => simp [laws_szLabelS.l0] at h
    | succ k =>
      simp only [laws_szLabelS.l0] at h
      rw [if_neg (not_lt_end pre)] at h
      injection h with h
      subst h
      exact ⟨Int.le_refl _, by simp [nnLabels]⟩
  | y :: suf, pre, k, n, r, hB, hl, h, hr, h0, h1 => by
    have hp : pre.length < 4611686018427387904 := by simp at hl; omega
    cases k with
    | zero => simp [laws_szLabelS.l0] at h
    | succ k =>
      simp only [laws_szLabelS.l0] at h
      rw [if_pos (lt_mid pre suf y), if_pos (nn _), rdmidLabell, wrap_up pre.length (by omega)] at h
      obtain ⟨t, e, h⟩ := Option.bind_eq_some_iff.mp h
      by_cases c : t < 0
      · rw [if_pos c] at h; injection h with h; omega
      rw [if_neg c, show pre ++ y :: suf = (pre ++ [y]) ++ suf by simp, show ((pre.length + 1 : Nat) : Int) = ((pre ++ [y]).length : Int) by simp] at h
      obtain ⟨l1, m1⟩ := szLabel_nn y (hB y List.mem_cons_self) k n t e (by omega) h0 h1
      obtain ⟨l2, m2⟩ := szLabelS_nn_l0 suf (pre ++ [y]) k t r (fun z hz => hB z (List.mem_cons_of_mem _ hz)) (by simpa using hl) h hr (by omega) (by omega)
      refine ⟨by omega, ?_⟩
      simp only [nnLabels, List.length_cons]
      push_cast at m1 ⊢
      omega
theorem szLabelS_nn (l : List S85) (hB : l.length ≤ maxLen ∧ ∀ y ∈ l, B85 y) (k : Nat) (n r : Int) (h : laws_szLabelS.f k l n = some r) (hr : 0 ≤ r) (h0 : 0 ≤ n) (h1 : n ≤ 1048576) : r ≤ n ∧ (nnLabels l : Int) ≤ n - r := by
  have q : l.length ≤ 9223372036854775807 := hB.1
  unfold laws_szLabelS.f at h
  rw [show wrap64 (n - (l.length : Int)) = n - (l.length : Int) from wrap_id (by omega) (by omega)] at h
  by_cases c : n - (l.length : Int) < 0
  · rw [if_pos c] at h; injection h with h; omega
  rw [if_neg c] at h
  obtain ⟨l1, m1⟩ := szLabelS_nn_l0 l [] k (n - (l.length : Int)) r hB.2 (by simp; omega) h hr (by omega) (by omega)
  exact ⟨by omega, by omega⟩

end Go.Proofs.Yticgekgojgkbgaa.Print
end
section
namespace Go.Proofs.Yticgekgojgkbgaa.Print
open Go.RowKit Go.Proofs.YticgekgojgkbgaaV.PrintWords Go.Proofs.YticgekgojgkbgaaV.PrintLast Go.Proofs.YticgekgojgkbgaaV.PrintMore
set_option linter.unusedVariables false
set_option linter.unusedSimpArgs false
def nnAlarms : List S35 → Nat
  | [] => 0
  | y :: ys => 1 + nnLabels y.f0 + nnAlarms ys
theorem nnAlarms_le : ∀ l : List S35, l.length ≤ nnAlarms l
  | [] => Nat.le_refl _
  | y :: ys => by have := nnAlarms_le ys; simp only [nnAlarms, List.length_cons]; omega
theorem szAlarm_nn (x : S35) (hB : B35 x) (k : Nat) (n r : Int) (h : laws_szAlarm.f k x.f0 x.f1 x.f2 x.f3 n = some r) (hr : 0 ≤ r) (h0 : 0 ≤ n) (h1 : n ≤ 1048576) : r ≤ n ∧ ((nnLabels x.f0 : Nat) : Int) ≤ n - r := by
  unfold laws_szAlarm.f at h
  obtain ⟨t1, e1, h⟩ := Option.bind_eq_some_iff.mp h
  by_cases c1 : t1 < 0
  · rw [if_pos c1] at h; injection h with h; omega
  rw [if_neg c1] at h
  obtain ⟨l1, m1⟩ := szLabelS_nn x.f0 hB.1 k n t1 e1 (by omega) (by omega) (by omega)
  have q2 : x.f3.size ≤ 9223372036854775807 := hB.2.2.2
  rw [show wrap64 (t1 - (x.f3.size : Int)) = t1 - (x.f3.size : Int) from wrap_id (by omega) (by omega)] at h
  by_cases c2 : t1 - (x.f3.size : Int) < 0
  · rw [if_pos c2] at h; injection h with h; omega
  rw [if_neg c2] at h
  injection h with h
  exact ⟨by omega, by omega⟩
theorem szAlarmS_nn_l0 : ∀ (suf pre : List S35) (k : Nat) (n r : Int), (∀ y ∈ suf, B35 y) → (pre ++ suf).length < 4611686018427387904 → laws_szAlarmS.l0 k (pre ++ suf) n (pre.length : Int) = some r → 0 ≤ r → 0 ≤ n → n ≤ 1048576 → r ≤ n ∧ (nnAlarms suf : Int) ≤ n - r + suf.length
  | [], pre, k, n, r, hB, hl, h, hr, h0, h1 => by
    cases k with
    | zero => simp [laws_szAlarmS.l0] at h
    | succ k =>
      simp only [laws_szAlarmS.l0] at h
      rw [if_neg (not_lt_end pre)] at h
      injection h with h
      subst h
      exact ⟨Int.le_refl _, by simp [nnAlarms]⟩
  | y :: suf, pre, k, n, r, hB, hl, h, hr, h0, h1 => by
    have hp : pre.length < 4611686018427387904 := by simp at hl; omega
    cases k with
    | zero => simp [laws_szAlarmS.l0] at h
    | succ k =>
      simp only [laws_szAlarmS.l0] at h
      rw [if_pos (lt_mid pre suf y), if_pos (nn _), rdmidAlarml, wrap_up pre.length (by omega)] at h
      obtain ⟨t, e, h⟩ := Option.bind_eq_some_iff.mp h
      by_cases c : t < 0
      · rw [if_pos c] at h; injection h with h; omega
      rw [if_neg c, show pre ++ y :: suf = (pre ++ [y]) ++ suf by simp, show ((pre.length + 1 : Nat) : Int) = ((pre ++ [y]).length : Int) by simp] at h
      obtain ⟨l1, m1⟩ := szAlarm_nn y (hB y List.mem_cons_self) k n t e (by omega) h0 h1
      obtain ⟨l2, m2⟩ := szAlarmS_nn_l0 suf (pre ++ [y]) k t r (fun z hz => hB z (List.mem_cons_of_mem _ hz)) (by simpa using hl) h hr (by omega) (by omega)
      refine ⟨by omega, ?_⟩
      simp only [nnAlarms, List.length_cons]
      push_cast at m1 ⊢
      omega
theorem szAlarmS_nn (l : List S35) (hB : l.length ≤ maxLen ∧ ∀ y ∈ l, B35 y) (k : Nat) (n r : Int) (h : laws_szAlarmS.f k l n = some r) (hr : 0 ≤ r) (h0 : 0 ≤ n) (h1 : n ≤ 1048576) : r ≤ n ∧ (nnAlarms l : Int) ≤ n - r := by
  have q : l.length ≤ 9223372036854775807 := hB.1
  unfold laws_szAlarmS.f at h
  rw [show wrap64 (n - (l.length : Int)) = n - (l.length : Int) from wrap_id (by omega) (by omega)] at h
  by_cases c : n - (l.length : Int) < 0
  · rw [if_pos c] at h; injection h with h; omega
  rw [if_neg c] at h
  obtain ⟨l1, m1⟩ := szAlarmS_nn_l0 l [] k (n - (l.length : Int)) r hB.2 (by simp; omega) h hr (by omega) (by omega)
  exact ⟨by omega, by omega⟩

end Go.Proofs.Yticgekgojgkbgaa.Print
end
section
namespace Go.Proofs.Yticgekgojgkbgaa.Print
open Go.RowKit Go.Proofs.YticgekgojgkbgaaV.PrintWords Go.Proofs.YticgekgojgkbgaaV.PrintLast Go.Proofs.YticgekgojgkbgaaV.PrintMore
set_option linter.unusedVariables false
set_option linter.unusedSimpArgs false
def nnChains : List S119 → Nat
  | [] => 0
  | y :: ys => 1 + nnAlarms y.f1 + nnChains ys
theorem szChain_nn (x : S119) (hB : B119 x) (k : Nat) (n r : Int) (h : laws_szChain.f k x.f0 x.f1 n = some r) (hr : 0 ≤ r) (h0 : 0 ≤ n) (h1 : n ≤ 1048576) : r ≤ n ∧ ((nnAlarms x.f1 : Nat) : Int) ≤ n - r := by
  unfold laws_szChain.f at h
  obtain ⟨t1, e1, h⟩ := Option.bind_eq_some_iff.mp h
  by_cases c1 : t1 < 0
  · rw [if_pos c1] at h; injection h with h; omega
  rw [if_neg c1] at h
  obtain ⟨l1, m1⟩ := szAlarmS_nn x.f1 hB.2 k n t1 e1 (by omega) (by omega) (by omega)
  injection h with h
  exact ⟨by omega, by omega⟩
theorem szChainS_nn_l0 : ∀ (suf pre : List S119) (k : Nat) (n r : Int), (∀ y ∈ suf, B119 y) → (pre ++ suf).length < 4611686018427387904 → laws_szChainS.l0 k (pre ++ suf) n (pre.length : Int) = some r → 0 ≤ r → 0 ≤ n → n ≤ 1048576 → r ≤ n ∧ (nnChains suf : Int) ≤ n - r + suf.length
  | [], pre, k, n, r, hB, hl, h, hr, h0, h1 => by
    cases k with
    | zero => simp [laws_szChainS.l0] at h
    | succ k =>
      simp only [laws_szChainS.l0] at h
      rw [if_neg (not_lt_end pre)] at h
      injection h with h
      subst h
      exact ⟨Int.le_refl _, by simp [nnChains]⟩
  | y :: suf, pre, k, n, r, hB, hl, h, hr, h0, h1 => by
    have hp : pre.length < 4611686018427387904 := by simp at hl; omega
    cases k with
    | zero => simp [laws_szChainS.l0] at h
    | succ k =>
      simp only [laws_szChainS.l0] at h
      rw [if_pos (lt_mid pre suf y), if_pos (nn _), rdmidChainl, wrap_up pre.length (by omega)] at h
      obtain ⟨t, e, h⟩ := Option.bind_eq_some_iff.mp h
      by_cases c : t < 0
      · rw [if_pos c] at h; injection h with h; omega
      rw [if_neg c, show pre ++ y :: suf = (pre ++ [y]) ++ suf by simp, show ((pre.length + 1 : Nat) : Int) = ((pre ++ [y]).length : Int) by simp] at h
      obtain ⟨l1, m1⟩ := szChain_nn y (hB y List.mem_cons_self) k n t e (by omega) h0 h1
      obtain ⟨l2, m2⟩ := szChainS_nn_l0 suf (pre ++ [y]) k t r (fun z hz => hB z (List.mem_cons_of_mem _ hz)) (by simpa using hl) h hr (by omega) (by omega)
      refine ⟨by omega, ?_⟩
      simp only [nnChains, List.length_cons]
      push_cast at m1 ⊢
      omega
theorem szChainS_nn (l : List S119) (hB : l.length ≤ maxLen ∧ ∀ y ∈ l, B119 y) (k : Nat) (n r : Int) (h : laws_szChainS.f k l n = some r) (hr : 0 ≤ r) (h0 : 0 ≤ n) (h1 : n ≤ 1048576) : r ≤ n ∧ (nnChains l : Int) ≤ n - r := by
  have q : l.length ≤ 9223372036854775807 := hB.1
  unfold laws_szChainS.f at h
  rw [show wrap64 (n - (l.length : Int)) = n - (l.length : Int) from wrap_id (by omega) (by omega)] at h
  by_cases c : n - (l.length : Int) < 0
  · rw [if_pos c] at h; injection h with h; omega
  rw [if_neg c] at h
  obtain ⟨l1, m1⟩ := szChainS_nn_l0 l [] k (n - (l.length : Int)) r hB.2 (by simp; omega) h hr (by omega) (by omega)
  exact ⟨by omega, by omega⟩

end Go.Proofs.Yticgekgojgkbgaa.Print
end
section
namespace Go.Proofs.Yticgekgojgkbgaa.Print
open Go.RowKit Go.Proofs.YticgekgojgkbgaaV.PrintWords Go.Proofs.YticgekgojgkbgaaV.PrintLast Go.Proofs.YticgekgojgkbgaaV.PrintMore
set_option linter.unusedVariables false
set_option linter.unusedSimpArgs false
def nnParts : List S52 → Nat
  | [] => 0
  | y :: ys => 1 + nnChains y.f2 + nnParts ys
theorem szPart_nn (x : S52) (hB : B52 x) (k : Nat) (n r : Int) (h : laws_szPart.f k x.f0 x.f1 x.f2 n = some r) (hr : 0 ≤ r) (h0 : 0 ≤ n) (h1 : n ≤ 1048576) : r ≤ n ∧ ((nnChains x.f2 : Nat) : Int) ≤ n - r := by
  unfold laws_szPart.f at h
  obtain ⟨t1, e1, h⟩ := Option.bind_eq_some_iff.mp h
  by_cases c1 : t1 < 0
  · rw [if_pos c1] at h; injection h with h; omega
  rw [if_neg c1] at h
  obtain ⟨l1, m1⟩ := szChainS_nn x.f2 hB.2.2 k n t1 e1 (by omega) (by omega) (by omega)
  injection h with h
  exact ⟨by omega, by omega⟩
theorem szPartS_nn_l0 : ∀ (suf pre : List S52) (k : Nat) (n r : Int), (∀ y ∈ suf, B52 y) → (pre ++ suf).length < 4611686018427387904 → laws_szPartS.l0 k (pre ++ suf) n (pre.length : Int) = some r → 0 ≤ r → 0 ≤ n → n ≤ 1048576 → r ≤ n ∧ (nnParts suf : Int) ≤ n - r + suf.length
  | [], pre, k, n, r, hB, hl, h, hr, h0, h1 => by
    cases k with
    | zero => simp [laws_szPartS.l0] at h
    | succ k =>
      simp only [laws_szPartS.l0] at h
      rw [if_neg (not_lt_end pre)] at h
      injection h with h
      subst h
      exact ⟨Int.le_refl _, by simp [nnParts]⟩
  | y :: suf, pre, k, n, r, hB, hl, h, hr, h0, h1 => by
    have hp : pre.length < 4611686018427387904 := by simp at hl; omega
    cases k with
    | zero => simp [laws_szPartS.l0] at h
    | succ k =>
      simp only [laws_szPartS.l0] at h
      rw [if_pos (lt_mid pre suf y), if_pos (nn _), rdmidPartl, wrap_up pre.length (by omega)] at h
      obtain ⟨t, e, h⟩ := Option.bind_eq_some_iff.mp h
      by_cases c : t < 0
      · rw [if_pos c] at h; injection h with h; omega
      rw [if_neg c, show pre ++ y :: suf = (pre ++ [y]) ++ suf by simp, show ((pre.length + 1 : Nat) : Int) = ((pre ++ [y]).length : Int) by simp] at h
      obtain ⟨l1, m1⟩ := szPart_nn y (hB y List.mem_cons_self) k n t e (by omega) h0 h1
      obtain ⟨l2, m2⟩ := szPartS_nn_l0 suf (pre ++ [y]) k t r (fun z hz => hB z (List.mem_cons_of_mem _ hz)) (by simpa using hl) h hr (by omega) (by omega)
      refine ⟨by omega, ?_⟩
      simp only [nnParts, List.length_cons]
      push_cast at m1 ⊢
      omega
theorem szPartS_nn (l : List S52) (hB : l.length ≤ maxLen ∧ ∀ y ∈ l, B52 y) (k : Nat) (n r : Int) (h : laws_szPartS.f k l n = some r) (hr : 0 ≤ r) (h0 : 0 ≤ n) (h1 : n ≤ 1048576) : r ≤ n ∧ (nnParts l : Int) ≤ n - r := by
  have q : l.length ≤ 9223372036854775807 := hB.1
  unfold laws_szPartS.f at h
  rw [show wrap64 (n - (l.length : Int)) = n - (l.length : Int) from wrap_id (by omega) (by omega)] at h
  by_cases c : n - (l.length : Int) < 0
  · rw [if_pos c] at h; injection h with h; omega
  rw [if_neg c] at h
  obtain ⟨l1, m1⟩ := szPartS_nn_l0 l [] k (n - (l.length : Int)) r hB.2 (by simp; omega) h hr (by omega) (by omega)
  exact ⟨by omega, by omega⟩

end Go.Proofs.Yticgekgojgkbgaa.Print
end
section
namespace Go.Proofs.Yticgekgojgkbgaa.Print
open Go.RowKit Go.Proofs.YticgekgojgkbgaaV.PrintWords Go.Proofs.YticgekgojgkbgaaV.PrintLast Go.Proofs.YticgekgojgkbgaaV.PrintMore
set_option linter.unusedVariables false
set_option linter.unusedSimpArgs false
def cnChains : List S100 → Nat
  | [] => 0
  | y :: ys => cnAlarms y.f1 + 1 + cnChains ys
noncomputable def mkChains : Int → List S100 → List S100
  | _, [] => []
  | k0, y :: ys => ⟨k0, mkAlarms (k0 + 1) y.f1⟩ :: mkChains (k0 + 1 + (cnAlarms y.f1 : Int)) ys
theorem cnChains_le : ∀ (l : List S100), l.length ≤ cnChains l
  | [] => Nat.le_refl _
  | y :: ys => by have := cnChains_le ys; simp only [cnChains, List.length_cons]; omega
theorem rdmmChain (pre suf : List S100) (y : S100) : rd_T100 (pre ++ y :: suf) (pre.length : Int) = y := by unfold rd_T100; simp
theorem markChainS_l0 : ∀ (suf pre : List S100) (k0 : Int), 0 ≤ k0 → k0 + (cnChains suf : Int) < 4611686018427387904 → (pre ++ suf).length < 4611686018427387904 → Ev (fun k => laws_markChainS.l0 k (pre ++ suf) k0 (pre.length : Int)) (k0 + (cnChains suf : Int), pre ++ mkChains k0 suf)
  | [], pre, k0, h0, h1, h => by
    refine Ev.step (f := fun _ => some (k0, pre ++ [])) (fun k => ?_) (by rw [show (k0 + (cnChains [] : Int), pre ++ mkChains k0 []) = (k0, pre ++ []) from by simp [cnChains, mkChains]]; exact Ev.now _)
    simp only [laws_markChainS.l0]
    rw [if_neg (not_lt_end pre)]
  | y :: suf, pre, k0, h0, h1, h => by
    have hp : pre.length < 4611686018427387904 := by simp at h; omega
    have hc : cnChains (y :: suf) = cnAlarms y.f1 + 1 + cnChains suf := rfl
    rw [hc] at h1 ⊢
    obtain ⟨K, g⟩ := markChainS_l0 suf (pre ++ [(⟨k0, mkAlarms (k0 + 1) y.f1⟩ : S100)]) (k0 + 1 + (cnAlarms y.f1 : Int)) (by omega) (by omega) (by simpa using h)
    obtain ⟨K0, g0⟩ := markAlarmS_ev y.f1 (k0 + 1) (by omega) (by omega)
    refine ⟨K + K0 + 1, fun k hk => ?_⟩
    obtain ⟨k, rfl⟩ : ∃ m, k = m + 1 := ⟨k - 1, by omega⟩
    have G := g k (by omega)
    have G0 := g0 k (by omega)
    dsimp only at G G0
    have w0 : wrap64 (k0 + 1) = (k0 + 1) := (wrap_id (by omega) (by omega)).trans (by omega)
    simp only [laws_markChainS.l0]
    rw [if_pos (lt_mid pre suf y)]
    simp only [nn, if_true, rdmmChain, Option.bind_some, Int.toNat_natCast, set_mid, wrap_up pre.length (by omega), G0, w0]
    have eL : pre ++ (⟨k0, mkAlarms (k0 + 1) y.f1⟩ : S100) :: suf = (pre ++ [(⟨k0, mkAlarms (k0 + 1) y.f1⟩ : S100)]) ++ suf := by simp
    have eN : ((pre.length + 1 : Nat) : Int) = ((pre ++ [(⟨k0, mkAlarms (k0 + 1) y.f1⟩ : S100)]).length : Int) := by simp
    rw [eL, eN, G]
    refine congrArg some (Prod.ext ?_ ?_)
    · simp only []; push_cast; omega
    · simp [mkChains]
theorem markChainS_ev (l : List S100) (k0 : Int) (h0 : 0 ≤ k0) (h1 : k0 + (cnChains l : Int) < 4611686018427387904) : Ev (fun k => laws_markChainS.f k l k0) (k0 + (cnChains l : Int), mkChains k0 l) := by
  have := cnChains_le l
  exact Ev.congr (fun k => by unfold laws_markChainS.f; rfl) (markChainS_l0 l [] k0 h0 h1 (by simp; omega))
end Go.Proofs.Yticgekgojgkbgaa.Print
end
section
namespace Go.Proofs.Yticgekgojgkbgaa.Print
open Go.RowKit Go.Proofs.YticgekgojgkbgaaV.PrintWords Go.Proofs.YticgekgojgkbgaaV.PrintLast Go.Proofs.YticgekgojgkbgaaV.PrintMore
set_option linter.unusedVariables false
set_option linter.unusedSimpArgs false
def cnParts : List S57 → Nat
  | [] => 0
  | y :: ys => cnChains y.f2 + 2 + cnParts ys
noncomputable def mkParts : Int → List S57 → List S57
  | _, [] => []
  | k0, y :: ys => ⟨k0, (k0 + 1), mkChains (k0 + 2) y.f2⟩ :: mkParts (k0 + 2 + (cnChains y.f2 : Int)) ys
theorem cnParts_le : ∀ (l : List S57), l.length ≤ cnParts l
  | [] => Nat.le_refl _
  | y :: ys => by have := cnParts_le ys; simp only [cnParts, List.length_cons]; omega
theorem rdmmPart (pre suf : List S57) (y : S57) : rd_T57 (pre ++ y :: suf) (pre.length : Int) = y := by unfold rd_T57; simp
theorem markPartS_l0 : ∀ (suf pre : List S57) (k0 : Int), 0 ≤ k0 → k0 + (cnParts suf : Int) < 4611686018427387904 → (pre ++ suf).length < 4611686018427387904 → Ev (fun k => laws_markPartS.l0 k (pre ++ suf) k0 (pre.length : Int)) (k0 + (cnParts suf : Int), pre ++ mkParts k0 suf)
  | [], pre, k0, h0, h1, h => by
    refine Ev.step (f := fun _ => some (k0, pre ++ [])) (fun k => ?_) (by rw [show (k0 + (cnParts [] : Int), pre ++ mkParts k0 []) = (k0, pre ++ []) from by simp [cnParts, mkParts]]; exact Ev.now _)
    simp only [laws_markPartS.l0]
    rw [if_neg (not_lt_end pre)]
  | y :: suf, pre, k0, h0, h1, h => by
    have hp : pre.length < 4611686018427387904 := by simp at h; omega
    have hc : cnParts (y :: suf) = cnChains y.f2 + 2 + cnParts suf := rfl
    rw [hc] at h1 ⊢
    obtain ⟨K, g⟩ := markPartS_l0 suf (pre ++ [(⟨k0, (k0 + 1), mkChains (k0 + 2) y.f2⟩ : S57)]) (k0 + 2 + (cnChains y.f2 : Int)) (by omega) (by omega) (by simpa using h)
    obtain ⟨K0, g0⟩ := markChainS_ev y.f2 (k0 + 2) (by omega) (by omega)
    refine ⟨K + K0 + 1, fun k hk => ?_⟩
    obtain ⟨k, rfl⟩ : ∃ m, k = m + 1 := ⟨k - 1, by omega⟩
    have G := g k (by omega)
    have G0 := g0 k (by omega)
    dsimp only at G G0
    have w0 : wrap64 (k0 + 1) = (k0 + 1) := (wrap_id (by omega) (by omega)).trans (by omega)
    have w1 : wrap64 ((k0 + 1) + 1) = (k0 + 2) := (wrap_id (by omega) (by omega)).trans (by omega)
    simp only [laws_markPartS.l0]
    rw [if_pos (lt_mid pre suf y)]
    simp only [nn, if_true, rdmmPart, Option.bind_some, Int.toNat_natCast, set_mid, wrap_up pre.length (by omega), G0, w0, w1]
    have eL : pre ++ (⟨k0, (k0 + 1), mkChains (k0 + 2) y.f2⟩ : S57) :: suf = (pre ++ [(⟨k0, (k0 + 1), mkChains (k0 + 2) y.f2⟩ : S57)]) ++ suf := by simp
    have eN : ((pre.length + 1 : Nat) : Int) = ((pre ++ [(⟨k0, (k0 + 1), mkChains (k0 + 2) y.f2⟩ : S57)]).length : Int) := by simp
    rw [eL, eN, G]
    refine congrArg some (Prod.ext ?_ ?_)
    · simp only []; push_cast; omega
    · simp [mkParts]
theorem markPartS_ev (l : List S57) (k0 : Int) (h0 : 0 ≤ k0) (h1 : k0 + (cnParts l : Int) < 4611686018427387904) : Ev (fun k => laws_markPartS.f k l k0) (k0 + (cnParts l : Int), mkParts k0 l) := by
  have := cnParts_le l
  exact Ev.congr (fun k => by unfold laws_markPartS.f; rfl) (markPartS_l0 l [] k0 h0 h1 (by simp; omega))
end Go.Proofs.Yticgekgojgkbgaa.Print
end
section
namespace Go.Proofs.Yticgekgojgkbgaa.Print
open Go.RowKit Go.Proofs.YticgekgojgkbgaaV.PrintWords Go.Proofs.YticgekgojgkbgaaV.PrintLast Go.Proofs.YticgekgojgkbgaaV.PrintMore
set_option linter.unusedVariables false
set_option linter.unusedSimpArgs false
theorem cnLabels_cv : ∀ l : List S85, cnLabels (l.map cvLabel) ≤ 6 * nnLabels l
  | [] => Nat.le_refl _
  | y :: ys => by
    have h0 := cnLabels_cv ys
    simp only [List.map_cons, cnLabels, nnLabels, cvLabel]
    omega

end Go.Proofs.Yticgekgojgkbgaa.Print
end
section
namespace Go.Proofs.Yticgekgojgkbgaa.Print
open Go.RowKit Go.Proofs.YticgekgojgkbgaaV.PrintWords Go.Proofs.YticgekgojgkbgaaV.PrintLast Go.Proofs.YticgekgojgkbgaaV.PrintMore
set_option linter.unusedVariables false
set_option linter.unusedSimpArgs false
theorem cnAlarms_cv : ∀ l : List S35, cnAlarms (l.map cvAlarm) ≤ 6 * nnAlarms l
  | [] => Nat.le_refl _
  | y :: ys => by
    have h0 := cnAlarms_cv ys
    have h_0 := cnLabels_cv y.f0
    simp only [List.map_cons, cnAlarms, nnAlarms, cvAlarm]
    omega

end Go.Proofs.Yticgekgojgkbgaa.Print
end
section
namespace Go.Proofs.Yticgekgojgkbgaa.Print
open Go.RowKit Go.Proofs.YticgekgojgkbgaaV.PrintWords Go.Proofs.YticgekgojgkbgaaV.PrintLast Go.Proofs.YticgekgojgkbgaaV.PrintMore
set_option linter.unusedVariables false
set_option linter.unusedSimpArgs false
theorem cnChains_cv : ∀ l : List S119, cnChains (l.map cvChain) ≤ 6 * nnChains l
  | [] => Nat.le_refl _
  | y :: ys => by
    have h0 := cnChains_cv ys
    have h_1 := cnAlarms_cv y.f1
    simp only [List.map_cons, cnChains, nnChains, cvChain]
    omega

end Go.Proofs.Yticgekgojgkbgaa.Print
end
section
namespace Go.Proofs.Yticgekgojgkbgaa.Print
open Go.RowKit Go.Proofs.YticgekgojgkbgaaV.PrintWords Go.Proofs.YticgekgojgkbgaaV.PrintLast Go.Proofs.YticgekgojgkbgaaV.PrintMore
set_option linter.unusedVariables false
set_option linter.unusedSimpArgs false
theorem cnParts_cv : ∀ l : List S52, cnParts (l.map cvPart) ≤ 6 * nnParts l
  | [] => Nat.le_refl _
  | y :: ys => by
    have h0 := cnParts_cv ys
    have h_2 := cnChains_cv y.f2
    simp only [List.map_cons, cnParts, nnParts, cvPart]
    omega

end Go.Proofs.Yticgekgojgkbgaa.Print
end
section
namespace Go.Proofs.Yticgekgojgkbgaa.Print
open Go.RowKit Go.Proofs.YticgekgojgkbgaaV.PrintWords Go.Proofs.YticgekgojgkbgaaV.PrintLast Go.Proofs.YticgekgojgkbgaaV.PrintMore
set_option linter.unusedVariables false
set_option linter.unusedSimpArgs false
theorem specL4Copy_ev (x : S43) (h : x.f0.length ≤ 5000000) : spec_l4Copy.f x.f0 x.f1 x.f2 x.f3 = some (x.f0, x.f1, x.f2, x.f3) := by
  simp only [spec_l4Copy.f, Option.bind_some, List.nil_append, List.length_nil]
  exact if_pos (by omega)
theorem implCopySet_ev (l : List S88) (h : l.length ≤ 5000000) : impl_copySet.f l = some l := by
  simp only [impl_copySet.f, List.nil_append, List.length_nil]
  exact if_pos (by omega)
theorem implCopyAlarm_ev (x : S43) (h : x.f0.length ≤ 5000000) : impl_copyAlarm.f x.f0 x.f1 x.f2 x.f3 = some (x.f0, x.f1, x.f2, x.f3) := by
  simp only [impl_copyAlarm.f, implCopySet_ev x.f0 h, Option.bind_some]

end Go.Proofs.Yticgekgojgkbgaa.Print
end
section
namespace Go.Proofs.Yticgekgojgkbgaa.Print
open Go.RowKit Go.Proofs.YticgekgojgkbgaaV.PrintWords Go.Proofs.YticgekgojgkbgaaV.PrintLast Go.Proofs.YticgekgojgkbgaaV.PrintMore
set_option linter.unusedVariables false
set_option linter.unusedSimpArgs false
theorem specL4All_l0 : ∀ (suf pre : List S43), (pre ++ suf).length ≤ 5000000 → (∀ y ∈ suf, y.f0.length ≤ 5000000) → Ev (fun k => spec_l4All.l0 k (pre ++ suf) pre (pre.length : Int)) (pre ++ suf)
  | [], pre, h, hW => by
    refine Ev.step (f := fun _ => some (pre ++ [])) (fun k => ?_) (Ev.now _)
    simp only [spec_l4All.l0]
    rw [if_neg (not_lt_end pre), List.append_nil]
  | y :: suf, pre, h, hW => by
    have ih := specL4All_l0 suf (pre ++ [y]) (by simpa using h) (fun z hz => hW z (List.mem_cons_of_mem _ hz))
    have hp : pre.length < 5000000 := by simp at h; omega
    refine Ev.step (f := fun k => spec_l4All.l0 k ((pre ++ [y]) ++ suf) (pre ++ [y]) ((pre ++ [y]).length : Int)) (fun k => ?_) (by rw [mid_assoc pre suf y]; exact ih)
    simp only [spec_l4All.l0]
    rw [if_pos (lt_mid pre suf y)]
    simp only [nn, if_true, rdmmAlarm, specL4Copy_ev y (hW y List.mem_cons_self), Option.bind_some, wrap_up pre.length (by omega)]
    rw [if_pos (by omega)]
    congr 1
    · simp
    · simp
theorem specL4All_ev (l : List S43) (h : l.length ≤ 5000000) (hW : ∀ y ∈ l, y.f0.length ≤ 5000000) : Ev (fun k => spec_l4All.f k l) l :=
  Ev.congr (fun k => by unfold spec_l4All.f; rfl) (specL4All_l0 l [] (by simpa using h) hW)
theorem implCopyAlarms_l0 : ∀ (suf pre : List S43), (pre ++ suf).length ≤ 5000000 → (∀ y ∈ suf, y.f0.length ≤ 5000000) → Ev (fun k => impl_copyAlarms.l0 k pre (pre ++ suf) ((pre ++ suf).length : Int) (pre.length : Int)) (pre ++ suf)
  | [], pre, h, hW => by
    refine Ev.step (f := fun _ => some (pre ++ [])) (fun k => ?_) (Ev.now _)
    simp only [impl_copyAlarms.l0]
    rw [if_neg (by simp), List.append_nil]
  | y :: suf, pre, h, hW => by
    have ih := implCopyAlarms_l0 suf (pre ++ [y]) (by simpa using h) (fun z hz => hW z (List.mem_cons_of_mem _ hz))
    have hp : pre.length < 5000000 := by simp at h; omega
    refine Ev.step (f := fun k => impl_copyAlarms.l0 k (pre ++ [y]) ((pre ++ [y]) ++ suf) (((pre ++ [y]) ++ suf).length : Int) ((pre ++ [y]).length : Int)) (fun k => ?_) (by rw [mid_assoc pre suf y]; exact ih)
    simp only [impl_copyAlarms.l0]
    rw [if_pos (lt_mid pre suf y)]
    simp only [nn, if_true, rdmmAlarm, implCopyAlarm_ev y (hW y List.mem_cons_self), Option.bind_some, wrap_up pre.length (by omega)]
    rw [if_pos (lt_mid pre suf y), if_pos (by omega)]
    congr 1
    · simp
    · simp
    · simp
theorem implCopyAlarms_ev (l : List S43) (h : l.length ≤ 5000000) (hW : ∀ y ∈ l, y.f0.length ≤ 5000000) : Ev (fun k => impl_copyAlarms.f k l) l :=
  Ev.congr (fun k => by unfold impl_copyAlarms.f; rfl) (implCopyAlarms_l0 l [] (by simpa using h) hW)

end Go.Proofs.Yticgekgojgkbgaa.Print
end
section
namespace Go.Proofs.Yticgekgojgkbgaa.Print
open Go.RowKit Go.Proofs.YticgekgojgkbgaaV.PrintWords Go.Proofs.YticgekgojgkbgaaV.PrintLast Go.Proofs.YticgekgojgkbgaaV.PrintMore
set_option linter.unusedVariables false
set_option linter.unusedSimpArgs false
theorem specL8Sort_j2 (x0 : List S43) (x4 : Int) (x : S43) (r suf : List S43) (h : r.length + suf.length ≤ 5000000) (k : Nat) :
    spec_l8Sort.j2 (k + 1) x0 (r.reverse ++ suf) x4 (r.length : Int) false x.f0 x.f1 x.f2 x.f3 = spec_l8Sort.l0 k x0 ((x :: r).reverse ++ suf) (wrap64 (x4 + 1)) := by
  have e1 : (r.reverse ++ suf).take ((r.length : Int)).toNat = r.reverse := by simp
  have e2 : (r.reverse ++ suf).drop ((r.length : Int)).toNat = suf := by simp
  have c1 : (r.length : Int) ≤ ((r.reverse ++ suf).length : Int) := by simp only [List.length_append, List.length_reverse]; omega
  simp only [spec_l8Sort.j2]
  rw [if_neg (by simp)]
  simp only [Option.bind_some, e1, e2, nn, c1, if_true, List.nil_append, List.length_nil]
  rw [if_pos (by simp only [List.length_reverse]; omega), if_pos (by simp only [List.length_reverse]; omega), if_pos (by simp only [List.length_append, List.length_reverse, List.length_cons, List.length_nil]; omega)]
  simp
theorem specL8Sort_l1 (x0 : List S43) (x4 : Int) (x : S43) (hx : x.f0.length ≤ 5000000) (v : List S43) : ∀ (r suf : List S43), r.length + suf.length ≤ 5000000 →
    Ev (fun k => spec_l8Sort.l0 k x0 ((insR altA x r).reverse ++ suf) (wrap64 (x4 + 1))) v → Ev (fun k => spec_l8Sort.l1 k x0 (r.reverse ++ suf) x4 (r.length : Int) x.f0 x.f1 x.f2 x.f3) v
  | [], suf, h, ⟨K, g⟩ => by
    refine ⟨K + 2, fun k hk => ?_⟩
    obtain ⟨k, rfl⟩ : ∃ m, k = m + 2 := ⟨k - 2, by omega⟩
    show spec_l8Sort.l1 (k + 1 + 1) _ _ _ _ _ _ _ _ = _
    unfold spec_l8Sort.l1
    rw [if_neg (by simp)]
    have := specL8Sort_j2 x0 x4 x [] suf h k
    rw [this]
    exact g k (by omega)
  | y :: r, suf, h, hv => by
    have hr : r.length + (suf.length + 1) ≤ 5000000 := by simp only [List.length_cons] at h; omega
    obtain ⟨K1, g1⟩ := specSetLess_ev x.f0 y.f0 (by omega)
    simp only at g1
    have e1 : wrap64 (((y :: r).length : Int) - 1) = (r.length : Int) := (wrap_id (by simp only [List.length_cons]; omega) (by simp only [List.length_cons]; omega)).trans (by simp only [List.length_cons]; omega)
    have eL : (y :: r).reverse ++ suf = r.reverse ++ y :: suf := by simp
    have eR : rd_T43 (r.reverse ++ y :: suf) (r.length : Int) = y := by
      have := rdmidAlarmi r.reverse suf y
      rwa [List.length_reverse] at this
    have c1 : (r.length : Int) < ((r.reverse ++ y :: suf).length : Int) := by simp only [List.length_append, List.length_reverse, List.length_cons]; omega
    have c0 : ((y :: r).length : Int) > 0 := by simp only [List.length_cons]; omega
    by_cases c : altA x y = true
    · have e : (insR altA x (y :: r)).reverse ++ suf = (insR altA x r).reverse ++ y :: suf := by
        rw [insR, if_pos c]; simp
      rw [e] at hv
      obtain ⟨K, g⟩ := specL8Sort_l1 x0 x4 x hx v r (y :: suf) (by simpa using hr) hv
      refine ⟨K + K1 + 2, fun k hk => ?_⟩
      obtain ⟨k, rfl⟩ : ∃ m, k = m + 2 := ⟨k - 2, by omega⟩
      show spec_l8Sort.l1 (k + 1 + 1) _ _ _ _ _ _ _ _ = _
      unfold spec_l8Sort.l1
      rw [if_pos c0, e1, if_pos (nn _), eL, if_pos c1, eR, g1 (k + 1) (by omega), Option.bind_some, show setLess x.f0 y.f0 = true from c]
      unfold spec_l8Sort.j2
      rw [if_pos rfl, e1]
      exact g k (by omega)
    · have e : (insR altA x (y :: r)).reverse ++ suf = (x :: y :: r).reverse ++ suf := by
        rw [insR, if_neg c]
      rw [e] at hv
      obtain ⟨K, g⟩ := hv
      refine ⟨K + K1 + 2, fun k hk => ?_⟩
      obtain ⟨k, rfl⟩ : ∃ m, k = m + 2 := ⟨k - 2, by omega⟩
      show spec_l8Sort.l1 (k + 1 + 1) _ _ _ _ _ _ _ _ = _
      unfold spec_l8Sort.l1
      rw [if_pos c0, e1, if_pos (nn _), eL, if_pos c1, eR, g1 (k + 1) (by omega), Option.bind_some, show setLess x.f0 y.f0 = false by simpa [altA] using c, ← eL, specL8Sort_j2 x0 x4 x (y :: r) suf h k]
      exact g k (by omega)
theorem specL8Sort_l0 : ∀ (suf pre out : List S43), (pre ++ suf).length ≤ 5000000 → out.length = pre.length → (∀ y ∈ suf, y.f0.length ≤ 5000000) → Ev (fun k => spec_l8Sort.l0 k (pre ++ suf) out (pre.length : Int)) (sortE altA out suf)
  | [], pre, out, h, ho, hW => by
    refine Ev.step (f := fun _ => some out) (fun k => ?_) (Ev.now _)
    simp only [spec_l8Sort.l0]
    rw [if_neg (not_lt_end pre)]
  | y :: suf, pre, out, h, ho, hW => by
    have hp : pre.length < 5000000 := by simp at h; omega
    have ih := specL8Sort_l0 suf (pre ++ [y]) (insE altA y out) (by simpa using h) (by simp [insE, insR_length, ho]) (fun z hz => hW z (List.mem_cons_of_mem _ hz))
    have hy := hW y List.mem_cons_self
    have hv : Ev (fun k => spec_l8Sort.l0 k (pre ++ y :: suf) ((insR altA y out.reverse).reverse ++ []) (wrap64 ((pre.length : Int) + 1))) (sortE altA out (y :: suf)) := by
      rw [wrap_up _ (by omega), List.append_nil]
      rw [show pre ++ y :: suf = (pre ++ [y]) ++ suf by simp, show ((pre.length + 1 : Nat) : Int) = ((pre ++ [y]).length : Int) by simp]
      exact ih
    obtain ⟨K, g⟩ := specL8Sort_l1 (pre ++ y :: suf) (pre.length : Int) y hy _ out.reverse [] (by simp; omega) hv
    refine ⟨K + 1, fun k hk => ?_⟩
    obtain ⟨k, rfl⟩ : ∃ m, k = m + 1 := ⟨k - 1, by omega⟩
    have G := g k (by omega)
    simp only [List.reverse_reverse, List.append_nil, List.length_reverse] at G
    show spec_l8Sort.l0 (k + 1) _ _ _ = _
    unfold spec_l8Sort.l0
    rw [if_pos (lt_mid pre suf y), if_pos (nn _), rdmidAlarmi, specL4Copy_ev y hy, Option.bind_some]
    exact G
theorem specL8Sort_ev (l : List S43) (h : l.length ≤ 4000000 ∧ ∀ y ∈ l, WiAlarm y) : Ev (fun k => spec_l8Sort.f k l) (sortE altA [] l) :=
  Ev.congr (fun k => by unfold spec_l8Sort.f; rfl) (specL8Sort_l0 l [] [] (by simp; omega) rfl (fun y hy => Nat.le_trans (h.2 y hy).1.1 (by decide)))

end Go.Proofs.Yticgekgojgkbgaa.Print
end
section
namespace Go.Proofs.Yticgekgojgkbgaa.Print
open Go.RowKit Go.Proofs.YticgekgojgkbgaaV.PrintWords Go.Proofs.YticgekgojgkbgaaV.PrintLast Go.Proofs.YticgekgojgkbgaaV.PrintMore
set_option linter.unusedVariables false
set_option linter.unusedSimpArgs false
theorem okA {l : List S43} (h : l.length ≤ 4000000 ∧ ∀ y ∈ l, WiAlarm y) : l.length ≤ 5000000 ∧ ∀ y ∈ l, y.f0.length ≤ 5000000 := ⟨by omega, fun y hy => Nat.le_trans (h.2 y hy).1.1 (by decide)⟩
def inC : List S100 → List S43
  | [] => []
  | c :: cs => c.f1 ++ inC cs
def inS : List S57 → List S43
  | [] => []
  | p :: ps => inC p.f2 ++ inS ps
theorem specAlarmsIn_l0 (o0 o1 : Int) : ∀ (suf pre : List S100) (acc : List S43), (pre ++ suf).length ≤ 5000000 → acc.length + (inC suf).length ≤ 5000000 → (∀ c ∈ suf, ∀ y ∈ c.f1, y.f0.length ≤ 5000000) →
    Ev (fun k => spec_AlarmsIn.l0 k acc (pre.length : Int) o0 o1 (pre ++ suf)) (acc ++ inC suf)
  | [], pre, acc, h, ha, hW => by
    refine Ev.step (f := fun _ => some (acc ++ ([] : List S43))) (fun k => ?_) (Ev.now _)
    simp only [spec_AlarmsIn.l0]
    rw [if_neg (not_lt_end pre)]
    simp
  | y :: suf, pre, acc, h, ha, hW => by
    have hp : pre.length < 5000000 := by simp at h; omega
    have hl : acc.length + (y.f1.length + (inC suf).length) ≤ 5000000 := by simpa [inC] using ha
    obtain ⟨K, g⟩ := specAlarmsIn_l0 o0 o1 suf (pre ++ [y]) (acc ++ y.f1) (by simpa using h) (by simp; omega) (fun z hz => hW z (List.mem_cons_of_mem _ hz))
    obtain ⟨K1, g1⟩ := specL4All_ev y.f1 (by omega) (hW y List.mem_cons_self)
    refine ⟨K + K1 + 1, fun k hk => ?_⟩
    obtain ⟨k, rfl⟩ : ∃ m, k = m + 1 := ⟨k - 1, by omega⟩
    have G := g k (by omega)
    have G1 := g1 k (by omega)
    simp only at G G1
    simp only [spec_AlarmsIn.l0]
    rw [if_pos (lt_mid pre suf y), if_pos (nn _), rdmidChaini, G1, Option.bind_some, if_pos (by omega), wrap_up _ (by omega)]
    rw [show pre ++ y :: suf = (pre ++ [y]) ++ suf by simp, show ((pre.length + 1 : Nat) : Int) = ((pre ++ [y]).length : Int) by simp, G]
    simp [inC]
theorem implAlarmsIn_l0 : ∀ (suf pre : List S100) (acc : List S43), (pre ++ suf).length ≤ 5000000 → acc.length + (inC suf).length ≤ 5000000 → (∀ c ∈ suf, ∀ y ∈ c.f1, y.f0.length ≤ 5000000) →
    Ev (fun k => impl_AlarmsIn.l0 k acc (pre ++ suf) ((pre ++ suf).length : Int) (pre.length : Int)) (acc ++ inC suf)
  | [], pre, acc, h, ha, hW => by
    refine Ev.step (f := fun _ => some (acc ++ ([] : List S43))) (fun k => ?_) (Ev.now _)
    simp only [impl_AlarmsIn.l0]
    rw [if_neg (not_lt_end pre)]
    simp
  | y :: suf, pre, acc, h, ha, hW => by
    have hp : pre.length < 5000000 := by simp at h; omega
    have hl : acc.length + (y.f1.length + (inC suf).length) ≤ 5000000 := by simpa [inC] using ha
    obtain ⟨K, g⟩ := implAlarmsIn_l0 suf (pre ++ [y]) (acc ++ y.f1) (by simpa using h) (by simp; omega) (fun z hz => hW z (List.mem_cons_of_mem _ hz))
    obtain ⟨K1, g1⟩ := implCopyAlarms_ev y.f1 (by omega) (hW y List.mem_cons_self)
    refine ⟨K + K1 + 1, fun k hk => ?_⟩
    obtain ⟨k, rfl⟩ : ∃ m, k = m + 1 := ⟨k - 1, by omega⟩
    have G := g k (by omega)
    have G1 := g1 k (by omega)
    simp only at G G1
    simp only [impl_AlarmsIn.l0]
    rw [if_pos (lt_mid pre suf y), if_pos (nn _), if_pos (lt_mid pre suf y), rdmidChaini, G1, Option.bind_some, if_pos (by omega), wrap_up _ (by omega)]
    rw [show pre ++ y :: suf = (pre ++ [y]) ++ suf by simp, show ((pre.length + 1 : Nat) : Int) = ((pre ++ [y]).length : Int) by simp, G]
    simp [inC]
theorem specAlarmsIn_ev (p : S57) (h : p.f2.length ≤ 5000000) (hl : (inC p.f2).length ≤ 5000000) (hW : ∀ c ∈ p.f2, ∀ y ∈ c.f1, y.f0.length ≤ 5000000) : Ev (fun k => spec_AlarmsIn.f k p.f0 p.f1 p.f2) (inC p.f2) :=
  Ev.congr (fun k => by unfold spec_AlarmsIn.f; rfl) (specAlarmsIn_l0 p.f0 p.f1 p.f2 [] [] (by simpa using h) (by simpa using hl) hW)
theorem implAlarmsIn_ev (p : S57) (h : p.f2.length ≤ 5000000) (hl : (inC p.f2).length ≤ 5000000) (hW : ∀ c ∈ p.f2, ∀ y ∈ c.f1, y.f0.length ≤ 5000000) : Ev (fun k => impl_AlarmsIn.f k p.f0 p.f1 p.f2) (inC p.f2) :=
  Ev.congr (fun k => by unfold impl_AlarmsIn.f; rfl) (implAlarmsIn_l0 p.f2 [] [] (by simpa using h) (by simpa using hl) hW)
theorem inC_mem {y : S43} : ∀ {l : List S100}, y ∈ inC l → ∃ c ∈ l, y ∈ c.f1
  | [], h => by cases h
  | c :: l, h => by
    rcases List.mem_append.1 h with h | h
    · exact ⟨c, List.mem_cons_self, h⟩
    · obtain ⟨d, hd, hy⟩ := inC_mem h; exact ⟨d, List.mem_cons_of_mem _ hd, hy⟩
theorem inS_mem {y : S43} : ∀ {l : List S57}, y ∈ inS l → ∃ p ∈ l, y ∈ inC p.f2
  | [], h => by cases h
  | c :: l, h => by
    rcases List.mem_append.1 h with h | h
    · exact ⟨c, List.mem_cons_self, h⟩
    · obtain ⟨d, hd, hy⟩ := inS_mem h; exact ⟨d, List.mem_cons_of_mem _ hd, hy⟩
theorem specAllAlarms_l0 (v : List S43) : ∀ (suf pre : List S57) (acc : List S43), (pre ++ suf).length ≤ 5000000 → acc.length + (inS suf).length ≤ 5000000 → (∀ p ∈ suf, WiPart p) → Ev (fun k => spec_l8Sort.f k (acc ++ inS suf)) v →
    Ev (fun k => spec_AllAlarms.l0 k (pre ++ suf) acc (pre.length : Int)) v
  | [], pre, acc, h, ha, hW, hv => by
    refine Ev.step (f := fun k => spec_l8Sort.f k (acc ++ inS [])) (fun k => ?_) hv
    simp only [spec_AllAlarms.l0]
    rw [if_neg (not_lt_end pre)]
    simp [inS]
  | y :: suf, pre, acc, h, ha, hW, hv => by
    have hp : pre.length < 5000000 := by simp at h; omega
    have hl : acc.length + ((inC y.f2).length + (inS suf).length) ≤ 5000000 := by simpa [inS] using ha
    have hy := hW y List.mem_cons_self
    obtain ⟨K, g⟩ := specAllAlarms_l0 v suf (pre ++ [y]) (acc ++ inC y.f2) (by simpa using h) (by simp; omega) (fun z hz => hW z (List.mem_cons_of_mem _ hz)) (by simpa [inS] using hv)
    obtain ⟨K1, g1⟩ := specAlarmsIn_ev y (Nat.le_trans hy.2.2.1 (by decide)) (by omega) (fun c hc => (okA (hy.2.2.2 c hc).2).2)
    refine ⟨K + K1 + 1, fun k hk => ?_⟩
    obtain ⟨k, rfl⟩ : ∃ m, k = m + 1 := ⟨k - 1, by omega⟩
    have G := g k (by omega)
    have G1 := g1 k (by omega)
    simp only at G G1
    simp only [spec_AllAlarms.l0]
    rw [if_pos (lt_mid pre suf y), if_pos (nn _), rdmidParti, G1, Option.bind_some, if_pos (by omega), wrap_up _ (by omega)]
    rw [show pre ++ y :: suf = (pre ++ [y]) ++ suf by simp, show ((pre.length + 1 : Nat) : Int) = ((pre ++ [y]).length : Int) by simp, G]
theorem implAllAlarms_l0 (v : List S43) : ∀ (suf pre : List S57) (acc : List S43), (pre ++ suf).length ≤ 5000000 → acc.length + (inS suf).length ≤ 5000000 → (∀ p ∈ suf, WiPart p) → Ev (fun k => impl_byLabels.f k (acc ++ inS suf)) v →
    Ev (fun k => impl_AllAlarms.l0 k acc (pre ++ suf) ((pre ++ suf).length : Int) (pre.length : Int)) v
  | [], pre, acc, h, ha, hW, hv => by
    refine Ev.step (f := fun k => impl_byLabels.f k (acc ++ inS [])) (fun k => ?_) hv
    simp only [impl_AllAlarms.l0]
    rw [if_neg (not_lt_end pre)]
    simp [inS]
  | y :: suf, pre, acc, h, ha, hW, hv => by
    have hp : pre.length < 5000000 := by simp at h; omega
    have hl : acc.length + ((inC y.f2).length + (inS suf).length) ≤ 5000000 := by simpa [inS] using ha
    have hy := hW y List.mem_cons_self
    obtain ⟨K, g⟩ := implAllAlarms_l0 v suf (pre ++ [y]) (acc ++ inC y.f2) (by simpa using h) (by simp; omega) (fun z hz => hW z (List.mem_cons_of_mem _ hz)) (by simpa [inS] using hv)
    obtain ⟨K1, g1⟩ := implAlarmsIn_ev y (Nat.le_trans hy.2.2.1 (by decide)) (by omega) (fun c hc => (okA (hy.2.2.2 c hc).2).2)
    refine ⟨K + K1 + 1, fun k hk => ?_⟩
    obtain ⟨k, rfl⟩ : ∃ m, k = m + 1 := ⟨k - 1, by omega⟩
    have G := g k (by omega)
    have G1 := g1 k (by omega)
    simp only at G G1
    simp only [impl_AllAlarms.l0]
    rw [if_pos (lt_mid pre suf y), if_pos (nn _), if_pos (lt_mid pre suf y), rdmidParti, G1, Option.bind_some, if_pos (by omega), wrap_up _ (by omega)]
    rw [show pre ++ y :: suf = (pre ++ [y]) ++ suf by simp, show ((pre.length + 1 : Nat) : Int) = ((pre ++ [y]).length : Int) by simp, G]
def allA (l : List S57) : List S43 := sortE altA [] (inS l)
theorem inS_wi {l : List S57} (h : l.length ≤ 4000000 ∧ ∀ y ∈ l, WiPart y) (hl : (inS l).length ≤ 4000000) : (inS l).length ≤ 4000000 ∧ ∀ y ∈ inS l, WiAlarm y :=
  ⟨hl, fun y hy => by
    obtain ⟨p, hp, hy⟩ := inS_mem hy
    obtain ⟨c, hc, hy⟩ := inC_mem hy
    exact (((h.2 p hp).2.2.2 c hc).2.2 y hy)⟩
theorem specAllAlarms_ev (l : List S57) (h : l.length ≤ 4000000 ∧ ∀ y ∈ l, WiPart y) (hl : (inS l).length ≤ 4000000) : Ev (fun k => spec_AllAlarms.f k l) (allA l) :=
  Ev.congr (fun k => by unfold spec_AllAlarms.f; rfl) (specAllAlarms_l0 (allA l) l [] [] (by simp; omega) (by simp; omega) h.2 (by simpa [allA] using specL8Sort_ev (inS l) (inS_wi h hl)))
theorem implAllAlarms_ev (l : List S57) (h : l.length ≤ 4000000 ∧ ∀ y ∈ l, WiPart y) (hl : (inS l).length ≤ 4000000) : Ev (fun k => impl_AllAlarms.f k l) (allA l) :=
  Ev.congr (fun k => by unfold impl_AllAlarms.f; rfl) (implAllAlarms_l0 (allA l) l [] [] (by simp; omega) (by simp; omega) h.2 (by simpa [allA] using implByLabels_ev (inS l) (inS_wi h hl)))
theorem allA_wi {l : List S57} (h : l.length ≤ 4000000 ∧ ∀ y ∈ l, WiPart y) (hl : (inS l).length ≤ 4000000) : (allA l).length ≤ 4000000 ∧ ∀ y ∈ allA l, WiAlarm y :=
  ⟨by unfold allA; rw [sortE_length]; simpa using hl, fun y hy => (inS_wi h hl).2 y (by unfold allA at hy; simpa using (sortE_mem.1 hy))⟩
theorem inC_nn : ∀ (l : List S119), (inC (l.map cvChain)).length ≤ nnChains l
  | [] => Nat.le_refl _
  | y :: ys => by
    have := inC_nn ys
    have := nnAlarms_le y.f1
    have : (cvChain y).f1.length = y.f1.length := by simp [cvChain]
    simp only [List.map_cons, inC, List.length_append, nnChains]; omega
theorem inS_nn : ∀ (l : List S52), (inS (l.map cvPart)).length ≤ nnParts l
  | [] => Nat.le_refl _
  | y :: ys => by
    have := inS_nn ys
    have := inC_nn y.f2
    have : (inC (cvPart y).f2).length = (inC (y.f2.map cvChain)).length := by simp [cvPart]
    simp only [List.map_cons, inS, List.length_append, nnParts]; omega
theorem cnA_app : ∀ (x y : List S43), cnAlarms (x ++ y) = cnAlarms x + cnAlarms y
  | [], y => by simp [cnAlarms]
  | a :: x, y => by simp only [List.cons_append, cnAlarms, cnA_app x y]; omega
theorem cnA_insR (x : S43) : ∀ r : List S43, cnAlarms (insR altA x r) = cnAlarms r + cnAlarms [x]
  | [] => by simp [insR, cnAlarms]
  | y :: r => by
    unfold insR
    split
    · simp only [cnAlarms, cnA_insR x r]; omega
    · simp only [cnAlarms]; omega
theorem cnA_rev : ∀ r : List S43, cnAlarms r.reverse = cnAlarms r
  | [] => rfl
  | y :: r => by rw [List.reverse_cons, cnA_app, cnA_rev r]; simp only [cnAlarms]; omega
theorem cnA_sortE : ∀ (l out : List S43), cnAlarms (sortE altA out l) = cnAlarms out + cnAlarms l
  | [], out => by simp [sortE, cnAlarms]
  | x :: l, out => by
    rw [sortE, cnA_sortE l, insE, cnA_rev, cnA_insR, cnA_rev]
    simp only [cnAlarms]; omega
theorem cnA_inC : ∀ l : List S100, cnAlarms (inC l) ≤ cnChains l
  | [] => Nat.le_refl _
  | y :: ys => by have := cnA_inC ys; simp only [inC, cnA_app, cnChains]; omega
theorem cnA_inS : ∀ l : List S57, cnAlarms (inS l) ≤ cnParts l
  | [] => Nat.le_refl _
  | y :: ys => by have := cnA_inS ys; have := cnA_inC y.f2; simp only [inS, cnA_app, cnParts]; omega
theorem cnA_all (l : List S57) : cnAlarms (allA l) ≤ cnParts l := by
  unfold allA; rw [cnA_sortE]; have := cnA_inS l; simp only [cnAlarms]; omega

end Go.Proofs.Yticgekgojgkbgaa.Print
end
section
/- The law FnExactAllAlarms answers true for all arguments that can be read: the pure statement, without Go and memory. No condition. -/
namespace Go.Proofs.Yticgekgojgkbgaa.Print
open Go.RowKit Go.Proofs.YticgekgojgkbgaaV.PrintWords Go.Proofs.YticgekgojgkbgaaV.PrintLast Go.Proofs.YticgekgojgkbgaaV.PrintMore
set_option linter.unusedVariables false
set_option linter.unusedSimpArgs false
theorem pure_FnExactAllAlarms : laws_FnExactAllAlarms.Pure := by
  intro p0 hp0
  obtain ⟨r0, ⟨K0, g0⟩, le0, w0⟩ := szPartS_ev p0 hp0 1048576 (by omega) (by omega)
  simp only at g0
  by_cases c0 : r0 < 0
  · exact ⟨K0, by simp [laws_FnExactAllAlarms.f, g0 (K0) (by omega), c0]⟩
  obtain ⟨nl0, nb0⟩ := szPartS_nn p0 hp0 K0 1048576 r0 (g0 K0 (Nat.le_refl _)) (by omega) (by omega) (by omega)
  have b0 : cnParts (p0.map cvPart) ≤ 6 * nnParts p0 := cnParts_cv _
  have n0 : ((1 + (cnParts (p0.map cvPart) : Int)) < 0) = False := eq_false (by omega)
  have bi : (inS (p0.map cvPart)).length ≤ 4000000 := Nat.le_trans (inS_nn p0) (by omega)
  have W := Wi_mapPart (w0 (by omega))
  obtain ⟨g, hg, hw, hc⟩ : ∃ g, allA (p0.map cvPart) = g ∧ (g.length ≤ 4000000 ∧ ∀ y ∈ g, WiAlarm y) ∧ cnAlarms g ≤ 100000000 := ⟨_, rfl, allA_wi W bi, Nat.le_trans (cnA_all _) (by omega)⟩
  have n2 : ((1 + (cnAlarms g : Int)) < 0) = False := eq_false (by omega)
  obtain ⟨L0, f0⟩ := toPartS_ev p0 (w0 (by omega))
  obtain ⟨L1, f1⟩ := eqPartS_ev (p0.map cvPart) W
  obtain ⟨L4, f4⟩ := hg ▸ specAllAlarms_ev (p0.map cvPart) W bi
  obtain ⟨L5, f5⟩ := hg ▸ implAllAlarms_ev (p0.map cvPart) W bi
  obtain ⟨L6, f6⟩ := markPartS_ev (p0.map cvPart) 1 (by omega) (by omega)
  obtain ⟨L8, f8⟩ := eqAlarmS_ev g hw
  obtain ⟨L9, f9⟩ := markAlarmS_ev g 1 (by omega) (by omega)
  obtain ⟨L10, f10⟩ := heldAlarmS_ev g 1 (by omega) (by omega)
  have G0 := fun m => g0 (K0 + L0 + L1 + L4 + L5 + L6 + L8 + L9 + L10 + m) (by omega)
  have F0 := fun m => f0 (K0 + L0 + L1 + L4 + L5 + L6 + L8 + L9 + L10 + m) (by omega)
  have F1 := fun m => f1 (K0 + L0 + L1 + L4 + L5 + L6 + L8 + L9 + L10 + m) (by omega)
  have F4 := fun m => f4 (K0 + L0 + L1 + L4 + L5 + L6 + L8 + L9 + L10 + m) (by omega)
  have F5 := fun m => f5 (K0 + L0 + L1 + L4 + L5 + L6 + L8 + L9 + L10 + m) (by omega)
  have F6 := fun m => f6 (K0 + L0 + L1 + L4 + L5 + L6 + L8 + L9 + L10 + m) (by omega)
  have F8 := fun m => f8 (K0 + L0 + L1 + L4 + L5 + L6 + L8 + L9 + L10 + m) (by omega)
  have F9 := fun m => f9 (K0 + L0 + L1 + L4 + L5 + L6 + L8 + L9 + L10 + m) (by omega)
  have F10 := fun m => f10 (K0 + L0 + L1 + L4 + L5 + L6 + L8 + L9 + L10 + m) (by omega)
  simp only at F0 F1 F4 F5 F6 F8 F9 F10
  exact ⟨K0 + L0 + L1 + L4 + L5 + L6 + L8 + L9 + L10 + 3, by simp [laws_FnExactAllAlarms.f, G0, F0, F1, F4, F5, F6, F8, F9, F10, c0, n0, n2]⟩

end Go.Proofs.Yticgekgojgkbgaa.Print
end
