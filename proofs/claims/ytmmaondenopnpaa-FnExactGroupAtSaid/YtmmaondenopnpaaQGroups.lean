import Derived.Test.YtmmaondenopnpaaF0
import Derived.Test.YtmmaondenopnpaaF7
import Derived.Test.YtmmaondenopnpaaF28
import Derived.Test.YtmmaondenopnpaaF31
import Derived.Test.YtmmaondenopnpaaF94
import Derived.Test.YtmmaondenopnpaaF95
import Derived.Test.YtmmaondenopnpaaF101
import Derived.Test.YtmmaondenopnpaaF102
import Derived.Test.YtmmaondenopnpaaF103
import Derived.Test.YtmmaondenopnpaaQBase
import Derived.Test.YtmmaondenopnpaaQScan
import Derived.Test.YtmmaondenopnpaaQSame
import Derived.Test.YtmmaondenopnpaaQFamGroupS
namespace Go.Proofs.Ytmmaondenopnpaa.Print
open Go.RowKit Go.Proofs.YtmmaondenopnpaaV.PrintWords Go.Proofs.YtmmaondenopnpaaV.PrintLast Go.Proofs.YtmmaondenopnpaaV.PrintMore
set_option linter.unusedVariables false
set_option linter.unusedSimpArgs false
theorem rdnGroup (l : List S68) (i : Nat) : rd_T68 l (i : Int) = l.getD i z68 := by unfold rd_T68; simp
def groupAt (l : List S68) (n : Int) : Int := place (fun g => decide (g.f0 = n)) l 0
theorem implGroupAt_ev (l : List S68) (n : Int) (h : l.length ≤ 4000000 ∧ ∀ y ∈ l, WiGroup y) : Ev (fun k => impl_GroupAt.f k l n) (groupAt l n) := by
  have h1 := h.1
  unfold impl_GroupAt.f groupAt
  rw [← scan_place0 (fun g : S68 => decide (g.f0 = n)) z68 l]
  refine scan_ev (F := fun k i => impl_GroupAt.l0 k n l (l.length : Int) i) (n := l.length) (fun k => ?_) (fun i hi => ⟨0, fun k _ => ?_⟩) l.length 0 (by omega)
  · simp only [impl_GroupAt.l0]; rw [if_neg (by omega)]
  · simp only [impl_GroupAt.l0]
    rw [if_pos (by omega), if_pos (by omega), if_pos (by omega), rdnGroup, wrap_up i (by omega)]
    by_cases hc : (l.getD i z68).f0 = n
    · rw [if_pos hc, if_pos (decide_eq_true hc)]; rfl
    · rw [if_neg hc, if_neg (by simpa using hc)]; rfl
theorem specGroupAt_ev (l : List S68) (n : Int) (h : l.length ≤ 4000000 ∧ ∀ y ∈ l, WiGroup y) : Ev (fun k => spec_GroupAt.f k l n) (groupAt l n) := by
  have h1 := h.1
  unfold spec_GroupAt.f groupAt
  rw [← scan_place0 (fun g : S68 => decide (g.f0 = n)) z68 l]
  refine scan_ev (F := fun k i => spec_GroupAt.l0 k l n i) (n := l.length) (fun k => ?_) (fun i hi => ⟨0, fun k _ => ?_⟩) l.length 0 (by omega)
  · simp only [spec_GroupAt.l0]; rw [if_neg (by omega)]
  · simp only [spec_GroupAt.l0]
    rw [if_pos (by omega), if_pos (by omega), rdnGroup, wrap_up i (by omega)]
    by_cases hc : (l.getD i z68).f0 = n
    · rw [if_pos hc, if_pos (decide_eq_true hc)]; rfl
    · rw [if_neg hc, if_neg (by simpa using hc)]; rfl
def groupOf (l : List S68) (key : List S116) : Int := place (fun g => sameSet g.f1 key) l 0
theorem implGroupOf_ev (l : List S68) (key : List S116) (h : l.length ≤ 4000000 ∧ ∀ y ∈ l, WiGroup y) : Ev (fun k => impl_GroupOf.f k l key) (groupOf l key) := by
  have h1 := h.1
  unfold impl_GroupOf.f groupOf
  rw [← scan_place0 (fun g : S68 => sameSet g.f1 key) z68 l]
  refine scan_ev (F := fun k i => impl_GroupOf.l0 k key l (l.length : Int) i) (n := l.length) (fun k => ?_) (fun i hi => ?_) l.length 0 (by omega)
  · simp only [impl_GroupOf.l0]; rw [if_neg (by omega)]
  · have hw := (h.2 _ (getD_mem l i z68 hi)).2.1.1
    obtain ⟨K, g⟩ := implSameSet_ev (l.getD i z68).f1 key (by omega)
    refine ⟨K, fun k hk => ?_⟩
    have e := g k hk
    simp only at e
    simp only [impl_GroupOf.l0]
    rw [if_pos (by omega), if_pos (by omega), if_pos (by omega), rdnGroup, e, Option.bind_some, wrap_up i (by omega)]
    cases sameSet (l.getD i z68).f1 key <;> simp [goOn]
theorem specGroupOf_ev (l : List S68) (key : List S116) (h : l.length ≤ 4000000 ∧ ∀ y ∈ l, WiGroup y) : Ev (fun k => spec_GroupOf.f k l key) (groupOf l key) := by
  have h1 := h.1
  unfold spec_GroupOf.f groupOf
  rw [← scan_place0 (fun g : S68 => sameSet g.f1 key) z68 l]
  refine scan_ev (F := fun k i => spec_GroupOf.l0 k l key i) (n := l.length) (fun k => ?_) (fun i hi => ?_) l.length 0 (by omega)
  · simp only [spec_GroupOf.l0]; rw [if_neg (by omega)]
  · have hw := (h.2 _ (getD_mem l i z68 hi)).2.1.1
    obtain ⟨K, g⟩ := specSameSet_ev (l.getD i z68).f1 key (by omega)
    refine ⟨K, fun k hk => ?_⟩
    have e := g k hk
    simp only at e
    simp only [spec_GroupOf.l0]
    rw [if_pos (by omega), if_pos (by omega), rdnGroup, e, Option.bind_some, wrap_up i (by omega)]
    cases sameSet (l.getD i z68).f1 key <;> simp [goOn]
def labelsAt (l : List S57) (s : List S116) : Int := place (fun a => sameSet a.f0 s) l 0
theorem implLabelsAt_ev (l : List S57) (s : List S116) (h : l.length ≤ 4000000 ∧ ∀ y ∈ l, WiAlarm y) : Ev (fun k => impl_labelsAt.f k l s) (labelsAt l s) := by
  have h1 := h.1
  unfold impl_labelsAt.f labelsAt
  rw [← scan_place0 (fun a : S57 => sameSet a.f0 s) z57 l]
  refine scan_ev (F := fun k i => impl_labelsAt.l0 k s l (l.length : Int) i) (n := l.length) (fun k => ?_) (fun i hi => ?_) l.length 0 (by omega)
  · simp only [impl_labelsAt.l0]; rw [if_neg (by omega)]
  · have hw := (h.2 _ (getD_mem l i z57 hi)).1.1
    obtain ⟨K, g⟩ := implSameSet_ev (l.getD i z57).f0 s (by omega)
    refine ⟨K, fun k hk => ?_⟩
    have e := g k hk
    simp only at e
    simp only [impl_labelsAt.l0]
    rw [if_pos (by omega), if_pos (by omega), if_pos (by omega), rdnAlarm, e, Option.bind_some, wrap_up i (by omega)]
    cases sameSet (l.getD i z57).f0 s <;> simp [goOn]
theorem place_ge {α : Type} (p : α → Bool) : ∀ (l : List α) (i : Nat), (0 ≤ place p l i) ↔ l.any p = true
  | [], i => by simp [place]
  | x :: l, i => by
    unfold place
    by_cases h : p x = true
    · rw [if_pos h]; simp [h]
    · rw [if_neg h, place_ge p l (i + 1)]; simp [h]
theorem place_lo {α : Type} (p : α → Bool) : ∀ (l : List α) (i : Nat), -1 ≤ place p l i
  | [], i => by simp [place]
  | x :: l, i => by
    unfold place
    split
    · omega
    · exact place_lo p l (i + 1)
/-- The number of the first group that has an alarm of these labels. -/
def memberStep (l : List S68) (s : List S116) (i : Nat) : Option Int := if (l.getD i z68).f4.any (fun a => sameSet a.f0 s) = true then some (l.getD i z68).f0 else none
def memberOf (l : List S68) (s : List S116) : Int := scan (memberStep l s) (-1) l.length 0
theorem implMemberOf_ev (l : List S68) (s : List S116) (h : l.length ≤ 4000000 ∧ ∀ y ∈ l, WiGroup y) : Ev (fun k => impl_MemberOf.f k l s) (memberOf l s) := by
  have h1 := h.1
  unfold impl_MemberOf.f memberOf
  refine scan_ev (F := fun k i => impl_MemberOf.l0 k s l (l.length : Int) i) (n := l.length) (fun k => ?_) (fun i hi => ?_) l.length 0 (by omega)
  · simp only [impl_MemberOf.l0]; rw [if_neg (by omega)]
  · obtain ⟨K, g⟩ := implLabelsAt_ev (l.getD i z68).f4 s (h.2 _ (getD_mem l i z68 hi)).2.2.2.2
    refine ⟨K, fun k hk => ?_⟩
    have e := g k hk
    simp only at e
    simp only [impl_MemberOf.l0]
    rw [if_pos (by omega), if_pos (by omega), if_pos (by omega), rdnGroup, e, Option.bind_some, wrap_up i (by omega)]
    unfold memberStep
    have hp : labelsAt (l.getD i z68).f4 s ≥ 0 ↔ (l.getD i z68).f4.any (fun a => sameSet a.f0 s) = true := place_ge (fun a : S57 => sameSet a.f0 s) (l.getD i z68).f4 0
    by_cases hc : (l.getD i z68).f4.any (fun a => sameSet a.f0 s) = true
    · rw [if_pos (hp.2 hc), if_pos hc]; rfl
    · rw [if_neg (fun q => hc (hp.1 q)), if_neg hc]; rfl
theorem specMemberOf_l1 (l : List S68) (s : List S116) (h : l.length ≤ 4000000 ∧ ∀ y ∈ l, WiGroup y) (i : Nat) (hi : i < l.length) (r : Int)
    (hn : (l.getD i z68).f4.any (fun a => sameSet a.f0 s) = false → Ev (fun k => spec_MemberOf.l0 k l s ((i + 1 : Nat) : Int)) r) (hy : (l.getD i z68).f4.any (fun a => sameSet a.f0 s) = true → (l.getD i z68).f0 = r) :
    ∀ (suf pre : List S57), pre ++ suf = (l.getD i z68).f4 → pre.any (fun a => sameSet a.f0 s) = false → Ev (fun k => spec_MemberOf.l1 k l s (i : Int) (pre.length : Int)) r
  | [], pre, e, hp => by
    have h1 := h.1
    have e' : (l.getD i z68).f4 = pre := by rw [← e]; simp
    refine Ev.step (fun k => ?_) (hn (by rw [e']; exact hp))
    simp only [spec_MemberOf.l1]
    rw [if_pos (by omega), if_pos (by omega), rdnGroup, e', if_neg (by omega), wrap_up i (by omega)]
  | y :: suf, pre, e, hp => by
    have h1 := h.1
    have hw := (h.2 _ (getD_mem l i z68 hi)).2.2.2.2
    have hy1 := (hw.2 y (by rw [← e]; simp)).1.1
    have hlen : pre.length < (l.getD i z68).f4.length := by rw [← e]; simp
    have hg : (l.getD i z68).f4.getD pre.length z57 = y := by rw [← e]; simp
    have hw1 := hw.1
    have g := specSameSet_ev y.f0 s (by omega)
    cases hc : sameSet y.f0 s with
    | true =>
      have hr := hy (by rw [← e]; simp [hc])
      rw [hc] at g
      refine Ev.step (f := fun k => (spec_SameSet.f k y.f0 s).bind fun t => if t = true then some (l.getD i z68).f0 else spec_MemberOf.l1 k l s (i : Int) ((pre.length + 1 : Nat) : Int)) (fun k => ?_) (Ev.bind g ?_)
      · simp only [spec_MemberOf.l1]
        rw [if_pos (by omega), if_pos (by omega), rdnGroup, if_pos (by omega), if_pos (by omega), rdnAlarm, hg, wrap_up _ (by omega)]
      · simp only [if_true]; rw [hr]; exact Ev.now _
    | false =>
      have ih := specMemberOf_l1 l s h i hi r hn hy suf (pre ++ [y]) (by rw [← e]; simp) (by simp [hp, hc])
      rw [hc] at g
      refine Ev.step (f := fun k => (spec_SameSet.f k y.f0 s).bind fun t => if t = true then some (l.getD i z68).f0 else spec_MemberOf.l1 k l s (i : Int) ((pre.length + 1 : Nat) : Int)) (fun k => ?_) (Ev.bind g ?_)
      · simp only [spec_MemberOf.l1]
        rw [if_pos (by omega), if_pos (by omega), rdnGroup, if_pos (by omega), if_pos (by omega), rdnAlarm, hg, wrap_up _ (by omega)]
      · simp only [Bool.false_eq_true, if_false]; simpa using ih
theorem specMemberOf_l0 (l : List S68) (s : List S116) (h : l.length ≤ 4000000 ∧ ∀ y ∈ l, WiGroup y) : ∀ d i, d + i = l.length → Ev (fun k => spec_MemberOf.l0 k l s (i : Int)) (scan (memberStep l s) (-1) d i)
  | 0, i, e => by
    refine Ev.step (f := fun _ => some (-1)) (fun k => ?_) (Ev.now _)
    simp only [spec_MemberOf.l0]
    rw [if_neg (by omega)]
  | d + 1, i, e => by
    have h1 := h.1
    have ih := specMemberOf_l0 l s h d (i + 1) (by omega)
    refine Ev.step (f := fun k => spec_MemberOf.l1 k l s (i : Int) (0 : Int)) (fun k => ?_) ?_
    · simp only [spec_MemberOf.l0]; rw [if_pos (by omega)]
    · refine specMemberOf_l1 l s h i (by omega) _ (fun hc => ?_) (fun hc => ?_) (l.getD i z68).f4 [] rfl rfl
      · unfold scan memberStep; rw [if_neg (by rw [hc]; simp)]; exact ih
      · unfold scan memberStep; rw [if_pos hc]
theorem specMemberOf_ev (l : List S68) (s : List S116) (h : l.length ≤ 4000000 ∧ ∀ y ∈ l, WiGroup y) : Ev (fun k => spec_MemberOf.f k l s) (memberOf l s) := by
  unfold spec_MemberOf.f memberOf
  exact specMemberOf_l0 l s h l.length 0 (by omega)

end Go.Proofs.Ytmmaondenopnpaa.Print
