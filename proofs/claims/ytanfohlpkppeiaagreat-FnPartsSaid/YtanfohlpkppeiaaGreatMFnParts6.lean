import Derived.Test.YtanfohlpkppeiaaGreatMFnParts1
import Derived.Test.YtanfohlpkppeiaaGreatMFnParts3
import Derived.Test.YtanfohlpkppeiaaGreatMFnParts5
import Derived.Test.YtanfohlpkppeiaaGreatMFnParts4
section
namespace Go.Proofs.YtanfohlpkppeiaaGreat.Print
open Go.RowKit Go.Proofs.YtanfohlpkppeiaaGreatV.PrintWords Go.Proofs.YtanfohlpkppeiaaGreatV.PrintLast Go.Proofs.YtanfohlpkppeiaaGreatV.PrintMore
set_option linter.unusedVariables false
set_option linter.unusedSimpArgs false
def overs (now : Int) (l : List S29) : List S29 := l.filter (fun a => decide (a.f2 ≤ now))
def lefts (now : Int) (l : List S29) : List S29 := l.filter (fun a => !decide (a.f2 ≤ now))
theorem specOver_is (a : S29) (now : Int) : spec_Over.f a.f0 a.f1 a.f2 a.f3 now = some (decide (a.f2 ≤ now)) := by
  unfold spec_Over.f
  by_cases c : a.f2 ≤ now
  · simp [c]
  · simp [c]
theorem implOver_is (a : S29) (now : Int) : impl_Over.f a.f0 a.f1 a.f2 a.f3 now = some (decide (a.f2 ≤ now)) := by
  unfold impl_Over.f; rfl
theorem implDrop_l0 (now f : Int) : ∀ (suf pre g o : List S29), (pre ++ suf).length ≤ 1000000 → g.length ≤ pre.length → o.length ≤ pre.length → (∀ y ∈ suf, y.f0.length ≤ 5000000) →
    Ev (fun k => impl_DropOver.l0 k now g (pre ++ suf) ((pre ++ suf).length : Int) (pre.length : Int) f o) (f, o ++ lefts now suf, g ++ overs now suf)
  | [], pre, g, o, h, hg, ho, hW => by
    refine Ev.step (f := fun _ => some (f, o ++ lefts now [], g ++ overs now [])) (fun k => ?_) (Ev.now _)
    simp only [impl_DropOver.l0]
    rw [if_neg (not_lt_end pre)]
    simp [lefts, overs]
  | y :: suf, pre, g, o, h, hg, ho, hW => by
    have hp : pre.length < 1000000 := by simp at h; omega
    have hy := hW y List.mem_cons_self
    have eL : pre ++ y :: suf = (pre ++ [y]) ++ suf := by simp
    have eN : ((pre.length + 1 : Nat) : Int) = ((pre ++ [y]).length : Int) := by simp
    by_cases c : y.f2 ≤ now
    · obtain ⟨K, g1⟩ := implDrop_l0 now f suf (pre ++ [y]) (g ++ [y]) o (by simpa using h) (by simp; omega) (by simp; omega) (fun z hz => hW z (List.mem_cons_of_mem _ hz))
      refine ⟨K + 1, fun k hk => ?_⟩
      obtain ⟨k, rfl⟩ : ∃ m, k = m + 1 := ⟨k - 1, by omega⟩
      have G := g1 k (by omega)
      simp only at G
      simp only [impl_DropOver.l0]
      rw [if_pos (lt_mid pre suf y), if_pos (nn _), if_pos (lt_mid pre suf y), rdmidAlarmi, implOver_is, Option.bind_some, decide_eq_true c, if_pos rfl, implCopyAlarm_ev y hy, Option.bind_some, if_pos (by omega), wrap_up _ (by omega), eL, eN]
      refine G.trans ?_
      simp [lefts, overs, c]
    · obtain ⟨K, g1⟩ := implDrop_l0 now f suf (pre ++ [y]) g (o ++ [y]) (by simpa using h) (by simp; omega) (by simp; omega) (fun z hz => hW z (List.mem_cons_of_mem _ hz))
      refine ⟨K + 1, fun k hk => ?_⟩
      obtain ⟨k, rfl⟩ : ∃ m, k = m + 1 := ⟨k - 1, by omega⟩
      have G := g1 k (by omega)
      simp only at G
      simp only [impl_DropOver.l0]
      rw [if_pos (lt_mid pre suf y), if_pos (nn _), if_pos (lt_mid pre suf y), rdmidAlarmi, implOver_is, Option.bind_some, decide_eq_false c, if_neg (by decide), implCopyAlarm_ev y hy, Option.bind_some, if_pos (by omega), wrap_up _ (by omega), eL, eN]
      refine G.trans ?_
      simp [lefts, overs, c]
theorem specDrop_l0 (now f f' : Int) : ∀ (suf pre g o : List S29), (pre ++ suf).length ≤ 1000000 → g.length ≤ pre.length → o.length ≤ pre.length → (∀ y ∈ suf, y.f0.length ≤ 5000000) →
    Ev (fun k => spec_DropOver.l0 k now g (pre.length : Int) f' (pre ++ suf) f o) (f, o ++ lefts now suf, g ++ overs now suf)
  | [], pre, g, o, h, hg, ho, hW => by
    refine Ev.step (f := fun _ => some (f, o ++ lefts now [], g ++ overs now [])) (fun k => ?_) (Ev.now _)
    simp only [spec_DropOver.l0]
    rw [if_neg (not_lt_end pre)]
    simp [lefts, overs]
  | y :: suf, pre, g, o, h, hg, ho, hW => by
    have hp : pre.length < 1000000 := by simp at h; omega
    have hy := hW y List.mem_cons_self
    have eL : pre ++ y :: suf = (pre ++ [y]) ++ suf := by simp
    have eN : ((pre.length + 1 : Nat) : Int) = ((pre ++ [y]).length : Int) := by simp
    by_cases c : y.f2 ≤ now
    · obtain ⟨K, g1⟩ := specDrop_l0 now f f' suf (pre ++ [y]) (g ++ [y]) o (by simpa using h) (by simp; omega) (by simp; omega) (fun z hz => hW z (List.mem_cons_of_mem _ hz))
      refine ⟨K + 1, fun k hk => ?_⟩
      obtain ⟨k, rfl⟩ : ∃ m, k = m + 1 := ⟨k - 1, by omega⟩
      have G := g1 k (by omega)
      simp only at G
      simp only [spec_DropOver.l0]
      rw [if_pos (lt_mid pre suf y), if_pos (nn _), rdmidAlarmi, specL4Copy_ev y hy, Option.bind_some, specOver_is, Option.bind_some, decide_eq_true c, if_pos rfl, if_pos (by omega), wrap_up _ (by omega), eL, eN]
      refine G.trans ?_
      simp [lefts, overs, c]
    · obtain ⟨K, g1⟩ := specDrop_l0 now f f' suf (pre ++ [y]) g (o ++ [y]) (by simpa using h) (by simp; omega) (by simp; omega) (fun z hz => hW z (List.mem_cons_of_mem _ hz))
      refine ⟨K + 1, fun k hk => ?_⟩
      obtain ⟨k, rfl⟩ : ∃ m, k = m + 1 := ⟨k - 1, by omega⟩
      have G := g1 k (by omega)
      simp only at G
      simp only [spec_DropOver.l0]
      rw [if_pos (lt_mid pre suf y), if_pos (nn _), rdmidAlarmi, specL4Copy_ev y hy, Option.bind_some, specOver_is, Option.bind_some, decide_eq_false c, if_neg (by decide), if_pos (by omega), wrap_up _ (by omega), eL, eN]
      refine G.trans ?_
      simp [lefts, overs, c]
theorem implDrop_ev (c : S80) (now : Int) (h : ShortC 1000 c) : Ev (fun k => impl_DropOver.f k c.f0 c.f1 now) (c.f0, lefts now c.f1, overs now c.f1) :=
  Ev.congr (fun k => by unfold impl_DropOver.f; rfl) (implDrop_l0 now c.f0 c.f1 [] [] [] (Nat.le_trans h.1 (by decide)) (Nat.le_refl _) (Nat.le_refl _) (fun y hy => Nat.le_trans (h.2 y hy).1 (by decide)))
theorem specDrop_ev (c : S80) (now : Int) (h : ShortC 1000 c) : Ev (fun k => spec_DropOver.f k c.f0 c.f1 now) (c.f0, lefts now c.f1, overs now c.f1) :=
  Ev.congr (fun k => by unfold spec_DropOver.f; rfl) (specDrop_l0 now c.f0 c.f0 c.f1 [] [] [] (Nat.le_trans h.1 (by decide)) (Nat.le_refl _) (Nat.le_refl _) (fun y hy => Nat.le_trans (h.2 y hy).1 (by decide)))
def sweepC (now : Int) : List S80 → List S80
  | [] => []
  | c :: cs => if (lefts now c.f1).length > 0 then ⟨c.f0, lefts now c.f1⟩ :: sweepC now cs else sweepC now cs
def goneC (now : Int) : List S80 → List S29
  | [] => []
  | c :: cs => overs now c.f1 ++ goneC now cs
def sweptV (v : Int) (g : List S29) : Int := if (g.length : Int) > 0 then wrap64 (v + 1) else v
theorem overs_le (now : Int) (l : List S29) : (overs now l).length ≤ l.length := List.length_filter_le _ _
theorem lefts_le (now : Int) (l : List S29) : (lefts now l).length ≤ l.length := List.length_filter_le _ _
theorem implSweep_l0 (now v0 v1 : Int) : ∀ (suf pre : List S80) (g : List S29) (o : List S80), (pre ++ suf).length ≤ 1000 → g.length ≤ pre.length * 1000 → o.length ≤ pre.length → (∀ c ∈ suf, ShortC 1000 c) →
    Ev (fun k => impl_SweepIn.l0 k now g (pre ++ suf) ((pre ++ suf).length : Int) (pre.length : Int) v0 v1 o) (v0, sweptV v1 (g ++ goneC now suf), o ++ sweepC now suf, g ++ goneC now suf)
  | [], pre, g, o, h, hg, ho, hW => by
    refine Ev.step (f := fun _ => some (v0, sweptV v1 (g ++ goneC now []), o ++ sweepC now [], g ++ goneC now [])) (fun k => ?_) (Ev.now _)
    simp only [impl_SweepIn.l0]
    rw [if_neg (not_lt_end pre)]
    simp only [goneC, sweepC, List.append_nil, sweptV]
    split <;> rfl
  | y :: suf, pre, g, o, h, hg, ho, hW => by
    have hp : pre.length < 1000 := by simp at h; omega
    have hy := hW y List.mem_cons_self
    have hyl := hy.1
    have ho1 := overs_le now y.f1
    have hg2 : g.length ≤ 1000 * 1000 := Nat.le_trans hg (Nat.mul_le_mul_right _ (by omega))
    have eL : pre ++ y :: suf = (pre ++ [y]) ++ suf := by simp
    have eN : ((pre.length + 1 : Nat) : Int) = ((pre ++ [y]).length : Int) := by simp
    obtain ⟨K2, g2⟩ := implDrop_ev y now hy
    have hg3 : (g ++ overs now y.f1).length ≤ (pre ++ [y]).length * 1000 := by simp only [List.length_append, List.length_singleton, Nat.add_mul]; omega
    by_cases c : ((lefts now y.f1).length : Int) > 0
    · obtain ⟨K, g1⟩ := implSweep_l0 now v0 v1 suf (pre ++ [y]) (g ++ overs now y.f1) (o ++ [⟨y.f0, lefts now y.f1⟩]) (by simpa using h) hg3 (by simp; omega) (fun z hz => hW z (List.mem_cons_of_mem _ hz))
      refine ⟨K + K2 + 1, fun k hk => ?_⟩
      obtain ⟨k, rfl⟩ : ∃ m, k = m + 1 := ⟨k - 1, by omega⟩
      have G := g1 k (by omega)
      have G2 := g2 k (by omega)
      simp only at G G2
      simp only [impl_SweepIn.l0]
      rw [if_pos (lt_mid pre suf y), if_pos (nn _), if_pos (lt_mid pre suf y), rdmidChaini, G2]
      simp only [Option.bind_some]
      rw [if_pos c, if_pos (by omega), if_pos (by omega), wrap_up _ (by omega), eL, eN]
      refine G.trans ?_
      simp only [goneC, sweepC, if_pos (show (lefts now y.f1).length > 0 by omega), List.append_assoc, List.singleton_append]
    · obtain ⟨K, g1⟩ := implSweep_l0 now v0 v1 suf (pre ++ [y]) (g ++ overs now y.f1) o (by simpa using h) hg3 (by simp; omega) (fun z hz => hW z (List.mem_cons_of_mem _ hz))
      refine ⟨K + K2 + 1, fun k hk => ?_⟩
      obtain ⟨k, rfl⟩ : ∃ m, k = m + 1 := ⟨k - 1, by omega⟩
      have G := g1 k (by omega)
      have G2 := g2 k (by omega)
      simp only at G G2
      simp only [impl_SweepIn.l0]
      rw [if_pos (lt_mid pre suf y), if_pos (nn _), if_pos (lt_mid pre suf y), rdmidChaini, G2]
      simp only [Option.bind_some]
      rw [if_neg c, if_pos (by omega), wrap_up _ (by omega), eL, eN]
      refine G.trans ?_
      simp only [goneC, sweepC, if_neg (show ¬ (lefts now y.f1).length > 0 by omega), List.append_assoc]
theorem specSweep_l0 (now v0 v1 w0 : Int) : ∀ (suf pre : List S80) (g : List S29) (o : List S80), (pre ++ suf).length ≤ 1000 → g.length ≤ pre.length * 1000 → o.length ≤ pre.length → (∀ c ∈ suf, ShortC 1000 c) →
    Ev (fun k => spec_SweepIn.l0 k now g (pre.length : Int) w0 v1 (pre ++ suf) v0 v1 o) (v0, sweptV v1 (g ++ goneC now suf), o ++ sweepC now suf, g ++ goneC now suf)
  | [], pre, g, o, h, hg, ho, hW => by
    refine Ev.step (f := fun _ => some (v0, sweptV v1 (g ++ goneC now []), o ++ sweepC now [], g ++ goneC now [])) (fun k => ?_) (Ev.now _)
    simp only [spec_SweepIn.l0]
    rw [if_neg (not_lt_end pre)]
    simp only [goneC, sweepC, List.append_nil, sweptV]
    split <;> rfl
  | y :: suf, pre, g, o, h, hg, ho, hW => by
    have hp : pre.length < 1000 := by simp at h; omega
    have hy := hW y List.mem_cons_self
    have hyl := hy.1
    have ho1 := overs_le now y.f1
    have hg2 : g.length ≤ 1000 * 1000 := Nat.le_trans hg (Nat.mul_le_mul_right _ (by omega))
    have eL : pre ++ y :: suf = (pre ++ [y]) ++ suf := by simp
    have eN : ((pre.length + 1 : Nat) : Int) = ((pre ++ [y]).length : Int) := by simp
    obtain ⟨K2, g2⟩ := specDrop_ev y now hy
    have hg3 : (g ++ overs now y.f1).length ≤ (pre ++ [y]).length * 1000 := by simp only [List.length_append, List.length_singleton, Nat.add_mul]; omega
    by_cases c : ((lefts now y.f1).length : Int) > 0
    · obtain ⟨K, g1⟩ := specSweep_l0 now v0 v1 w0 suf (pre ++ [y]) (g ++ overs now y.f1) (o ++ [⟨y.f0, lefts now y.f1⟩]) (by simpa using h) hg3 (by simp; omega) (fun z hz => hW z (List.mem_cons_of_mem _ hz))
      refine ⟨K + K2 + 1, fun k hk => ?_⟩
      obtain ⟨k, rfl⟩ : ∃ m, k = m + 1 := ⟨k - 1, by omega⟩
      have G := g1 k (by omega)
      have G2 := g2 k (by omega)
      simp only at G G2
      simp only [spec_SweepIn.l0]
      rw [if_pos (lt_mid pre suf y), if_pos (nn _), rdmidChaini, G2]
      simp only [Option.bind_some]
      rw [if_pos (by omega), if_pos c, if_pos (by omega), wrap_up _ (by omega), eL, eN]
      refine G.trans ?_
      simp only [goneC, sweepC, if_pos (show (lefts now y.f1).length > 0 by omega), List.append_assoc, List.singleton_append]
    · obtain ⟨K, g1⟩ := specSweep_l0 now v0 v1 w0 suf (pre ++ [y]) (g ++ overs now y.f1) o (by simpa using h) hg3 (by simp; omega) (fun z hz => hW z (List.mem_cons_of_mem _ hz))
      refine ⟨K + K2 + 1, fun k hk => ?_⟩
      obtain ⟨k, rfl⟩ : ∃ m, k = m + 1 := ⟨k - 1, by omega⟩
      have G := g1 k (by omega)
      have G2 := g2 k (by omega)
      simp only at G G2
      simp only [spec_SweepIn.l0]
      rw [if_pos (lt_mid pre suf y), if_pos (nn _), rdmidChaini, G2]
      simp only [Option.bind_some]
      rw [if_pos (by omega), if_neg c, wrap_up _ (by omega), eL, eN]
      refine G.trans ?_
      simp only [goneC, sweepC, if_neg (show ¬ (lefts now y.f1).length > 0 by omega), List.append_assoc]
def swept (p : S26) (now : Int) : S26 := ⟨p.f0, sweptV p.f1 (goneC now p.f2), sweepC now p.f2⟩
theorem implSweepIn_ev (p : S26) (now : Int) (h : ShortP 1000 p) : Ev (fun k => impl_SweepIn.f k p.f0 p.f1 p.f2 now) ((swept p now).f0, (swept p now).f1, (swept p now).f2, goneC now p.f2) :=
  Ev.congr (fun k => by unfold impl_SweepIn.f; rfl) (implSweep_l0 now p.f0 p.f1 p.f2 [] [] [] h.2.1 (Nat.le_refl _) (Nat.le_refl _) h.2.2)
theorem specSweepIn_ev (p : S26) (now : Int) (h : ShortP 1000 p) : Ev (fun k => spec_SweepIn.f k p.f0 p.f1 p.f2 now) ((swept p now).f0, (swept p now).f1, (swept p now).f2, goneC now p.f2) :=
  Ev.congr (fun k => by unfold spec_SweepIn.f; rfl) (specSweep_l0 now p.f0 p.f1 p.f0 p.f2 [] [] [] h.2.1 (Nat.le_refl _) (Nat.le_refl _) h.2.2)
theorem sweepC_short {m : Nat} (now : Int) : ∀ {l : List S80}, (∀ c ∈ l, ShortC m c) → (sweepC now l).length ≤ l.length ∧ ∀ c ∈ sweepC now l, ShortC m c
  | [], h => ⟨Nat.le_refl _, h⟩
  | c :: cs, h => by
    obtain ⟨a, b⟩ := sweepC_short (l := cs) now (fun x hx => h x (List.mem_cons_of_mem _ hx))
    have hc := h c List.mem_cons_self
    unfold sweepC
    split
    · refine ⟨by simpa using a, fun x hx => ?_⟩
      rcases List.mem_cons.1 hx with rfl | hx
      · exact ⟨Nat.le_trans (lefts_le now c.f1) hc.1, fun y hy => hc.2 y ((List.mem_filter.1 hy).1)⟩
      · exact b x hx
    · exact ⟨by simp only [List.length_cons]; omega, b⟩
theorem swept_short {m : Nat} {p : S26} (now : Int) (hm : m ≤ 999) (h : ShortP m p) : ShortP (m + 1) (swept p now) := by
  obtain ⟨a, b⟩ := sweepC_short now h.2.2
  have h1 := h.1
  have hw : wrap64 (p.f1 + 1) = p.f1 + 1 := wrap_id (by omega) (by omega)
  refine ⟨?_, Nat.le_trans a (Nat.le_trans h.2.1 (Nat.le_succ _)), fun c hc => shortC_up (b c hc) (Nat.le_succ _)⟩
  show -1 ≤ sweptV _ _ ∧ sweptV _ _ ≤ _
  unfold sweptV
  split
  · rw [hw]; omega
  · omega
theorem goneC_in (now : Int) : ∀ l : List S80, ∀ y ∈ goneC now l, y ∈ inC l
  | [], y, h => h
  | c :: cs, y, h => by
    rcases List.mem_append.1 h with h | h
    · exact List.mem_append.2 (.inl ((List.mem_filter.1 h).1))
    · exact List.mem_append.2 (.inr (goneC_in now cs y h))
theorem goneC_len (now : Int) : ∀ l : List S80, (inC (sweepC now l)).length + (goneC now l).length = (inC l).length
  | [] => rfl
  | c :: cs => by
    have ih := goneC_len now cs
    have e : (lefts now c.f1).length + (overs now c.f1).length = c.f1.length := by
      unfold lefts overs
      generalize c.f1 = l
      induction l with
      | nil => rfl
      | cons a l ihl => by_cases h : a.f2 ≤ now <;> simp [h] <;> omega
    unfold sweepC
    split
    · simp only [inC, goneC, List.length_append]; omega
    · simp only [inC, goneC, List.length_append]; omega
theorem swept_left (now : Int) : ∀ l : List S80, ∀ y ∈ inC (sweepC now l), ¬ y.f2 ≤ now
  | [], y, h => by cases h
  | c :: cs, y, h => by
    unfold sweepC at h
    split at h
    · rcases List.mem_append.1 h with h | h
      · have := (List.mem_filter.1 h).2; simpa using this
      · exact swept_left now cs y h
    · exact swept_left now cs y h
def alm (x : S29) : List (List UInt8 × List UInt8) × Int × Int × List UInt8 := (x.f0.map lab, x.f1, x.f2, x.f3.toList)
def sameAlarm (a b : S29) : Bool := decide (alm a = alm b)
def sameAlarms (a b : List S29) : Bool := decide (a.map alm = b.map alm)
theorem sameAlarm_eq (x y : S29) : sameAlarm x y = (sameSet x.f0 y.f0 && (decide (x.f1 = y.f1) && (decide (x.f2 = y.f2) && (x.f3.toList == y.f3.toList)))) := by
  unfold sameAlarm sameSet alm
  simp only [Prod.mk.injEq]
  rw [Bool.eq_iff_iff]
  simp
theorem implSameAlarm_ev (x y : S29) (h : x.f0.length < 4611686018427387904) : Ev (fun k => impl_SameAlarm.f k x.f0 x.f1 x.f2 x.f3 y.f0 y.f1 y.f2 y.f3) (sameAlarm x y) := by
  obtain ⟨K, hK⟩ := implSameSet_ev x.f0 y.f0 h
  refine ⟨K, fun k hk => ?_⟩
  have h2 := hK k hk
  simp only at h2
  rw [sameAlarm_eq]
  simp only [impl_SameAlarm.f, h2, Option.bind_some]
  cases sameSet x.f0 y.f0 <;> by_cases h3 : x.f1 = y.f1 <;> by_cases h4 : x.f2 = y.f2 <;> simp [h3, h4]
theorem specSameAlarm_ev (x y : S29) (h : x.f0.length < 4611686018427387904) : Ev (fun k => spec_SameAlarm.f k x.f0 x.f1 x.f2 x.f3 y.f0 y.f1 y.f2 y.f3) (sameAlarm x y) := by
  obtain ⟨K, hK⟩ := specSameSet_ev x.f0 y.f0 h
  refine ⟨K, fun k hk => ?_⟩
  have h2 := hK k hk
  simp only at h2
  rw [sameAlarm_eq]
  simp only [spec_SameAlarm.f, h2, Option.bind_some]
  cases sameSet x.f0 y.f0 <;> by_cases h3 : x.f1 = y.f1 <;> by_cases h4 : x.f2 = y.f2 <;> simp [h3, h4]
theorem implSameAlarms_ev (a b : List S29) (h : a.length ≤ 4000000 ∧ ∀ y ∈ a, WiAlarm y) : Ev (fun k => impl_sameAlarms.f k a b) (sameAlarms a b) := by
  have h1 := h.1
  unfold impl_sameAlarms.f sameAlarms
  by_cases hl : a.length = b.length
  · simp only [if_pos (show (a.length : Int) = (b.length : Int) by omega)]
    rw [← scan_same0 alm z29 a b hl]
    refine scan_ev (F := fun k i => impl_sameAlarms.l0 k a b (a.length : Int) i) (n := a.length) (fun k => ?_) (fun i hi => ?_) a.length 0 (by omega)
    · simp only [impl_sameAlarms.l0]; rw [if_neg (by omega)]
    · have hw := (h.2 _ (getD_mem a i z29 hi)).1.1
      obtain ⟨K, hK⟩ := implSameAlarm_ev (a.getD i z29) (b.getD i z29) (by omega)
      refine ⟨K, fun k hk => ?_⟩
      have h2 := hK k hk
      simp only at h2
      simp only [impl_sameAlarms.l0]
      rw [if_pos (by omega), if_pos (by omega), if_pos (by omega), if_pos (by omega), rdnAlarm, rdnAlarm, wrap_up i (by omega), h2, Option.bind_some]
      unfold sameAlarm
      by_cases hc : alm (a.getD i z29) = alm (b.getD i z29)
      · rw [decide_eq_true hc, if_pos hc]; rfl
      · rw [decide_eq_false hc, if_neg hc]; rfl
  · simp only [if_neg (show ¬ (a.length : Int) = (b.length : Int) by omega), decide_eq_false (map_ne_of_length hl)]
    exact Ev.now _
theorem specSameAlarms_ev (a b : List S29) (h : a.length ≤ 4000000 ∧ ∀ y ∈ a, WiAlarm y) : Ev (fun k => spec_l4Same.f k a b) (sameAlarms a b) := by
  have h1 := h.1
  unfold spec_l4Same.f sameAlarms
  by_cases hl : a.length = b.length
  · simp only [if_pos (show (a.length : Int) = (b.length : Int) by omega)]
    rw [← scan_same0 alm z29 a b hl]
    refine scan_ev (F := fun k i => spec_l4Same.l0 k a b i) (n := a.length) (fun k => ?_) (fun i hi => ?_) a.length 0 (by omega)
    · simp only [spec_l4Same.l0]; rw [if_neg (by omega)]
    · have hw := (h.2 _ (getD_mem a i z29 hi)).1.1
      obtain ⟨K, hK⟩ := specSameAlarm_ev (a.getD i z29) (b.getD i z29) (by omega)
      refine ⟨K, fun k hk => ?_⟩
      have h2 := hK k hk
      simp only at h2
      simp only [spec_l4Same.l0]
      rw [if_pos (by omega), if_pos (by omega), if_pos (by omega), rdnAlarm, rdnAlarm, wrap_up i (by omega), h2, Option.bind_some]
      unfold sameAlarm
      by_cases hc : alm (a.getD i z29) = alm (b.getD i z29)
      · rw [decide_eq_true hc, if_pos hc]; rfl
      · rw [decide_eq_false hc, if_neg hc]; rfl
  · simp only [if_neg (show ¬ (a.length : Int) = (b.length : Int) by omega), decide_eq_false (map_ne_of_length hl)]
    exact Ev.now _
instance decAlm : DecidableEq (List (List UInt8 × List UInt8) × Int × Int × List UInt8) := fun a b => inferInstanceAs (Decidable (a = b))
def chn (c : S80) : Int × List (List (List UInt8 × List UInt8) × Int × Int × List UInt8) := (c.f0, c.f1.map alm)
def sameChains (a b : List S80) : Bool := decide (a.map chn = b.map chn)
def samePart (x y : S26) : Bool := decide (x.f0 = y.f0) && (decide (x.f1 = y.f1) && sameChains x.f2 y.f2)
theorem rdnChainP (l : List S80) (i : Nat) : rd_T80 l (i : Int) = l.getD i z80 := by unfold rd_T80; simp
theorem implSameChain_ev (a b : S80) (h : WiChain a) : Ev (fun k => impl_SameChain.f k a.f0 a.f1 b.f0 b.f1) (decide (chn a = chn b)) := by
  obtain ⟨K, g⟩ := implSameAlarms_ev a.f1 b.f1 h.2
  refine ⟨K, fun k hk => ?_⟩
  have e := g k hk
  simp only at e
  simp only [impl_SameChain.f, e, Option.bind_some]
  unfold sameAlarms chn
  by_cases c : a.f0 = b.f0
  · simp [c]
  · simp [c]
theorem specSameChain_ev (a b : S80) (h : WiChain a) : Ev (fun k => spec_SameChain.f k a.f0 a.f1 b.f0 b.f1) (decide (chn a = chn b)) := by
  obtain ⟨K, g⟩ := specSameAlarms_ev a.f1 b.f1 h.2
  refine ⟨K, fun k hk => ?_⟩
  have e := g k hk
  simp only at e
  simp only [spec_SameChain.f, e, Option.bind_some]
  unfold sameAlarms chn
  by_cases c : a.f0 = b.f0
  · simp [c]
  · simp [c]
theorem implSamePart_l0 (x y : S26) (h : WiPart x) (hl : x.f2.length = y.f2.length) : Ev (fun k => impl_SamePart.l0 k (x.f2.length : Int) 0 x.f0 x.f1 x.f2 y.f0 y.f1 y.f2) (sameChains x.f2 y.f2) := by
  have h1 := h.2.2.1
  unfold sameChains
  rw [← scan_same0 chn z80 x.f2 y.f2 hl]
  refine scan_ev (F := fun k i => impl_SamePart.l0 k (x.f2.length : Int) i x.f0 x.f1 x.f2 y.f0 y.f1 y.f2) (n := x.f2.length) (fun k => ?_) (fun i hi => ?_) x.f2.length 0 (by omega)
  · simp only [impl_SamePart.l0]; rw [if_neg (by omega)]
  · have hw := h.2.2.2 _ (getD_mem x.f2 i z80 hi)
    obtain ⟨K, hK⟩ := implSameChain_ev (x.f2.getD i z80) (y.f2.getD i z80) hw
    refine ⟨K, fun k hk => ?_⟩
    have h2 := hK k hk
    simp only at h2
    simp only [impl_SamePart.l0]
    rw [if_pos (by omega), if_pos (by omega), if_pos (by omega), if_pos (by omega), rdnChainP, rdnChainP, wrap_up i (by omega), h2, Option.bind_some]
    by_cases hc : chn (x.f2.getD i z80) = chn (y.f2.getD i z80)
    · rw [decide_eq_true hc, if_pos hc]; rfl
    · rw [decide_eq_false hc, if_neg hc]; rfl
theorem specSamePart_l0 (x y : S26) (h : WiPart x) (hl : x.f2.length = y.f2.length) : Ev (fun k => spec_SamePart.l0 k 0 x.f0 x.f1 x.f2 y.f0 y.f1 y.f2) (sameChains x.f2 y.f2) := by
  have h1 := h.2.2.1
  unfold sameChains
  rw [← scan_same0 chn z80 x.f2 y.f2 hl]
  refine scan_ev (F := fun k i => spec_SamePart.l0 k i x.f0 x.f1 x.f2 y.f0 y.f1 y.f2) (n := x.f2.length) (fun k => ?_) (fun i hi => ?_) x.f2.length 0 (by omega)
  · simp only [spec_SamePart.l0]; rw [if_neg (by omega)]
  · have hw := h.2.2.2 _ (getD_mem x.f2 i z80 hi)
    obtain ⟨K, hK⟩ := specSameChain_ev (x.f2.getD i z80) (y.f2.getD i z80) hw
    refine ⟨K, fun k hk => ?_⟩
    have h2 := hK k hk
    simp only at h2
    simp only [spec_SamePart.l0]
    rw [if_pos (by omega), if_pos (by omega), if_pos (by omega), rdnChainP, rdnChainP, wrap_up i (by omega), h2, Option.bind_some]
    by_cases hc : chn (x.f2.getD i z80) = chn (y.f2.getD i z80)
    · rw [decide_eq_true hc, if_pos hc]; rfl
    · rw [decide_eq_false hc, if_neg hc]; rfl
theorem implSamePart_ev (x y : S26) (h : WiPart x) : Ev (fun k => impl_SamePart.f k x.f0 x.f1 x.f2 y.f0 y.f1 y.f2) (samePart x y) := by
  have h1 := h.2.2.1
  unfold impl_SamePart.f samePart
  have no : ∀ b : Bool, Ev (fun k => impl_SamePart.j0 k true x.f0 x.f1 x.f2 y.f0 y.f1 y.f2) false := fun _ => ⟨1, fun k hk => by
    obtain ⟨k, rfl⟩ : ∃ m, k = m + 1 := ⟨k - 1, by omega⟩
    simp only [impl_SamePart.j0, if_true]⟩
  by_cases c0 : x.f0 = y.f0
  · by_cases c1 : x.f1 = y.f1
    · simp only [if_pos c0, if_pos c1, decide_eq_true c0, decide_eq_true c1, Bool.true_and]
      by_cases hl : x.f2.length = y.f2.length
      · obtain ⟨K, g⟩ := implSamePart_l0 x y h hl
        refine ⟨K + 1, fun k hk => ?_⟩
        obtain ⟨k, rfl⟩ : ∃ m, k = m + 1 := ⟨k - 1, by omega⟩
        have e := g k (by omega)
        simp only at e
        simp only [impl_SamePart.j0]
        rw [if_neg (by simp [hl]), e]
      · rw [show ((x.f2.length : Int) != (y.f2.length : Int)) = true by simp; omega, show sameChains x.f2 y.f2 = false from decide_eq_false (map_ne_of_length hl)]
        exact no true
    · simp only [if_pos c0, if_neg c1, decide_eq_true c0, decide_eq_false c1, Bool.true_and, Bool.false_and]; exact no true
  · simp only [if_neg c0, decide_eq_false c0, Bool.false_and]; exact no true
theorem specSamePart_ev (x y : S26) (h : WiPart x) : Ev (fun k => spec_SamePart.f k x.f0 x.f1 x.f2 y.f0 y.f1 y.f2) (samePart x y) := by
  have h1 := h.2.2.1
  unfold spec_SamePart.f samePart
  have no : ∀ b : Bool, Ev (fun k => spec_SamePart.j0 k true x.f0 x.f1 x.f2 y.f0 y.f1 y.f2) false := fun _ => ⟨1, fun k hk => by
    obtain ⟨k, rfl⟩ : ∃ m, k = m + 1 := ⟨k - 1, by omega⟩
    simp only [spec_SamePart.j0, if_true]⟩
  by_cases c0 : x.f0 = y.f0
  · by_cases c1 : x.f1 = y.f1
    · simp only [if_pos c0, if_pos c1, decide_eq_true c0, decide_eq_true c1, Bool.true_and]
      by_cases hl : x.f2.length = y.f2.length
      · obtain ⟨K, g⟩ := specSamePart_l0 x y h hl
        refine ⟨K + 1, fun k hk => ?_⟩
        obtain ⟨k, rfl⟩ : ∃ m, k = m + 1 := ⟨k - 1, by omega⟩
        have e := g k (by omega)
        simp only at e
        simp only [spec_SamePart.j0]
        rw [if_neg (by simp [hl]), e]
      · rw [show ((x.f2.length : Int) != (y.f2.length : Int)) = true by simp; omega, show sameChains x.f2 y.f2 = false from decide_eq_false (map_ne_of_length hl)]
        exact no true
    · simp only [if_pos c0, if_neg c1, decide_eq_true c0, decide_eq_false c1, Bool.true_and, Bool.false_and]; exact no true
  · simp only [if_neg c0, decide_eq_false c0, Bool.false_and]; exact no true
theorem samePart_self (x : S26) : samePart x x = true := by unfold samePart sameChains; simp
theorem place_hit {α : Type} (p : α → Bool) (z : α) : ∀ (l : List α) (i : Nat), 0 ≤ place p l i → ∃ j : Nat, place p l i = ((i + j : Nat) : Int) ∧ j < l.length ∧ p (l.getD j z) = true ∧ ∀ m, m < j → p (l.getD m z) = false
  | [], i, h => by simp [place] at h
  | x :: l, i, h => by
    unfold place at h ⊢
    by_cases c : p x = true
    · rw [if_pos c] at h ⊢
      exact ⟨0, rfl, by simp, by simpa using c, fun m hm => by omega⟩
    · rw [if_neg c] at h ⊢
      obtain ⟨j, e, h1, h2, h3⟩ := place_hit p z l (i + 1) h
      refine ⟨j + 1, by rw [e]; omega, by simpa using h1, by simpa using h2, fun m hm => ?_⟩
      cases m with
      | zero => simpa using c
      | succ m => simpa using h3 m (by omega)
theorem place_is {α : Type} (p : α → Bool) (z : α) : ∀ (l : List α) (i j : Nat), j < l.length → p (l.getD j z) = true → (∀ m, m < j → p (l.getD m z) = false) → place p l i = ((i + j : Nat) : Int)
  | [], i, j, h, _, _ => by simp at h
  | x :: l, i, 0, h, hp, _ => by
    unfold place
    rw [if_pos (by simpa using hp)]; rfl
  | x :: l, i, j + 1, h, hp, hm => by
    unfold place
    have h0 := hm 0 (by omega)
    rw [if_neg (by simpa using h0), place_is p z l (i + 1) j (by simpa using h) (by simpa using hp) (fun m h => by simpa using hm (m + 1) (by omega))]
    omega
theorem place_no {α : Type} (p : α → Bool) (z : α) : ∀ (l : List α) (i : Nat), place p l i < 0 → ∀ m, m < l.length → p (l.getD m z) = false
  | [], i, _, m, hm => by simp at hm
  | x :: l, i, h, m, hm => by
    unfold place at h
    by_cases c : p x = true
    · rw [if_pos c] at h; omega
    · rw [if_neg c] at h
      cases m with
      | zero => simpa using c
      | succ m => simpa using place_no p z l (i + 1) h m (by simpa using hm)
theorem sameSet_self (a : List S99) : sameSet a a = true := by unfold sameSet; simp
/-- What was put into a chain is found there. -/
theorem putChain_at (c : S80) (a : S29) : ∃ j : Nat, labelsAt (putChain c a).1.f1 a.f0 = (j : Int) ∧ j < (putChain c a).1.f1.length ∧
    (if labelsAt c.f1 a.f0 ≥ 0 then (putChain c a).2 = false ∧ (putChain c a).1.f1.getD j z29 = mergeA (c.f1.getD (labelsAt c.f1 a.f0).toNat z29) a else (putChain c a).2 = true ∧ (putChain c a).1.f1.getD j z29 = a) := by
  by_cases h : labelsAt c.f1 a.f0 ≥ 0
  · obtain ⟨j, e, h1, h2, h3⟩ := place_hit (fun x => sameSet x.f0 a.f0) z29 c.f1 0 (by unfold labelsAt at h; omega)
    have e' : labelsAt c.f1 a.f0 = (j : Int) := by unfold labelsAt; rw [e]; omega
    have ep : putChain c a = (⟨c.f0, c.f1.set j (mergeA (c.f1.getD j z29) a)⟩, false) := by unfold putChain; rw [if_pos h, e']; rfl
    have hg : (c.f1.set j (mergeA (c.f1.getD j z29) a)).getD j z29 = mergeA (c.f1.getD j z29) a := by simp [List.getD_eq_getElem?_getD, h1]
    refine ⟨j, ?_, by rw [ep]; simpa using h1, ?_⟩
    · rw [ep]
      show place _ _ 0 = _
      rw [place_is (fun x => sameSet x.f0 a.f0) z29 _ 0 j (by simpa using h1) (by rw [hg]; show sameSet (mergeA _ a).f0 a.f0 = true; rw [mergeA_f0]; exact sameSet_self _) (fun m hm => by
        have : (c.f1.set j (mergeA (c.f1.getD j z29) a)).getD m z29 = c.f1.getD m z29 := by simp only [List.getD_eq_getElem?_getD]; rw [List.getElem?_set_ne (by omega)]
        rw [this]; exact h3 m hm)]
      omega
    · rw [if_pos h, ep, e']
      exact ⟨rfl, hg⟩
  · have ep : putChain c a = (⟨c.f0, c.f1 ++ [a]⟩, true) := by unfold putChain; rw [if_neg h]
    have hn := place_no (fun x => sameSet x.f0 a.f0) z29 c.f1 0 (by unfold labelsAt at h; omega)
    have hg : (c.f1 ++ [a]).getD c.f1.length z29 = a := by simp
    refine ⟨c.f1.length, ?_, by rw [ep]; simp only [List.length_append, List.length_singleton]; omega, ?_⟩
    · rw [ep]
      show place _ _ 0 = _
      rw [place_is (fun x => sameSet x.f0 a.f0) z29 _ 0 c.f1.length (by simp) (by rw [hg]; exact sameSet_self _) (fun m hm => by
        have : (c.f1 ++ [a]).getD m z29 = c.f1.getD m z29 := by simp only [List.getD_eq_getElem?_getD]; rw [List.getElem?_append_left hm]
        rw [this]; exact hn m hm)]
      omega
    · rw [if_neg h, ep]
      exact ⟨rfl, hg⟩
theorem insC_get (l : List S80) (f : Int) (a : S29) (i : Nat) (hi : i ≤ l.length) : (insC l f a i).getD i z80 = ⟨f, [a]⟩ ∧ ∀ m, m < i → (insC l f a i).getD m z80 = l.getD m z80 := by
  unfold insC
  have ht : (l.take i).length = i := by rw [List.length_take]; omega
  refine ⟨by simp [List.getD_eq_getElem?_getD, List.getElem?_append, ht], fun m hm => ?_⟩
  simp only [List.getD_eq_getElem?_getD, List.nil_append, List.append_assoc]
  rw [List.getElem?_append_left (by omega), List.getElem?_take_of_lt hm]
/-- What was put into a part is found there: as it is, or merged with what was there. -/
theorem putIn_found (p : S26) (a : S29) : (findIn (putIn p a).1 a.f0).2 = true ∧ (putIn p a).2 = !(findIn p a.f0).2 ∧
    (findIn (putIn p a).1 a.f0).1 = (if (findIn p a.f0).2 = true then mergeA (findIn p a.f0).1 a else a) := by
  by_cases h : chainAt p.f2 (fingerOf a.f0) ≥ 0
  · obtain ⟨j, e, h1, h2, h3⟩ := place_hit (fun c : S80 => decide (c.f0 = fingerOf a.f0)) z80 p.f2 0 (by unfold chainAt at h; omega)
    have e' : chainAt p.f2 (fingerOf a.f0) = (j : Int) := by unfold chainAt; rw [e]; omega
    have ep : putIn p a = (⟨p.f0, wrap64 (p.f1 + 1), p.f2.set j (putChain (p.f2.getD j z80) a).1⟩, (putChain (p.f2.getD j z80) a).2) := by
      unfold putIn; rw [if_pos h, e']; rfl
    have hg : (p.f2.set j (putChain (p.f2.getD j z80) a).1).getD j z80 = (putChain (p.f2.getD j z80) a).1 := by simp [List.getD_eq_getElem?_getD, h1]
    have hf : (putChain (p.f2.getD j z80) a).1.f0 = (p.f2.getD j z80).f0 := by unfold putChain; split <;> rfl
    have ec : chainAt (p.f2.set j (putChain (p.f2.getD j z80) a).1) (fingerOf a.f0) = (j : Int) := by
      unfold chainAt
      rw [place_is (fun c : S80 => decide (c.f0 = fingerOf a.f0)) z80 _ 0 j (by simpa using h1) (by rw [hg, hf]; exact h2) (fun m hm => by
        have : (p.f2.set j (putChain (p.f2.getD j z80) a).1).getD m z80 = p.f2.getD m z80 := by simp only [List.getD_eq_getElem?_getD]; rw [List.getElem?_set_ne (by omega)]
        rw [this]; exact h3 m hm)]
      omega
    obtain ⟨q, g1, g2, g3⟩ := putChain_at (p.f2.getD j z80) a
    have fx : findIn (putIn p a).1 a.f0 = ((putChain (p.f2.getD j z80) a).1.f1.getD q z29, true) := by
      unfold findIn
      rw [ep]
      simp only [ec]
      rw [if_neg (by omega), Int.toNat_natCast, hg, g1, if_neg (by omega), Int.toNat_natCast]
    have fp : findIn p a.f0 = if labelsAt (p.f2.getD j z80).f1 a.f0 < 0 then (z29, false) else ((p.f2.getD j z80).f1.getD (labelsAt (p.f2.getD j z80).f1 a.f0).toNat z29, true) := by
      unfold findIn
      simp only [e']
      rw [if_neg (by omega), Int.toNat_natCast]
    rw [fx, fp, ep]
    by_cases c : labelsAt (p.f2.getD j z80).f1 a.f0 ≥ 0
    · rw [if_pos c] at g3
      rw [if_neg (by omega)]
      exact ⟨rfl, g3.1, by simpa using g3.2⟩
    · rw [if_neg c] at g3
      rw [if_pos (by omega)]
      exact ⟨rfl, g3.1, by simpa using g3.2⟩
  · have ep : putIn p a = (⟨p.f0, wrap64 (p.f1 + 1), insC p.f2 (fingerOf a.f0) a (firstNot (fun c : S80 => decide (c.f0 < fingerOf a.f0)) p.f2)⟩, true) := by unfold putIn; rw [if_neg h]
    have hn := place_no (fun c : S80 => decide (c.f0 = fingerOf a.f0)) z80 p.f2 0 (by unfold chainAt at h; omega)
    have hle := firstNot_le (fun c : S80 => decide (c.f0 < fingerOf a.f0)) p.f2
    obtain ⟨i1, i2⟩ := insC_get p.f2 (fingerOf a.f0) a _ hle
    have fp : findIn p a.f0 = (z29, false) := by
      unfold findIn
      simp only
      rw [if_pos (by omega)]
    have ec : chainAt (insC p.f2 (fingerOf a.f0) a (firstNot (fun c : S80 => decide (c.f0 < fingerOf a.f0)) p.f2)) (fingerOf a.f0) = ((firstNot (fun c : S80 => decide (c.f0 < fingerOf a.f0)) p.f2 : Nat) : Int) := by
      unfold chainAt
      rw [place_is (fun c : S80 => decide (c.f0 = fingerOf a.f0)) z80 _ 0 (firstNot (fun c : S80 => decide (c.f0 < fingerOf a.f0)) p.f2) (by rw [insC_length]; omega) (by rw [i1]; simp) (fun m hm => by rw [i2 m hm]; exact hn m (by omega))]
      omega
    have el : labelsAt [a] a.f0 = 0 := by unfold labelsAt place; rw [if_pos (sameSet_self _)]; rfl
    have fx : findIn (putIn p a).1 a.f0 = (a, true) := by
      unfold findIn
      rw [ep]
      simp only [ec]
      rw [if_neg (by omega), Int.toNat_natCast, i1]
      simp only [el]
      rw [if_neg (by omega)]
      rfl
    rw [fx, fp, ep]
    exact ⟨rfl, rfl, by simp⟩
theorem lawsSameList_ev (a b : List S29) (h : a.length ≤ 5000000 ∧ ∀ y ∈ a, y.f0.length ≤ 5000000) : Ev (fun k => laws_sameList.f k a b) (sameAlarms a b) := by
  have h1 := h.1
  unfold laws_sameList.f sameAlarms
  by_cases hl : a.length = b.length
  · simp only [if_pos (show (a.length : Int) = (b.length : Int) by omega)]
    rw [← scan_same0 alm z29 a b hl]
    refine scan_ev (F := fun k i => laws_sameList.l0 k a b i) (n := a.length) (fun k => ?_) (fun i hi => ?_) a.length 0 (by omega)
    · simp only [laws_sameList.l0]; rw [if_neg (by omega)]
    · have hw := h.2 _ (getD_mem a i z29 hi)
      obtain ⟨K, hK⟩ := implSameAlarm_ev (a.getD i z29) (b.getD i z29) (by omega)
      refine ⟨K, fun k hk => ?_⟩
      have h2 := hK k hk
      simp only at h2
      simp only [laws_sameList.l0]
      rw [if_pos (by omega), if_pos (by omega), if_pos (by omega), rdnAlarm, rdnAlarm, wrap_up i (by omega), h2, Option.bind_some]
      unfold sameAlarm
      by_cases hc : alm (a.getD i z29) = alm (b.getD i z29)
      · rw [decide_eq_true hc, if_pos hc]; rfl
      · rw [decide_eq_false hc, if_neg hc]; rfl
  · simp only [if_neg (show ¬ (a.length : Int) = (b.length : Int) by omega), decide_eq_false (map_ne_of_length hl)]
    exact Ev.now _
theorem lawsSameList_refl (a : List S29) (h : a.length ≤ 5000000 ∧ ∀ y ∈ a, y.f0.length ≤ 5000000) : Ev (fun k => laws_sameList.f k a a) true := by
  have e := lawsSameList_ev a a h
  rwa [show sameAlarms a a = true from decide_eq_true rfl] at e
theorem rdnChain' (l : List S80) (i : Nat) : rd_T80 l (i : Int) = l.getD i z80 := by unfold rd_T80; simp
/-- Each of the places from i on. -/
def bstep (p : Nat → Bool) (i : Nat) : Option Bool := if p i = true then none else some false
def bscan (p : Nat → Bool) (d i : Nat) : Bool := scan (bstep p) true d i
theorem bstep_false (p : Nat → Bool) (i : Nat) (r : Bool) (h : bstep p i = some r) : r = false := by
  unfold bstep at h
  split at h
  · cases h
  · injection h with h; exact h.symm
theorem bscan_succ (p : Nat → Bool) (d i : Nat) : bscan p (d + 1) i = (p i && bscan p d (i + 1)) := by
  unfold bscan
  rw [scan]
  cases hp : p i <;> simp [bstep, hp]
def earlyA (l : List S29) (i : Nat) : Bool := (l.take i).any (fun a => sameSet a.f0 (l.getD i z29).f0)
def cBit (f : Int) (l : List S29) (i : Nat) : Bool := alarmOk (l.getD i z29) && decide (fingerOf (l.getD i z29).f0 = f)
def chainOk (f : Int) (l : List S29) : Bool := (decide ((l.length : Int) > 0) && bscan (fun i => !earlyA l i) l.length 0) && bscan (cBit f l) l.length 0
theorem implLabelsApart_ev (l : List S29) (h : l.length ≤ 4000000 ∧ ∀ y ∈ l, WiAlarm y) : Ev (fun k => impl_labelsApart.f k l) (bscan (fun i => !earlyA l i) l.length 0) := by
  have h1 := h.1
  unfold impl_labelsApart.f bscan
  refine scan_ev (F := fun k i => impl_labelsApart.l0 k l l (l.length : Int) i) (n := l.length) (fun k => ?_) (fun i hi => ?_) l.length 0 (by omega)
  · simp only [impl_labelsApart.l0]; rw [if_neg (by omega)]
  · obtain ⟨K, g⟩ := implLabelsAt_ev (l.take i) (l.getD i z29).f0 ⟨by rw [List.length_take]; omega, fun y hy => h.2 y (List.mem_of_mem_take hy)⟩
    refine ⟨K, fun k hk => ?_⟩
    have e := g k hk
    simp only at e
    simp only [impl_labelsApart.l0]
    rw [if_pos (by omega), if_pos (by omega), if_pos (by omega), if_pos (by omega), rdnAlarm, Int.toNat_natCast, e, Option.bind_some, wrap_up i (by omega)]
    have hp : labelsAt (l.take i) (l.getD i z29).f0 ≥ 0 ↔ earlyA l i = true := by
      unfold earlyA labelsAt
      exact place_ge _ _ 0
    rcases Bool.eq_false_or_eq_true (earlyA l i) with he | he
    · rw [if_pos (hp.2 he), show bstep (fun i => !earlyA l i) i = some false from by simp [bstep, he]]; rfl
    · rw [if_neg (fun q => by rw [hp.1 q] at he; cases he), show bstep (fun i => !earlyA l i) i = none from by simp [bstep, he]]; rfl
theorem implChainOk_ev (f : Int) (l : List S29) (h : l.length ≤ 4000000 ∧ ∀ y ∈ l, WiAlarm y) : Ev (fun k => impl_ChainOk.f k f l) (chainOk f l) := by
  have h1 := h.1
  unfold impl_ChainOk.f chainOk
  obtain ⟨K0, g0⟩ := implLabelsApart_ev l h
  rw [show bscan (cBit f l) l.length 0 = scan (bstep (cBit f l)) true l.length 0 from rfl, ← scan_end (bstep_false (cBit f l))]
  refine scan_ev2 (F := fun k i => impl_ChainOk.l0 k l (l.length : Int) i f l) (n := l.length) ⟨K0, fun k hk => ?_⟩ (fun i hi => ?_) l.length 0 (by omega)
  · have e := g0 k hk
    simp only at e
    simp only [impl_ChainOk.l0, e, Option.bind_some]
    rw [if_neg (by omega)]
    by_cases hc : (l.length : Int) > 0
    · rw [if_pos hc, decide_eq_true hc]; simp
    · rw [if_neg hc, decide_eq_false hc]; simp
  · have hy := h.2 _ (getD_mem l i z29 hi)
    obtain ⟨K1, g1⟩ := implAlarmOk_ev (l.getD i z29) hy
    obtain ⟨K2, g2⟩ := implFinger_ev (l.getD i z29).f0 hy.1
    refine ⟨K1 + K2, fun k hk => ?_⟩
    have e1 := g1 k (by omega)
    have e2 := g2 k (by omega)
    simp only at e1 e2
    simp only [impl_ChainOk.l0]
    rw [if_pos (by omega), if_pos (by omega), if_pos (by omega), rdnAlarm, e1, Option.bind_some, e2, Option.bind_some, wrap_up i (by omega)]
    unfold bstep cBit
    cases alarmOk (l.getD i z29) with
    | false => simp [goOn]
    | true =>
      by_cases hc : fingerOf (l.getD i z29).f0 = f
      · rw [if_pos rfl, if_pos hc, decide_eq_true hc]; simp [goOn]
      · rw [if_pos rfl, if_neg hc, decide_eq_false hc]; simp [goOn]
theorem specChain_l1 (f : Int) (l : List S29) (h : l.length ≤ 4000000 ∧ ∀ y ∈ l, WiAlarm y) (i : Nat) (hi : i < l.length) (r : Bool) (hn : earlyA l i = false → Ev (fun k => spec_ChainOk.l0 k ((i + 1 : Nat) : Int) f l) r) (hy : earlyA l i = true → r = false) :
    ∀ d j, d + j = i → (l.take j).any (fun a => sameSet a.f0 (l.getD i z29).f0) = false → Ev (fun k => spec_ChainOk.l1 k (i : Int) (j : Int) f l) r
  | 0, j, e, hp => by
    have h1 := h.1
    obtain rfl : j = i := by omega
    refine Ev.step (fun k => ?_) (hn hp)
    simp only [spec_ChainOk.l1]
    rw [if_neg (by omega), wrap_up j (by omega)]
  | d + 1, j, e, hp => by
    have h1 := h.1
    have hw := (h.2 _ (getD_mem l j z29 (by omega))).1.1
    have g := specSameSet_ev (l.getD j z29).f0 (l.getD i z29).f0 (by omega)
    have ht : (l.take (j + 1)).any (fun a => sameSet a.f0 (l.getD i z29).f0) = sameSet (l.getD j z29).f0 (l.getD i z29).f0 := by
      rw [List.take_succ_eq_append_getElem (by omega), List.any_append, hp, getD_eq l j z29 (by omega)]; simp
    refine Ev.step (f := fun k => (spec_SameSet.f k (l.getD j z29).f0 (l.getD i z29).f0).bind fun t => if t = true then some false else spec_ChainOk.l1 k (i : Int) ((j + 1 : Nat) : Int) f l) (fun k => ?_) (Ev.bind g ?_)
    · simp only [spec_ChainOk.l1]
      rw [if_pos (by omega), if_pos (by omega), if_pos (by omega), if_pos (by omega), if_pos (by omega), rdnAlarm, rdnAlarm, wrap_up j (by omega)]
    · cases hc : sameSet (l.getD j z29).f0 (l.getD i z29).f0 with
      | true =>
        simp only [if_true]
        rw [hy (by
          unfold earlyA
          rw [List.any_eq_true]
          exact ⟨l.getD j z29, by rw [getD_eq l j z29 (by omega)]; exact List.mem_take_iff_getElem.2 ⟨j, by omega, rfl⟩, hc⟩)]
        exact Ev.now _
      | false =>
        simp only [Bool.false_eq_true, if_false]
        exact specChain_l1 f l h i hi r hn hy d (j + 1) (by omega) (by rw [ht, hc])
theorem specChain_l0 (f : Int) (l : List S29) (h : l.length ≤ 4000000 ∧ ∀ y ∈ l, WiAlarm y) : ∀ d i, d + i = l.length →
    Ev (fun k => spec_ChainOk.l0 k (i : Int) f l) (decide ((l.length : Int) > 0) && (bscan (fun i => !earlyA l i) d i && bscan (cBit f l) d i))
  | 0, i, e => by
    refine Ev.step (f := fun _ => some (decide ((l.length : Int) > 0))) (fun k => ?_) (by simpa [bscan, scan] using Ev.now (decide ((l.length : Int) > 0)))
    simp only [spec_ChainOk.l0]
    rw [if_neg (by omega)]
  | d + 1, i, e => by
    have h1 := h.1
    have hi : i < l.length := by omega
    have ih := specChain_l0 f l h d (i + 1) (by omega)
    have hyw := h.2 _ (getD_mem l i z29 hi)
    have g := specAlarmOk_ev (l.getD i z29) hyw
    have g2 := specFinger_ev (l.getD i z29).f0 hyw.1
    have hj : ∀ b : Bool, Ev (fun k => spec_ChainOk.j1 k (i : Int) b f l) (if b = true then false else (decide ((l.length : Int) > 0) && (bscan (fun i => !earlyA l i) (d + 1) i && bscan (cBit f l) d (i + 1)))) := by
      intro b
      cases b with
      | true =>
        refine Ev.step (f := fun _ => some false) (fun k => ?_) (Ev.now _)
        simp [spec_ChainOk.j1]
      | false =>
        refine Ev.step (f := fun k => spec_ChainOk.l1 k (i : Int) ((0 : Nat) : Int) f l) (fun k => ?_) ?_
        · simp [spec_ChainOk.j1]
        · simp only [Bool.false_eq_true, if_false]
          refine specChain_l1 f l h i hi _ (fun he => ?_) (fun he => ?_) i 0 (by omega) (by simp)
          · rw [bscan_succ, he]; simpa using ih
          · rw [bscan_succ, he]; simp
    refine Ev.step (f := fun k => (spec_AlarmOk.f k (l.getD i z29).f0 (l.getD i z29).f1 (l.getD i z29).f2 (l.getD i z29).f3).bind fun t => if t = true then ((spec_Finger.f k (l.getD i z29).f0).bind fun u => spec_ChainOk.j1 k (i : Int) (u != f) f l) else spec_ChainOk.j1 k (i : Int) true f l) (fun k => ?_) (Ev.bind g ?_)
    · simp only [spec_ChainOk.l0]
      rw [if_pos (by omega), if_pos (by omega), rdnAlarm]
    · rw [bscan_succ (cBit f l), show cBit f l i = (alarmOk (l.getD i z29) && decide (fingerOf (l.getD i z29).f0 = f)) from rfl]
      cases alarmOk (l.getD i z29) with
      | false =>
        simp only [Bool.false_eq_true, if_false]
        have := hj true
        simpa using this
      | true =>
        simp only [if_true]
        refine Ev.bind g2 ?_
        by_cases hc : fingerOf (l.getD i z29).f0 = f
        · have := hj false
          rw [decide_eq_true hc, hc]
          simpa using this
        · have := hj true
          rw [decide_eq_false hc, show (fingerOf (l.getD i z29).f0 != f) = true by simpa using hc]
          simpa using this
theorem specChainOk_ev (f : Int) (l : List S29) (h : l.length ≤ 4000000 ∧ ∀ y ∈ l, WiAlarm y) : Ev (fun k => spec_ChainOk.f k f l) (chainOk f l) := by
  have := specChain_l0 f l h l.length 0 (by omega)
  unfold spec_ChainOk.f chainOk
  rw [Bool.and_assoc]
  exact this
/-- A part. -/
def pBit (l : List S80) (i n : Int) (k : Nat) : Bool := chainOk (l.getD k z80).f0 (l.getD k z80).f1 && (decide (partOf (l.getD k z80).f0 n = i) && (decide (k = 0) || decide ((l.getD (k - 1) z80).f0 < (l.getD k z80).f0)))
def partIs (p : S26) (i n : Int) : Bool := ((decide (-1 ≤ p.f0) && decide (p.f0 ≤ 4)) && decide (p.f1 ≥ 0)) && bscan (pBit p.f2 i n) p.f2.length 0
theorem implPartOk_ev (p : S26) (i n : Int) (h : WiPart p) : Ev (fun k => impl_PartOk.f k p.f0 p.f1 p.f2 i n) (partIs p i n) := by
  have h1 := h.2.2.1
  have h2 := h.2.2.2
  unfold impl_PartOk.f partIs
  rw [show bscan (pBit p.f2 i n) p.f2.length 0 = scan (bstep (pBit p.f2 i n)) true p.f2.length 0 from rfl, ← scan_end (bstep_false (pBit p.f2 i n))]
  refine scan_ev2 (F := fun k j => impl_PartOk.l0 k i n p.f2 (p.f2.length : Int) j p.f0 p.f1 p.f2) (n := p.f2.length) ⟨0, fun k hk => ?_⟩ (fun j hj => ?_) p.f2.length 0 (by omega)
  · simp only [impl_PartOk.l0, inEq, Option.bind_some]
    rw [if_neg (by omega)]
    cases (decide (-1 ≤ p.f0) && decide (p.f0 ≤ 4)) <;> simp
  · have hy := h2 _ (getD_mem p.f2 j z80 hj)
    obtain ⟨K1, g1⟩ := implChainOk_ev (p.f2.getD j z80).f0 (p.f2.getD j z80).f1 hy.2
    refine ⟨K1, fun k hk => ?_⟩
    have e1 := g1 k (by omega)
    simp only at e1
    simp only [impl_PartOk.l0]
    rw [if_pos (by omega), if_pos (by omega), if_pos (by omega), rdnChain', e1, Option.bind_some, implPartOf_is, Option.bind_some, wrap_up j (by omega)]
    unfold bstep pBit
    cases chainOk (p.f2.getD j z80).f0 (p.f2.getD j z80).f1 with
    | false => simp [goOn]
    | true =>
      by_cases hc : partOf (p.f2.getD j z80).f0 n = i
      · rw [if_pos rfl, if_pos hc, decide_eq_true hc]
        by_cases h0 : j = 0
        · subst h0; simp [goOn]
        · rw [if_pos (by omega), sub1 j (by omega) (by omega), if_pos (by omega), if_pos (by omega), rdnChain', decide_eq_false h0]
          by_cases hd : (p.f2.getD (j - 1) z80).f0 ≥ (p.f2.getD j z80).f0
          · rw [if_pos hd, decide_eq_false (show ¬ (p.f2.getD (j - 1) z80).f0 < (p.f2.getD j z80).f0 by omega)]; simp [goOn]
          · rw [if_neg hd, decide_eq_true (show (p.f2.getD (j - 1) z80).f0 < (p.f2.getD j z80).f0 by omega)]; simp [goOn]
      · rw [if_pos rfl, if_neg hc, decide_eq_false hc]; simp [goOn]
theorem specPartOk_ev (p : S26) (i n : Int) (h : WiPart p) : Ev (fun k => spec_PartOk.f k p.f0 p.f1 p.f2 i n) (partIs p i n) := by
  have h1 := h.2.2.1
  have h2 := h.2.2.2
  unfold spec_PartOk.f partIs
  rw [show bscan (pBit p.f2 i n) p.f2.length 0 = scan (bstep (pBit p.f2 i n)) true p.f2.length 0 from rfl, ← scan_end (bstep_false (pBit p.f2 i n))]
  refine scan_ev2 (F := fun k j => spec_PartOk.l0 k i n j p.f0 p.f1 p.f2) (n := p.f2.length) ⟨0, fun k hk => ?_⟩ (fun j hj => ?_) p.f2.length 0 (by omega)
  · simp only [spec_PartOk.l0, l1InEq, Option.bind_some]
    rw [if_neg (by omega)]
    cases (decide (-1 ≤ p.f0) && decide (p.f0 ≤ 4)) <;> simp
  · have hy := h2 _ (getD_mem p.f2 j z80 hj)
    obtain ⟨K1, g1⟩ := specChainOk_ev (p.f2.getD j z80).f0 (p.f2.getD j z80).f1 hy.2
    refine ⟨K1, fun k hk => ?_⟩
    have e1 := g1 k (by omega)
    simp only at e1
    simp only [spec_PartOk.l0]
    rw [if_pos (by omega), if_pos (by omega), rdnChain', e1, Option.bind_some, wrap_up j (by omega)]
    simp only [specPartOf_is, Option.bind_some]
    unfold bstep pBit
    cases chainOk (p.f2.getD j z80).f0 (p.f2.getD j z80).f1 with
    | false => simp [goOn]
    | true =>
      by_cases h0 : j = 0
      · subst h0
        generalize partOf (p.f2.getD 0 z80).f0 n = q
        by_cases hc : q = i <;> simp [goOn, hc]
      · rw [if_pos rfl, if_pos (by omega), sub1 j (by omega) (by omega), if_pos (by omega), if_pos (by omega), rdnChain', decide_eq_false h0]
        by_cases hd : (p.f2.getD (j - 1) z80).f0 ≥ (p.f2.getD j z80).f0
        · rw [if_pos hd, decide_eq_false (show ¬ (p.f2.getD (j - 1) z80).f0 < (p.f2.getD j z80).f0 by omega)]; simp [goOn]
        · rw [if_neg hd, decide_eq_true (show (p.f2.getD (j - 1) z80).f0 < (p.f2.getD j z80).f0 by omega)]
          generalize partOf (p.f2.getD j z80).f0 n = q
          by_cases hc : q = i <;> simp [goOn, hc]
end Go.Proofs.YtanfohlpkppeiaaGreat.Print
end
section
/- The law FnParts answers true for all arguments that can be read: the pure statement, without Go and memory. No condition. -/
namespace Go.Proofs.YtanfohlpkppeiaaGreat.Print
open Go.RowKit Go.Proofs.YtanfohlpkppeiaaGreatV.PrintWords Go.Proofs.YtanfohlpkppeiaaGreatV.PrintLast Go.Proofs.YtanfohlpkppeiaaGreatV.PrintMore
set_option linter.unusedVariables false
set_option linter.unusedSimpArgs false
theorem sameAlarm_refl (a : S29) (h : WiAlarm a) : Ev (fun k => impl_SameAlarm.f k a.f0 a.f1 a.f2 a.f3 a.f0 a.f1 a.f2 a.f3) true := by
  have e := implSameAlarm_ev a a (by have := h.1.1; omega)
  rwa [show sameAlarm a a = true from decide_eq_true rfl] at e
theorem samePart_refl (x : S26) (h : WiPart x) : Ev (fun k => impl_SamePart.f k x.f0 x.f1 x.f2 x.f0 x.f1 x.f2) true := by
  have e := implSamePart_ev x x h
  rwa [samePart_self] at e
theorem goneC_len2 {m : Nat} (now : Int) : ∀ {l : List S80}, (∀ c ∈ l, ShortC m c) → (goneC now l).length ≤ l.length * m
  | [], _ => by simp [goneC]
  | c :: l, h => by
    have h1 := goneC_len2 now (fun x hx => h x (List.mem_cons_of_mem _ hx))
    have h2 := (h c List.mem_cons_self).1
    have h3 := overs_le now c.f1
    simp only [goneC, List.length_append, List.length_cons, Nat.add_mul, Nat.one_mul]; omega
theorem fnParts_l0 (now : Int) (g : List S29) (r : S26) (s0 s1 : Int) (s2 : List S80) (hr : ShortP 40 r) (all : List S29) (hw : ∀ y ∈ all, ¬ y.f2 ≤ now) (hl : all.length ≤ 1000000) (hg : g.length ≤ 1000000)
    (hn : all.length + g.length = (inC r.f2).length) (hv : ((s1 != r.f1) == decide ((g.length : Int) > 0)) = true) :
    ∀ d i : Nat, i + d = all.length → Ev (fun k => laws_FnParts.l0 k now g all (i : Int) r.f0 r.f1 r.f2 s0 s1 s2) true
  | 0, i, hi => by
    obtain ⟨K1, g1⟩ := implIn_short hr (by decide)
    obtain ⟨K2, g2⟩ := specIn_short hr (by decide)
    have hi2 := shortP_in hr (by decide)
    obtain ⟨K3, g3⟩ := lawsSameList_refl (inC r.f2) ⟨by have := hi2.1; omega, fun y hy => Nat.le_trans (hi2.2 y hy).1 (by decide)⟩
    refine ⟨K1 + K2 + K3 + 1, fun k hk => ?_⟩
    obtain ⟨k, rfl⟩ : ∃ j, k = j + 1 := ⟨k - 1, by omega⟩
    have e1 := g1 k (by omega)
    have e2 := g2 k (by omega)
    have e3 := g3 k (by omega)
    simp only at e1 e2 e3
    simp only [laws_FnParts.l0]
    rw [if_neg (by omega), e1, Option.bind_some, if_pos (by rw [wrap_id (by omega) (by omega)]; omega), if_pos hv, Option.bind_some, e2, Option.bind_some, e3, Option.bind_some]
  | d + 1, i, hi => by
    obtain ⟨K, g1⟩ := fnParts_l0 now g r s0 s1 s2 hr all hw hl hg hn hv d (i + 1) (by omega)
    refine ⟨K + 1, fun k hk => ?_⟩
    obtain ⟨k, rfl⟩ : ∃ j, k = j + 1 := ⟨k - 1, by omega⟩
    have e := g1 k (by omega)
    simp only at e
    have hx := hw _ (getD_mem all i z29 (by omega))
    simp only [laws_FnParts.l0]
    rw [if_pos (by omega), if_pos (by omega), rdnAlarm, implOver_is, Option.bind_some, decide_eq_false hx, if_neg (by decide), wrap_up i (by omega)]
    exact e
theorem fnParts_j1 (r : S26) (now : Int) (hr : ShortP 40 r) : Ev (fun k => laws_FnParts.j1 k now (goneC now r.f2) false r.f0 r.f1 r.f2 (swept r now).f0 (swept r now).f1 (swept r now).f2) true := by
  have hs := swept_short now (by decide) hr
  obtain ⟨K1, g1⟩ := implIn_short hs (by decide)
  have hi := shortP_in hs (by decide)
  have hg : (goneC now r.f2).length ≤ 1000000 := Nat.le_trans (goneC_len2 now hr.2.2) (Nat.le_trans (Nat.mul_le_mul_right _ hr.2.1) (by decide))
  have hv : (((swept r now).f1 != r.f1) == decide (((goneC now r.f2).length : Int) > 0)) = true := by
    show ((sweptV r.f1 (goneC now r.f2) != r.f1) == _) = true
    have h1 := hr.1
    unfold sweptV
    by_cases c : ((goneC now r.f2).length : Int) > 0
    · rw [if_pos c, decide_eq_true c, wrap_id (by omega) (by omega)]
      simp only [beq_true, bne_iff_ne, ne_eq]; omega
    · rw [if_neg c, decide_eq_false c]; simp
  obtain ⟨K2, g2⟩ := fnParts_l0 now (goneC now r.f2) r (swept r now).f0 (swept r now).f1 (swept r now).f2 hr (inC (swept r now).f2) (swept_left now r.f2) hi.1 hg (goneC_len now r.f2) hv _ 0 (Nat.zero_add _)
  refine ⟨K1 + K2 + 1, fun k hk => ?_⟩
  obtain ⟨k, rfl⟩ : ∃ j, k = j + 1 := ⟨k - 1, by omega⟩
  have e1 := g1 k (by omega)
  have e2 := g2 k (by omega)
  simp only at e1 e2
  simp only [laws_FnParts.j1]
  rw [if_neg (by decide), e1, Option.bind_some]
  exact e2
theorem fnParts_j0 (p : S26) (a : S29) (r : S26) (now : Int) (hp : ShortP 40 p) (ha : ShortA a) (hr : ShortP 40 r) :
    Ev (fun k => laws_FnParts.j0 k (putIn p a).2 now (goneC now r.f2) p.f0 p.f1 p.f2 a.f0 a.f1 a.f2 a.f3 (putIn p a).1.f0 (putIn p a).1.f1 (putIn p a).1.f2 r.f0 r.f1 r.f2 (swept r now).f0 (swept r now).f1 (swept r now).f2) true := by
  have wp := shortP_wi hp (by decide)
  have wx := shortP_wi (putIn_short (by decide) hp ha) (by decide)
  obtain ⟨K1, g1⟩ := implFindIn_ev p a.f0 wp ha.2.1
  obtain ⟨K2, g2⟩ := implFindIn_ev (putIn p a).1 a.f0 wx ha.2.1
  obtain ⟨K3, g3⟩ := fnParts_j1 r now hr
  obtain ⟨f1, f2, f3⟩ := putIn_found p a
  have hv : (putIn p a).1.f1 = wrap64 (p.f1 + 1) := by unfold putIn; split <;> rfl
  have w1 := findIn_wi (s := a.f0) wp
  by_cases c : (findIn p a.f0).2 = true
  · rw [if_pos c] at f3
    have em := implMerge_ev (findIn p a.f0).1 a (Nat.le_trans ha.1 (by decide))
    obtain ⟨K4, g4⟩ := sameAlarm_refl (mergeA (findIn p a.f0).1 a) (mergeA_wi ha.2)
    refine ⟨K1 + K2 + K3 + K4 + 1, fun k hk => ?_⟩
    obtain ⟨k, rfl⟩ : ∃ j, k = j + 1 := ⟨k - 1, by omega⟩
    have e1 := g1 k (by omega)
    have e2 := g2 k (by omega)
    have e3 := g3 k (by omega)
    have e4 := g4 k (by omega)
    simp only at e1 e2 e3 e4
    simp only [hv] at e2
    simp only [laws_FnParts.j0, e1, e2, Option.bind_some, f1, f2, f3, c, if_true, hv, em, e4]
    simp [e3]
  · have c' : (findIn p a.f0).2 = false := by simpa using c
    rw [if_neg c] at f3
    obtain ⟨K4, g4⟩ := sameAlarm_refl a ha.2
    refine ⟨K1 + K2 + K3 + K4 + 1, fun k hk => ?_⟩
    obtain ⟨k, rfl⟩ : ∃ j, k = j + 1 := ⟨k - 1, by omega⟩
    have e1 := g1 k (by omega)
    have e2 := g2 k (by omega)
    have e3 := g3 k (by omega)
    have e4 := g4 k (by omega)
    simp only at e1 e2 e3 e4
    simp only [hv] at e2
    simp only [laws_FnParts.j0, e1, e2, Option.bind_some, f1, f2, f3, c', if_true, hv, e4]
    simp [e3]
theorem pure_FnParts : laws_FnParts.Pure := by
  intro l0 h0 h1 h2
  by_cases c : (l0.length : Int) > 1048576
  · exact ⟨0, by simp [laws_FnParts.f, laws_big.f, c]⟩
  have hl : l0.length ≤ 1048576 := by omega
  obtain ⟨p, a, ⟨K1, g1⟩, wp, wa⟩ := drawPutIn_ev l0 hl
  obtain ⟨q, l, ⟨K2, g2⟩, wq, wl⟩ := drawFindIn_ev l0 hl
  obtain ⟨r, now, ⟨K3, g3⟩, wr⟩ := drawSweepIn_ev l0 hl
  obtain ⟨o, i, n, ⟨K4, g4⟩, wo⟩ := drawPartOk_ev l0 hl
  obtain ⟨x, y, ⟨K5, g5⟩, wx, wy⟩ := drawSamePart_ev l0 hl
  have vp := shortP_wi wp (by decide)
  have vq := shortP_wi wq (by decide)
  have vo := shortP_wi wo (by decide)
  have vx := shortP_wi wx (by decide)
  have vs := shortP_wi (swept_short now (by decide) wr) (by decide)
  have vl := (⟨Nat.le_trans wl.1 (by decide), wl.2⟩ : l.length ≤ 4000000 ∧ ∀ y ∈ l, WiLabel y)
  have vpi := shortP_wi (putIn_short (by decide) wp wa) (by decide)
  have hg : (goneC now r.f2).length ≤ 1000000 := Nat.le_trans (goneC_len2 now wr.2.2) (Nat.le_trans (Nat.mul_le_mul_right _ wr.2.1) (by decide))
  obtain ⟨K6, g6⟩ := implPutIn_ev p a vp wa.2
  obtain ⟨K7, g7⟩ := specPutIn_ev p a vp wa.2
  obtain ⟨K8, g8⟩ := implFindIn_ev q l vq vl
  obtain ⟨K9, g9⟩ := specFindIn_ev q l vq vl
  obtain ⟨K10, g10⟩ := implSweepIn_ev r now (shortP_up wr (by decide))
  obtain ⟨K11, g11⟩ := specSweepIn_ev r now (shortP_up wr (by decide))
  obtain ⟨K12, g12⟩ := samePart_refl (putIn p a).1 vpi
  obtain ⟨K13, g13⟩ := sameAlarm_refl (findIn q l).1 (findIn_wi vq)
  obtain ⟨K14, g14⟩ := samePart_refl (swept r now) vs
  obtain ⟨K15, g15⟩ := lawsSameList_refl (goneC now r.f2) ⟨by omega, fun y hy => Nat.le_trans ((shortP_in wr (by decide)).2 y (goneC_in now r.f2 y hy)).1 (by decide)⟩
  obtain ⟨K16, g16⟩ := implPartOk_ev o i n vo
  obtain ⟨K17, g17⟩ := specPartOk_ev o i n vo
  obtain ⟨K18, g18⟩ := implSamePart_ev x y vx
  obtain ⟨K19, g19⟩ := specSamePart_ev x y vx
  obtain ⟨K20, g20⟩ := fnParts_j0 p a r now wp wa wr
  let K := K1 + K2 + K3 + K4 + K5 + K6 + K7 + K8 + K9 + K10 + K11 + K12 + K13 + K14 + K15 + K16 + K17 + K18 + K19 + K20
  have f1 := g1 K (by omega)
  have f2 := g2 K (by omega)
  have f3 := g3 K (by omega)
  have f4 := g4 K (by omega)
  have f5 := g5 K (by omega)
  have f6 := g6 K (by omega)
  have f7 := g7 K (by omega)
  have f8 := g8 K (by omega)
  have f9 := g9 K (by omega)
  have f10 := g10 K (by omega)
  have f11 := g11 K (by omega)
  have f12 := g12 K (by omega)
  have f13 := g13 K (by omega)
  have f14 := g14 K (by omega)
  have f15 := g15 K (by omega)
  have f16 := g16 K (by omega)
  have f17 := g17 K (by omega)
  have f18 := g18 K (by omega)
  have f19 := g19 K (by omega)
  have f20 := g20 K (by omega)
  simp only at f1 f2 f3 f4 f5 f6 f7 f8 f9 f10 f11 f12 f13 f14 f15 f16 f17 f18 f19 f20
  refine ⟨K, ?_⟩
  generalize K = k at *
  simp only [laws_FnParts.f, laws_big.f, Option.bind_some, decide_eq_false c, Bool.false_eq_true, if_false, f1, f2, f3, f4, f5, f6, f7, f8, f9, f10, f11, f12, if_true, f13, f14, f15, f16, f17, bne_self_eq_false, f18, f19, f20]
end Go.Proofs.YtanfohlpkppeiaaGreat.Print
namespace Go.Proofs.YtanfohlpkppeiaaGreat.Pure
theorem FnParts : Go.Proofs.YtanfohlpkppeiaaGreat.Print.laws_FnParts.Pure := Go.Proofs.YtanfohlpkppeiaaGreat.Print.pure_FnParts
end Go.Proofs.YtanfohlpkppeiaaGreat.Pure
namespace Go.Proofs.YtanfohlpkppeiaaGreat.Print

end Go.Proofs.YtanfohlpkppeiaaGreat.Print
end
