import Derived.Test.YtfholjcelnkleaaMFnExactGroupsOk1
import Derived.Test.YtfholjcelnkleaaMFnExactGroupsOk3
import Derived.Test.YtfholjcelnkleaaMFnExactGroupsOk5
import Derived.Test.YtfholjcelnkleaaMFnExactGroupsOk2
import Derived.Test.YtfholjcelnkleaaMFnExactGroupsOk4
section
namespace Go.Proofs.Ytfholjcelnkleaa.Print
open Go.RowKit Go.Proofs.YtfholjcelnkleaaV.PrintWords Go.Proofs.YtfholjcelnkleaaV.PrintLast Go.Proofs.YtfholjcelnkleaaV.PrintMore
set_option linter.unusedVariables false
set_option linter.unusedSimpArgs false
/-- Labels in order, by names and by values. -/
def setLess : List S164 → List S164 → Bool
  | [], [] => false
  | [], _ :: _ => true
  | _ :: _, [] => false
  | x :: a, y :: b => if x.f0.toList = y.f0.toList then (if x.f1.toList = y.f1.toList then setLess a b else Op.bytesLess x.f1.toList y.f1.toList) else Op.bytesLess x.f0.toList y.f0.toList
theorem implSetLess_l0 (a b : List S164) (ha : a.length < 4611686018427387904) : ∀ (sa sb pa pb : List S164), pa ++ sa = a → pb ++ sb = b → pa.length = pb.length → Ev (fun k => impl_SetLess.l0 k a b (pa.length : Int)) (setLess sa sb)
  | [], sb, pa, pb, ea, eb, hp => by
    have hl : a.length = pa.length := by rw [← ea]; simp
    have hb : b.length = pb.length + sb.length := by rw [← eb]; simp
    refine Ev.step (f := fun k => impl_SetLess.j1 k a b (pa.length : Int) false) (fun k => ?_) (Ev.step (f := fun _ => some (setLess [] sb)) (fun k => ?_) (Ev.now _))
    · simp only [impl_SetLess.l0]; rw [if_neg (by omega)]
    · simp only [impl_SetLess.j1]; rw [if_neg (by simp)]
      cases sb with
      | nil => simp only [List.length_nil] at hb; rw [decide_eq_false (by omega)]; rfl
      | cons y sb => simp only [List.length_cons] at hb; rw [decide_eq_true (by omega)]; rfl
  | x :: sa, [], pa, pb, ea, eb, hp => by
    have hl : a.length = pa.length + (sa.length + 1) := by rw [← ea]; simp
    have hb : b.length = pb.length := by rw [← eb]; simp
    refine Ev.step (f := fun k => impl_SetLess.j1 k a b (pa.length : Int) false) (fun k => ?_) (Ev.step (f := fun _ => some (setLess (x :: sa) [])) (fun k => ?_) (Ev.now _))
    · simp only [impl_SetLess.l0]; rw [if_pos (by omega), decide_eq_false (by omega)]
    · simp only [impl_SetLess.j1]; rw [if_neg (by simp), decide_eq_false (by omega)]; rfl
  | x :: sa, y :: sb, pa, pb, ea, eb, hp => by
    have hl : a.length = pa.length + (sa.length + 1) := by rw [← ea]; simp
    have hb : b.length = pb.length + (sb.length + 1) := by rw [← eb]; simp
    have ga : a.getD pa.length z164 = x := by rw [← ea]; simp
    have gb : b.getD pa.length z164 = y := by rw [← eb, hp]; simp
    have ih := implSetLess_l0 a b ha sa sb (pa ++ [x]) (pb ++ [y]) (by rw [← ea]; simp) (by rw [← eb]; simp) (by simp [hp])
    refine Ev.step (f := fun k => impl_SetLess.j1 k a b (pa.length : Int) true) (fun k => ?_) ?_
    · simp only [impl_SetLess.l0]; rw [if_pos (by omega), decide_eq_true (by omega)]
    · refine Ev.step (f := fun k => if x.f0.toList = y.f0.toList then (if x.f1.toList = y.f1.toList then impl_SetLess.l0 k a b ((pa.length + 1 : Nat) : Int) else some (Op.bytesLess x.f1.toList y.f1.toList)) else some (Op.bytesLess x.f0.toList y.f0.toList)) (fun k => ?_) ?_
      · simp only [impl_SetLess.j1]
        rw [if_pos trivial, if_pos (by omega), if_pos (by omega), if_pos (by omega), rdnLabel, rdnLabel, ga, gb, wrap_up _ (by omega)]
      · unfold setLess
        by_cases h1 : x.f0.toList = y.f0.toList
        · simp only [if_pos h1]
          by_cases h2 : x.f1.toList = y.f1.toList
          · simp only [if_pos h2]; simpa using ih
          · simp only [if_neg h2]; exact Ev.now _
        · simp only [if_neg h1]; exact Ev.now _
theorem implSetLess_ev (a b : List S164) (ha : a.length < 4611686018427387904) : Ev (fun k => impl_SetLess.f k a b) (setLess a b) := by
  unfold impl_SetLess.f
  exact implSetLess_l0 a b ha a b [] [] rfl rfl rfl
theorem specSetLess_l0 (a b : List S164) (ha : a.length < 4611686018427387904) : ∀ (sa sb pa pb : List S164), pa ++ sa = a → pb ++ sb = b → pa.length = pb.length → Ev (fun k => spec_SetLess.l0 k a b (pa.length : Int)) (setLess sa sb)
  | [], sb, pa, pb, ea, eb, hp => by
    have hl : a.length = pa.length := by rw [← ea]; simp
    have hb : b.length = pb.length + sb.length := by rw [← eb]; simp
    refine Ev.step (f := fun k => spec_SetLess.j1 k a b (pa.length : Int) false) (fun k => ?_) (Ev.step (f := fun _ => some (setLess [] sb)) (fun k => ?_) (Ev.now _))
    · simp only [spec_SetLess.l0]; rw [if_neg (by omega)]
    · simp only [spec_SetLess.j1]; rw [if_neg (by simp)]
      cases sb with
      | nil => simp only [List.length_nil] at hb; rw [decide_eq_false (by omega)]; rfl
      | cons y sb => simp only [List.length_cons] at hb; rw [decide_eq_true (by omega)]; rfl
  | x :: sa, [], pa, pb, ea, eb, hp => by
    have hl : a.length = pa.length + (sa.length + 1) := by rw [← ea]; simp
    have hb : b.length = pb.length := by rw [← eb]; simp
    refine Ev.step (f := fun k => spec_SetLess.j1 k a b (pa.length : Int) false) (fun k => ?_) (Ev.step (f := fun _ => some (setLess (x :: sa) [])) (fun k => ?_) (Ev.now _))
    · simp only [spec_SetLess.l0]; rw [if_pos (by omega), decide_eq_false (by omega)]
    · simp only [spec_SetLess.j1]; rw [if_neg (by simp), decide_eq_false (by omega)]; rfl
  | x :: sa, y :: sb, pa, pb, ea, eb, hp => by
    have hl : a.length = pa.length + (sa.length + 1) := by rw [← ea]; simp
    have hb : b.length = pb.length + (sb.length + 1) := by rw [← eb]; simp
    have ga : a.getD pa.length z164 = x := by rw [← ea]; simp
    have gb : b.getD pa.length z164 = y := by rw [← eb, hp]; simp
    have ih := specSetLess_l0 a b ha sa sb (pa ++ [x]) (pb ++ [y]) (by rw [← ea]; simp) (by rw [← eb]; simp) (by simp [hp])
    refine Ev.step (f := fun k => spec_SetLess.j1 k a b (pa.length : Int) true) (fun k => ?_) ?_
    · simp only [spec_SetLess.l0]; rw [if_pos (by omega), decide_eq_true (by omega)]
    · refine Ev.step (f := fun k => if x.f0.toList = y.f0.toList then (if x.f1.toList = y.f1.toList then spec_SetLess.l0 k a b ((pa.length + 1 : Nat) : Int) else some (Op.bytesLess x.f1.toList y.f1.toList)) else some (Op.bytesLess x.f0.toList y.f0.toList)) (fun k => ?_) ?_
      · simp only [spec_SetLess.j1, spec_Less.f, Option.bind_some]
        rw [if_pos trivial, if_pos (by omega), if_pos (by omega), if_pos (by omega), rdnLabel, rdnLabel, ga, gb, wrap_up _ (by omega)]
      · unfold setLess
        by_cases h1 : x.f0.toList = y.f0.toList
        · simp only [if_pos h1]
          by_cases h2 : x.f1.toList = y.f1.toList
          · simp only [if_pos h2]; simpa using ih
          · simp only [if_neg h2]; exact Ev.now _
        · simp only [if_neg h1]; exact Ev.now _
theorem specSetLess_ev (a b : List S164) (ha : a.length < 4611686018427387904) : Ev (fun k => spec_SetLess.f k a b) (setLess a b) := by
  unfold spec_SetLess.f
  exact specSetLess_l0 a b ha a b [] [] rfl rfl rfl
def gBit (l : List S44) (key : List S164) (b : List ByteArray) (i : Nat) : Bool := alarmOk (l.getD i z44) && (sameSet (project (l.getD i z44).f0 b) key && (decide (i = 0) || setLess (l.getD (i - 1) z44).f0 (l.getD i z44).f0))
def gStep (l : List S44) (key : List S164) (b : List ByteArray) (i : Nat) : Option Bool := if gBit l key b i = true then none else some false
theorem gStep_false (l : List S44) (key : List S164) (b : List ByteArray) (i : Nat) (r : Bool) (h : gStep l key b i = some r) : r = false := by
  unfold gStep at h
  split at h
  · cases h
  · injection h with h; exact h.symm
def keyedOk (l : List S44) (key : List S164) (b : List ByteArray) : Bool := scan (gStep l key b) true l.length 0
theorem implKeyedOk_ev (l : List S44) (key : List S164) (b : List ByteArray) (h : l.length ≤ 4000000 ∧ ∀ y ∈ l, WiAlarm y) (hb : b.length ≤ 4000000) : Ev (fun k => impl_keyedOk.f k l key b) (keyedOk l key b) := by
  have h1 := h.1
  unfold impl_keyedOk.f keyedOk
  refine scan_ev (F := fun k i => impl_keyedOk.l0 k l key b l (l.length : Int) i) (n := l.length) (fun k => ?_) (fun i hi => ?_) l.length 0 (by omega)
  · simp only [impl_keyedOk.l0]; rw [if_neg (by omega)]
  · have hy := h.2 _ (getD_mem l i z44 hi)
    have hz := h.2 _ (getD_mem l (i - 1) z44 (by omega))
    have hy1 := hy.1.1
    have hz1 := hz.1.1
    have hpl := project_length (l.getD i z44).f0 b
    obtain ⟨K1, g1⟩ := implAlarmOk_ev (l.getD i z44) hy
    obtain ⟨K2, g2⟩ := implKeyOf_ev (l.getD i z44) b hy1 (by omega)
    obtain ⟨K3, g3⟩ := implSameSet_ev (project (l.getD i z44).f0 b) key (by omega)
    obtain ⟨K4, g4⟩ := implSetLess_ev (l.getD (i - 1) z44).f0 (l.getD i z44).f0 (by omega)
    refine ⟨K1 + K2 + K3 + K4, fun k hk => ?_⟩
    have e1 := g1 k (by omega)
    have e2 := g2 k (by omega)
    have e3 := g3 k (by omega)
    have e4 := g4 k (by omega)
    simp only at e1 e2 e3 e4
    simp only [impl_keyedOk.l0]
    rw [if_pos (by omega), if_pos (by omega), if_pos (by omega), rdnAlarm, e1, Option.bind_some, e2, Option.bind_some, e3, Option.bind_some, wrap_up i (by omega)]
    unfold gStep gBit
    cases alarmOk (l.getD i z44) with
    | false => simp [goOn]
    | true =>
      cases sameSet (project (l.getD i z44).f0 b) key with
      | false => simp [goOn]
      | true =>
        by_cases h0 : i = 0
        · subst h0; simp [goOn]
        · rw [if_pos rfl, if_pos rfl, if_pos (by omega), sub1 i (by omega) (by omega), if_pos (by omega), if_pos (by omega), rdnAlarm, e4, Option.bind_some, decide_eq_false h0]
          cases setLess (l.getD (i - 1) z44).f0 (l.getD i z44).f0 <;> simp [goOn]
def groupOk (g : S75) (b : List ByteArray) : Bool := keyedOk g.f4 g.f1 b && (decide (g.f0 ≥ 0) && (setOk g.f1 && ((decide (0 ≤ g.f2) && decide (g.f2 ≤ 99999)) && ((decide (g.f3 = -1) || (decide (g.f2 ≤ g.f3) && decide (g.f3 ≤ 99999))) && decide ((g.f4.length : Int) > 0)))))
theorem implGroupOk_ev (g : S75) (b : List ByteArray) (h : WiGroup g) (hb : b.length ≤ 4000000) : Ev (fun k => impl_GroupOk.f k g.f0 g.f1 g.f2 g.f3 g.f4 b) (groupOk g b) := by
  obtain ⟨K1, g1⟩ := implSetOk_ev g.f1 h.2.1
  obtain ⟨K2, g2⟩ := implKeyedOk_ev g.f4 g.f1 b h.2.2.2.2 hb
  refine ⟨K1 + K2, fun k hk => ?_⟩
  have e1 := g1 k (by omega)
  have e2 := g2 k (by omega)
  simp only at e1 e2
  simp only [impl_GroupOk.f, e1, e2, Option.bind_some, groupOk, inEq]
  by_cases c0 : g.f0 < 0
  · simp [c0, show ¬ g.f0 ≥ 0 by omega]
  · rw [if_neg c0, decide_eq_true (show g.f0 ≥ 0 by omega)]
    cases setOk g.f1 with
    | false => simp
    | true =>
      cases (decide (0 ≤ g.f2) && decide (g.f2 ≤ 99999)) with
      | false => simp
      | true =>
        by_cases c3 : g.f3 = -1
        · simp only [c3, if_true, decide_true, Bool.true_or]
          by_cases c4 : (g.f4.length : Int) > 0
          · rw [if_pos c4, decide_eq_true c4]; simp
          · rw [if_neg c4, decide_eq_false c4]; simp
        · simp only [if_true, if_neg c3, decide_eq_false c3, Bool.false_or]
          cases (decide (g.f2 ≤ g.f3) && decide (g.f3 ≤ 99999)) with
          | false => simp
          | true =>
            simp only [if_true]
            by_cases c4 : (g.f4.length : Int) > 0
            · rw [if_pos c4, decide_eq_true c4]; simp
            · rw [if_neg c4, decide_eq_false c4]; simp
theorem specGroupOk_ev (g : S75) (b : List ByteArray) (h : WiGroup g) (hb : b.length ≤ 4000000) : Ev (fun k => spec_GroupOk.f k g.f0 g.f1 g.f2 g.f3 g.f4 b) (groupOk g b) := by
  have h1 := h.2.2.2.2.1
  have h2 := h.2.2.2.2.2
  unfold spec_GroupOk.f groupOk keyedOk
  obtain ⟨K0, g0⟩ := specSetOk_ev g.f1 h.2.1
  rw [Bool.and_comm, ← scan_end (gStep_false g.f4 g.f1 b)]
  refine scan_ev2 (F := fun k i => spec_GroupOk.l0 k b i g.f0 g.f1 g.f2 g.f3 g.f4) (n := g.f4.length) ⟨K0, fun k hk => ?_⟩ (fun i hi => ?_) g.f4.length 0 (by omega)
  · have e := g0 k hk
    simp only at e
    simp only [spec_GroupOk.l0, l1InEq, e, Option.bind_some]
    rw [if_neg (by omega)]
    by_cases c0 : g.f0 ≥ 0
    · rw [if_pos c0, decide_eq_true c0]
      cases setOk g.f1 with
      | false => simp
      | true =>
        cases (decide (0 ≤ g.f2) && decide (g.f2 ≤ 99999)) with
        | false => simp
        | true =>
          by_cases c3 : g.f3 = -1
          · simp [c3]
          · simp only [if_true, if_neg c3, decide_eq_false c3, Bool.false_or, Bool.true_and]
            cases (decide (g.f2 ≤ g.f3) && decide (g.f3 ≤ 99999)) <;> simp
    · rw [if_neg c0, decide_eq_false c0]; simp
  · have hy := h2 _ (getD_mem g.f4 i z44 hi)
    have hz := h2 _ (getD_mem g.f4 (i - 1) z44 (by omega))
    have hy1 := hy.1.1
    have hz1 := hz.1.1
    have hpl := project_length (g.f4.getD i z44).f0 b
    obtain ⟨K1, g1⟩ := specAlarmOk_ev (g.f4.getD i z44) hy
    obtain ⟨K2, g2⟩ := specKeyOf_ev (g.f4.getD i z44) b hy1 (by omega)
    obtain ⟨K3, g3⟩ := specSameSet_ev (project (g.f4.getD i z44).f0 b) g.f1 (by omega)
    obtain ⟨K4, g4⟩ := specSetLess_ev (g.f4.getD (i - 1) z44).f0 (g.f4.getD i z44).f0 (by omega)
    refine ⟨K1 + K2 + K3 + K4, fun k hk => ?_⟩
    have e1 := g1 k (by omega)
    have e2 := g2 k (by omega)
    have e3 := g3 k (by omega)
    have e4 := g4 k (by omega)
    simp only at e1 e2 e3 e4
    simp only [spec_GroupOk.l0]
    rw [if_pos (by omega), if_pos (by omega), rdnAlarm, e1, Option.bind_some, wrap_up i (by omega)]
    simp only [e2, Option.bind_some, e3]
    unfold gStep gBit
    cases alarmOk (g.f4.getD i z44) with
    | false => simp [goOn]
    | true =>
      by_cases h0 : i = 0
      · subst h0
        cases sameSet (project (g.f4.getD 0 z44).f0 b) g.f1 <;> simp [goOn]
      · rw [if_pos rfl, if_pos (by omega), sub1 i (by omega) (by omega), if_pos (by omega), if_pos (by omega), rdnAlarm, e4, Option.bind_some, decide_eq_false h0]
        cases setLess (g.f4.getD (i - 1) z44).f0 (g.f4.getD i z44).f0 <;> cases sameSet (project (g.f4.getD i z44).f0 b) g.f1 <;> simp [goOn]
end Go.Proofs.Ytfholjcelnkleaa.Print
end
section
namespace Go.Proofs.Ytfholjcelnkleaa.Print
open Go.RowKit Go.Proofs.YtfholjcelnkleaaV.PrintWords Go.Proofs.YtfholjcelnkleaaV.PrintLast Go.Proofs.YtfholjcelnkleaaV.PrintMore
attribute [local go_sem] max2_int min2_int max_two min_two max_three min_three max_four min_four
set_option linter.unusedVariables false
set_option linter.unusedSimpArgs false
set_option maxHeartbeats 8000000
set_option maxRecDepth 100000
def spec_GroupOf.l0 : Nat → List (S75) → List (S164) → Int → Option (Int)
 | 0, _, _, _ => none
 | k + 1, x0, x1, x5 => if x5 < (x0.length : Int) then (if 0 ≤ x5 then ((spec_SameSet.f k ((rd_T75 x0 x5).f1) x1).bind fun t1291 => (if t1291 = true then (some x5) else (spec_GroupOf.l0 k x0 x1 (wrap64 (x5 + 1))))) else (none)) else (some (-1))
def spec_GroupOf.f (k : Nat) (l0 : List (S75)) (l1 : List (S164)) : Option (Int) := spec_GroupOf.l0 k l0 l1 0
theorem spec_GroupOf.mono_l : ∀ k, (∀ y0 y1 y2, LeO (spec_GroupOf.l0 k y0 y1 y2) (spec_GroupOf.l0 (k + 1) y0 y1 y2))
 | 0 => fun _ _ _ r h => by simp [spec_GroupOf.l0] at h
 | k + 1 => by
  have ih0 := spec_GroupOf.mono_l k
  intro y0 y1 y2
  unfold spec_GroupOf.l0
  repeat' first
  | (with_reducible exact ih0 _ _ _)
  | (with_reducible exact spec_SameSet.mono _ _ _)
  | (with_reducible exact LeO.refl _)
  | (with_reducible exact LeO.none _)
  | (with_reducible refine LeO.ite ?_ ?_)
  | (with_reducible refine LeO.bind ?_ (fun _ => ?_))
  | exact ih0 _ _ _
  | exact spec_SameSet.mono _ _ _
theorem spec_GroupOf.mono : ∀ a0 a1 k, LeO (spec_GroupOf.f k a0 a1) (spec_GroupOf.f (k + 1) a0 a1) := by
 intro a0 a1 k
 have ih0 := spec_GroupOf.mono_l k
 unfold spec_GroupOf.f
 repeat' first
   | (with_reducible exact ih0 _ _ _)
   | (with_reducible exact spec_SameSet.mono _ _ _)
   | (with_reducible exact LeO.refl _)
   | (with_reducible exact LeO.none _)
   | (with_reducible refine LeO.ite ?_ ?_)
   | (with_reducible refine LeO.bind ?_ (fun _ => ?_))
   | exact ih0 _ _ _
   | exact spec_SameSet.mono _ _ _
theorem spec_GroupOf.calls (k : Nat) (A0 : Option Addr) (c0 : Nat) (l0 : List (S75)) (A1 : Option Addr) (c1 : Nat) (l1 : List (S164)) (r : Int) (w : World) (hr0 : Kd.C k75 w A0 l0.length l0) (hc0 : l0.length ≤ c0) (hr1 : Kd.C k164 w A1 l1.length l1) (hc1 : l1.length ≤ c1) (h : spec_GroupOf.f k l0 l1 = some r) :
  Calls Try.prog 128 #[.slice A0 l0.length c0, .slice A1 l1.length c1] w fun e w' => e = .returned (.int .i64 r) ∧ Drawn0 w w' := by
 have HR0 := Aside0.mk hr0
 have HC0 := Aside0.mk hc0
 clear hr0 hc0
 have HR1 := Aside0.mk hr1
 have HC1 := Aside0.mk hc1
 clear hr1 hc1
 have H : (spec_GroupOf.l0 k l0 l1 0) = some r := h
 clear h
 have H' := Aside0.mk H
 clear H
 go_enter Try.func128, Try.ntmps128
 go_wp2
 go_loopg [5] k (fun kq v5 w' => ∃ (x5_1 : Int), v5 = .int .i64 x5_1 ∧ Aside0 (spec_GroupOf.l0 kq l0 l1 x5_1 = some r) ∧ Aside0 (kq ≤ k) ∧ Drawn0 w w')
 case atStart => exact ⟨(0), (by first | rfl | (simp; done) | (simp [*]; done)), H', ⟨Nat.le_refl _⟩, by repeat (first | exact Drawn0.refl _ | apply Drawn0.step)⟩
 case round =>
  clear H'
  try clear c1
  try clear p2
  obtain ⟨x5_1, rfl, HA, HK1, ⟨m1, rfl⟩⟩ := hrel
  cases gk with
  | zero => exact absurd HA.out (by simp [spec_GroupOf.l0])
  | succ k1 =>
   have H := HA.out
   clear HA
   simp only [spec_GroupOf.l0] at H
   by_cases c3 : x5_1 < (l0.length : Int)
   ·
    rw [if_pos c3] at H
    have c3b0 := decide_eq_true c3
    clear c3
    by_cases c4 : 0 ≤ x5_1
    ·
     rw [if_pos c4] at H
     have c4b0 := decide_eq_true c4
     clear c4
     replace H := Option.bind_eq_some_iff.mp H
     obtain ⟨t1291, A50, H⟩ := H
     have A5 := Aside0.mk A50
     clear A50
     by_cases c6 : t1291 = true
     ·
      subst c6
      rw [if_pos rfl] at H
      obtain rfl := Option.some.inj H
      have p1290 : 0 ≤ (x5_1 : Int) := of_decide_eq_true (by with_reducible assumption)
      have q1290 : x5_1 < (l0.length : Int) := of_decide_eq_true (by with_reducible assumption)
      obtain ⟨ad1290, A1290_1, c1290_1, A1290_4, c1290_4, e1290, hx1290_0, hx1290_1, hx1290_2, hx1290_3, hx1290_4, hl1290_1, hi1290_1, hl1290_4, hi1290_4⟩ := at_T75 HR0.out x5_1 p1290 q1290
      cases e1290
      have HR1290_1 := Aside0.mk hi1290_1
      have HC1290_1 := Aside0.mk hl1290_1
      clear hi1290_1 hl1290_1
      have HR1290_4 := Aside0.mk hi1290_4
      have HC1290_4 := Aside0.mk hl1290_4
      clear hi1290_4 hl1290_4
      replace p1290 := eq_true p1290
      replace q1290 := eq_true q1290
      go_wp2_with (first | ((with_reducible refine gate_callee (f := 106) rfl ?_); refine goesL_ (some 18) rfl rfl Try.func106 (by kernel_rfl) rfl #[.slice A1290_1 ((rd_T75 l0 x5_1).f1).length c1290_1, .slice A1 l1.length c1] rfl (by (try simp only [mp_]); first | done | rfl | (simp only [List.length_drop, List.length_take]; rfl)) ?_; (with_reducible refine (spec_SameSet.calls k1 _ _ ((rd_T75 l0 x5_1).f1) _ _ l1 true _ ?side1 ?side2 ?side3 ?side4 A5.out).mono ?_); (case side1 => repeat (first | exact HR1290_1.out | (with_reducible first | refine ca_ ?_ _ | refine cn_ ?_ _ | refine cd_ ?_))); (case side2 => exact HC1290_1.out); (case side3 => repeat (first | exact HR1.out | (with_reducible first | refine ca_ ?_ _ | refine cn_ ?_ _ | refine cd_ ?_))); (case side4 => exact HC1.out); rintro e w' ⟨rfl, ⟨nd, rfl⟩⟩; refine ⟨_, rfl, ?_⟩))
      go_ret
      exact ⟨by first | rfl | (simp; done) | (simp [*]; done), by repeat (first | exact Drawn0.refl _ | apply Drawn0.step)⟩
     replace c6 := Bool.eq_false_iff.mpr c6
     subst c6
     rw [if_neg (show ¬ (false = true) by decide)] at H
     have H' := Aside0.mk H
     clear H
     have p1290 : 0 ≤ (x5_1 : Int) := of_decide_eq_true (by with_reducible assumption)
     have q1290 : x5_1 < (l0.length : Int) := of_decide_eq_true (by with_reducible assumption)
     obtain ⟨ad1290, A1290_1, c1290_1, A1290_4, c1290_4, e1290, hx1290_0, hx1290_1, hx1290_2, hx1290_3, hx1290_4, hl1290_1, hi1290_1, hl1290_4, hi1290_4⟩ := at_T75 HR0.out x5_1 p1290 q1290
     cases e1290
     have HR1290_1 := Aside0.mk hi1290_1
     have HC1290_1 := Aside0.mk hl1290_1
     clear hi1290_1 hl1290_1
     have HR1290_4 := Aside0.mk hi1290_4
     have HC1290_4 := Aside0.mk hl1290_4
     clear hi1290_4 hl1290_4
     replace p1290 := eq_true p1290
     replace q1290 := eq_true q1290
     go_wp2_with (first | ((with_reducible refine gate_callee (f := 106) rfl ?_); refine goesL_ (some 18) rfl rfl Try.func106 (by kernel_rfl) rfl #[.slice A1290_1 ((rd_T75 l0 x5_1).f1).length c1290_1, .slice A1 l1.length c1] rfl (by (try simp only [mp_]); first | done | rfl | (simp only [List.length_drop, List.length_take]; rfl)) ?_; (with_reducible refine (spec_SameSet.calls k1 _ _ ((rd_T75 l0 x5_1).f1) _ _ l1 false _ ?side1 ?side2 ?side3 ?side4 A5.out).mono ?_); (case side1 => repeat (first | exact HR1290_1.out | (with_reducible first | refine ca_ ?_ _ | refine cn_ ?_ _ | refine cd_ ?_))); (case side2 => exact HC1290_1.out); (case side3 => repeat (first | exact HR1.out | (with_reducible first | refine ca_ ?_ _ | refine cn_ ?_ _ | refine cd_ ?_))); (case side4 => exact HC1.out); rintro e w' ⟨rfl, ⟨nd, rfl⟩⟩; refine ⟨_, rfl, ?_⟩))
     go_roundg k1
     case measure => have := HK1.out; omega
     case rel => exact ⟨(wrap64 (x5_1 + 1)), (by first | rfl | (simp; done) | (simp [*]; done)), H', ⟨by have := HK1.out; omega⟩, by repeat (first | exact Drawn0.refl _ | apply Drawn0.step)⟩
    rw [if_neg c4] at H
    exact absurd H (by simp)
   rw [if_neg c3] at H
   have c3b0 : decide (x5_1 < (l0.length : Int)) = false := decide_eq_false c3
   clear c3
   obtain rfl := Option.some.inj H
   go_wp2
   go_ret
   exact ⟨by first | rfl | (simp; done) | (simp [*]; done), by repeat (first | exact Drawn0.refl _ | apply Drawn0.step)⟩
end Go.Proofs.Ytfholjcelnkleaa.Print
end
section
namespace Go.Proofs.Ytfholjcelnkleaa.Print
open Go.RowKit Go.Proofs.YtfholjcelnkleaaV.PrintWords Go.Proofs.YtfholjcelnkleaaV.PrintLast Go.Proofs.YtfholjcelnkleaaV.PrintMore
set_option linter.unusedVariables false
set_option linter.unusedSimpArgs false
theorem rdnGroup (l : List S75) (i : Nat) : rd_T75 l (i : Int) = l.getD i z75 := by unfold rd_T75; simp
def groupOf (l : List S75) (key : List S164) : Int := place (fun g => sameSet g.f1 key) l 0
theorem implGroupOf_ev (l : List S75) (key : List S164) (h : l.length ≤ 4000000 ∧ ∀ y ∈ l, WiGroup y) : Ev (fun k => impl_GroupOf.f k l key) (groupOf l key) := by
  have h1 := h.1
  unfold impl_GroupOf.f groupOf
  rw [← scan_place0 (fun g : S75 => sameSet g.f1 key) z75 l]
  refine scan_ev (F := fun k i => impl_GroupOf.l0 k key l (l.length : Int) i) (n := l.length) (fun k => ?_) (fun i hi => ?_) l.length 0 (by omega)
  · simp only [impl_GroupOf.l0]; rw [if_neg (by omega)]
  · have hw := (h.2 _ (getD_mem l i z75 hi)).2.1.1
    obtain ⟨K, g⟩ := implSameSet_ev (l.getD i z75).f1 key (by omega)
    refine ⟨K, fun k hk => ?_⟩
    have e := g k hk
    simp only at e
    simp only [impl_GroupOf.l0]
    rw [if_pos (by omega), if_pos (by omega), if_pos (by omega), rdnGroup, e, Option.bind_some, wrap_up i (by omega)]
    cases sameSet (l.getD i z75).f1 key <;> simp [goOn]
theorem specGroupOf_ev (l : List S75) (key : List S164) (h : l.length ≤ 4000000 ∧ ∀ y ∈ l, WiGroup y) : Ev (fun k => spec_GroupOf.f k l key) (groupOf l key) := by
  have h1 := h.1
  unfold spec_GroupOf.f groupOf
  rw [← scan_place0 (fun g : S75 => sameSet g.f1 key) z75 l]
  refine scan_ev (F := fun k i => spec_GroupOf.l0 k l key i) (n := l.length) (fun k => ?_) (fun i hi => ?_) l.length 0 (by omega)
  · simp only [spec_GroupOf.l0]; rw [if_neg (by omega)]
  · have hw := (h.2 _ (getD_mem l i z75 hi)).2.1.1
    obtain ⟨K, g⟩ := specSameSet_ev (l.getD i z75).f1 key (by omega)
    refine ⟨K, fun k hk => ?_⟩
    have e := g k hk
    simp only at e
    simp only [spec_GroupOf.l0]
    rw [if_pos (by omega), if_pos (by omega), rdnGroup, e, Option.bind_some, wrap_up i (by omega)]
    cases sameSet (l.getD i z75).f1 key <;> simp [goOn]
theorem place_ge {α : Type} (p : α → Bool) : ∀ (l : List α) (i : Nat), (0 ≤ place p l i) ↔ l.any p = true
  | [], i => by simp [place]
  | x :: l, i => by
    unfold place
    by_cases h : p x = true
    · rw [if_pos h]; simp [h]
    · rw [if_neg h, place_ge p l (i + 1)]; simp [h]
theorem place_lo {α : Type} (p : α → Bool) : ∀ (l : List α) (i : Nat), -1 ≤ place p l i
  | [], i => by simp [place]
  | x :: l, i => by
    unfold place
    split
    · omega
    · exact place_lo p l (i + 1)
def early (l : List S75) (i : Nat) : Bool := (l.take i).any (fun g => sameSet g.f1 (l.getD i z75).f1)
def ggBit (l : List S75) (b : List ByteArray) (i : Nat) : Bool := groupOk (l.getD i z75) b && ((decide (i = 0) || decide ((l.getD (i - 1) z75).f0 < (l.getD i z75).f0)) && !early l i)
def ggStep (l : List S75) (b : List ByteArray) (i : Nat) : Option Bool := if ggBit l b i = true then none else some false
theorem ggStep_false (l : List S75) (b : List ByteArray) (i : Nat) (r : Bool) (h : ggStep l b i = some r) : r = false := by
  unfold ggStep at h
  split at h
  · cases h
  · injection h with h; exact h.symm
def groupsOk (l : List S75) (b : List ByteArray) : Bool := decide ((l.length : Int) ≤ 12) && scan (ggStep l b) true l.length 0
theorem sameSet_refl (a : List S164) : sameSet a a = true := by unfold sameSet; simp
theorem place_at {α : Type} (p : α → Bool) (z : α) : ∀ (l : List α) (o i : Nat), i < l.length → p (l.getD i z) = true → (place p l o = ((o + i : Nat) : Int) ↔ (l.take i).any p = false)
  | [], o, i, h, _ => by simp at h
  | x :: l, o, 0, h, hp => by
    have hx : p x = true := by simpa using hp
    simp [place, hx]
  | x :: l, o, i + 1, h, hp => by
    by_cases hx : p x = true
    · rw [place, if_pos hx, List.take_succ_cons, List.any_cons, hx, Bool.true_or]
      constructor
      · intro e; omega
      · intro e; cases e
    · have ih := place_at p z l (o + 1) i (by simpa using h) (by simpa using hp)
      rw [place, if_neg hx, List.take_succ_cons, List.any_cons, Bool.eq_false_iff.2 hx, Bool.false_or, ← ih, show o + 1 + i = o + (i + 1) by omega]
theorem groupOf_at (l : List S75) (i : Nat) (h : i < l.length) : (groupOf l (l.getD i z75).f1 = (i : Int)) ↔ early l i = false := by
  have := place_at (fun g : S75 => sameSet g.f1 (l.getD i z75).f1) z75 l 0 i h (sameSet_refl _)
  simpa [groupOf, early] using this
theorem implGroupsOk_ev (l : List S75) (b : List ByteArray) (h : l.length ≤ 4000000 ∧ ∀ y ∈ l, WiGroup y) (hb : b.length ≤ 4000000) : Ev (fun k => impl_GroupsOk.f k l b) (groupsOk l b) := by
  have h1 := h.1
  have hx : groupsOk l b = scan (fun i => if 12 ≤ i then some false else ggStep l b i) true l.length 0 := by
    unfold groupsOk
    by_cases h4 : l.length ≤ 12
    · rw [decide_eq_true (show (l.length : Int) ≤ 12 by omega), Bool.true_and]
      exact scan_congr _ _ (fun j _ hj => by rw [if_neg (by omega)])
    · rw [decide_eq_false (show ¬ (l.length : Int) ≤ 12 by omega), Bool.false_and]
      exact (scan_stop (step := fun i => if 12 ≤ i then some false else ggStep l b i) (fun i r hr => by
        by_cases hi : 12 ≤ i
        · simp only [if_pos hi] at hr; injection hr with hr; exact hr.symm
        · simp only [if_neg hi] at hr; exact ggStep_false l b i r hr) l.length 0 12 (by omega) (by omega) (by simp)).symm
  rw [hx]
  unfold impl_GroupsOk.f
  refine scan_ev (F := fun k i => impl_GroupsOk.l0 k l b l (l.length : Int) i) (n := l.length) (fun k => ?_) (fun i hi => ?_) l.length 0 (by omega)
  · simp only [impl_GroupsOk.l0]; rw [if_neg (by omega)]
  · have hy := h.2 _ (getD_mem l i z75 hi)
    obtain ⟨K1, g1⟩ := implGroupOk_ev (l.getD i z75) b hy hb
    obtain ⟨K2, g2⟩ := implGroupOf_ev l (l.getD i z75).f1 h
    refine ⟨K1 + K2, fun k hk => ?_⟩
    have e1 := g1 k (by omega)
    have e2 := g2 k (by omega)
    simp only at e1 e2
    simp only [impl_GroupsOk.l0]
    rw [if_pos (by omega), if_pos (by omega), if_pos (by omega)]
    by_cases h4 : 12 ≤ i
    · rw [if_pos (by omega), if_pos h4]; rfl
    · rw [if_neg (by omega), if_neg h4, rdnGroup, e1, Option.bind_some, wrap_up i (by omega)]
      have hg := groupOf_at l i hi
      unfold ggStep ggBit
      cases groupOk (l.getD i z75) b with
      | false => simp [goOn]
      | true =>
        by_cases h0 : i = 0
        · subst h0
          rw [if_pos rfl, if_neg (by omega), e2, Option.bind_some]
          cases he : early l 0 with
          | false => rw [if_pos (by simpa using hg.2 he)]; simp [goOn]
          | true => rw [if_neg (fun q => by rw [hg.1 (by simpa using q)] at he; cases he)]; simp [goOn]
        · rw [if_pos rfl, if_pos (by omega), sub1 i (by omega) (by omega), if_pos (by omega), if_pos (by omega), rdnGroup, e2, Option.bind_some, decide_eq_false h0]
          by_cases hc : (l.getD (i - 1) z75).f0 ≥ (l.getD i z75).f0
          · rw [if_pos hc, decide_eq_false (show ¬ (l.getD (i - 1) z75).f0 < (l.getD i z75).f0 by omega)]; simp [goOn]
          · rw [if_neg hc, decide_eq_true (show (l.getD (i - 1) z75).f0 < (l.getD i z75).f0 by omega)]
            cases he : early l i with
            | false => rw [if_pos (hg.2 he)]; simp [goOn]
            | true => rw [if_neg (fun q => by rw [hg.1 q] at he; cases he)]; simp [goOn]
theorem specGroupsOk_l1 (l : List S75) (b : List ByteArray) (h : l.length ≤ 4000000 ∧ ∀ y ∈ l, WiGroup y) (i : Nat) (hi : i < l.length) (r : Bool) (hn : early l i = false → Ev (fun k => spec_GroupsOk.l0 k l b ((i + 1 : Nat) : Int)) r) (hy : early l i = true → r = false) :
    ∀ d j, d + j = i → (l.take j).any (fun g => sameSet g.f1 (l.getD i z75).f1) = false → Ev (fun k => spec_GroupsOk.l1 k l b (i : Int) (j : Int)) r
  | 0, j, e, hp => by
    have h1 := h.1
    obtain rfl : j = i := by omega
    refine Ev.step (fun k => ?_) (hn hp)
    simp only [spec_GroupsOk.l1]
    rw [if_neg (by omega), wrap_up j (by omega)]
  | d + 1, j, e, hp => by
    have h1 := h.1
    have hw := (h.2 _ (getD_mem l j z75 (by omega))).2.1.1
    have g := specSameSet_ev (l.getD j z75).f1 (l.getD i z75).f1 (by omega)
    have ht : (l.take (j + 1)).any (fun g => sameSet g.f1 (l.getD i z75).f1) = sameSet (l.getD j z75).f1 (l.getD i z75).f1 := by
      rw [List.take_succ_eq_append_getElem (by omega), List.any_append, hp, getD_eq l j z75 (by omega)]; simp
    refine Ev.step (f := fun k => (spec_SameSet.f k (l.getD j z75).f1 (l.getD i z75).f1).bind fun t => if t = true then some false else spec_GroupsOk.l1 k l b (i : Int) ((j + 1 : Nat) : Int)) (fun k => ?_) (Ev.bind g ?_)
    · simp only [spec_GroupsOk.l1]
      rw [if_pos (by omega), if_pos (by omega), if_pos (by omega), if_pos (by omega), if_pos (by omega), rdnGroup, rdnGroup, wrap_up j (by omega)]
    · cases hc : sameSet (l.getD j z75).f1 (l.getD i z75).f1 with
      | true =>
        simp only [if_true]
        rw [hy (by
          unfold early
          rw [List.any_eq_true]
          exact ⟨l.getD j z75, by rw [getD_eq l j z75 (by omega)]; exact List.mem_take_iff_getElem.2 ⟨j, by omega, rfl⟩, hc⟩)]
        exact Ev.now _
      | false =>
        simp only [Bool.false_eq_true, if_false]
        exact specGroupsOk_l1 l b h i hi r hn hy d (j + 1) (by omega) (by rw [ht, hc])
theorem specGroupsOk_l0 (l : List S75) (b : List ByteArray) (h : l.length ≤ 4000000 ∧ ∀ y ∈ l, WiGroup y) (hb : b.length ≤ 4000000) : ∀ d i, d + i = l.length → Ev (fun k => spec_GroupsOk.l0 k l b (i : Int)) (decide ((l.length : Int) ≤ 12) && scan (ggStep l b) true d i)
  | 0, i, e => by
    refine Ev.step (f := fun _ => some (decide ((l.length : Int) ≤ 12))) (fun k => ?_) (by simpa [scan] using Ev.now (decide ((l.length : Int) ≤ 12)))
    simp only [spec_GroupsOk.l0]
    rw [if_neg (by omega)]
  | d + 1, i, e => by
    have h1 := h.1
    have hi : i < l.length := by omega
    have ih := specGroupsOk_l0 l b h hb d (i + 1) (by omega)
    have g := specGroupOk_ev (l.getD i z75) b (h.2 _ (getD_mem l i z75 hi)) hb
    refine Ev.step (f := fun k => (spec_GroupOk.f k (l.getD i z75).f0 (l.getD i z75).f1 (l.getD i z75).f2 (l.getD i z75).f3 (l.getD i z75).f4 b).bind fun t => if t = true then (if i = 0 then spec_GroupsOk.j1 k l b (i : Int) false else spec_GroupsOk.j1 k l b (i : Int) (decide ((l.getD (i - 1) z75).f0 ≥ (l.getD i z75).f0))) else spec_GroupsOk.j1 k l b (i : Int) true) (fun k => ?_) (Ev.bind g ?_)
    · simp only [spec_GroupsOk.l0]
      rw [if_pos (by omega), if_pos (by omega), rdnGroup]
      by_cases h0 : i = 0
      · subst h0; simp
      · simp only [if_neg h0]
        rw [if_pos (show (i : Int) > 0 by omega), sub1 i (by omega) (by omega), if_pos (by omega), if_pos (by omega), rdnGroup]
    · have hj : ∀ c : Bool, (c = true → ggBit l b i = false) → (c = false → (ggBit l b i = true ↔ early l i = false)) → Ev (fun k => spec_GroupsOk.j1 k l b (i : Int) c) (decide ((l.length : Int) ≤ 12) && scan (ggStep l b) true (d + 1) i) := by
        intro c hc1 hc2
        cases c with
        | true =>
          refine Ev.step (f := fun _ => some false) (fun k => by simp [spec_GroupsOk.j1]) ?_
          unfold scan ggStep
          rw [hc1 rfl]
          simpa using Ev.now false
        | false =>
          have hb2 := hc2 rfl
          refine Ev.step (f := fun k => spec_GroupsOk.l1 k l b (i : Int) ((0 : Nat) : Int)) (fun k => by simp [spec_GroupsOk.j1]) ?_
          refine specGroupsOk_l1 l b h i hi _ (fun he => ?_) (fun he => ?_) i 0 (by omega) (by simp)
          · unfold scan ggStep
            rw [if_pos (hb2.2 he)]
            exact ih
          · unfold scan ggStep
            rw [if_neg (fun q => by rw [hb2.1 q] at he; cases he)]
            simp
      unfold ggBit at hj
      cases hg : groupOk (l.getD i z75) b with
      | false =>
        simp only [Bool.false_eq_true, if_false]
        exact hj true (fun _ => by rw [hg]; simp) (fun q => by cases q)
      | true =>
        simp only [if_true]
        by_cases h0 : i = 0
        · simp only [if_pos h0]
          exact hj false (fun q => by cases q) (fun _ => by rw [hg]; simp [h0])
        · simp only [if_neg h0]
          refine hj _ (fun q => ?_) (fun q => ?_)
          · rw [decide_eq_false h0, decide_eq_false (show ¬ (l.getD (i - 1) z75).f0 < (l.getD i z75).f0 by have := of_decide_eq_true q; omega)]; simp
          · rw [decide_eq_false h0, decide_eq_true (show (l.getD (i - 1) z75).f0 < (l.getD i z75).f0 by have := of_decide_eq_false q; omega), hg]; simp
theorem specGroupsOk_ev (l : List S75) (b : List ByteArray) (h : l.length ≤ 4000000 ∧ ∀ y ∈ l, WiGroup y) (hb : b.length ≤ 4000000) : Ev (fun k => spec_GroupsOk.f k l b) (groupsOk l b) := by
  unfold spec_GroupsOk.f groupsOk
  exact specGroupsOk_l0 l b h hb l.length 0 (by omega)
end Go.Proofs.Ytfholjcelnkleaa.Print
end
section
/- The law FnExactGroupsOk answers true for all arguments that can be read: the pure statement, without Go and memory. No condition. -/
namespace Go.Proofs.Ytfholjcelnkleaa.Print
open Go.RowKit Go.Proofs.YtfholjcelnkleaaV.PrintWords Go.Proofs.YtfholjcelnkleaaV.PrintLast Go.Proofs.YtfholjcelnkleaaV.PrintMore
set_option linter.unusedVariables false
set_option linter.unusedSimpArgs false
theorem pure_FnExactGroupsOk : laws_FnExactGroupsOk.Pure := by
  intro p0 p1 hp0 hp1
  obtain ⟨r0, ⟨K0, g0⟩, le0, w0⟩ := szGroupS_ev p0 hp0 1048576 (by omega) (by omega)
  simp only at g0
  by_cases c0 : r0 < 0
  · exact ⟨K0, by simp [laws_FnExactGroupsOk.f, g0 (K0) (by omega), c0]⟩
  obtain ⟨r1, ⟨K1, g1⟩, le1, w1⟩ := szStringS_ev p1 hp1 r0 (by omega) (by omega)
  simp only at g1
  by_cases c1 : r1 < 0
  · exact ⟨K0 + K1, by simp [laws_FnExactGroupsOk.f, g0 (K0 + K1) (by omega), c0, g1 (K0 + K1) (by omega), c1]⟩
  have hb := (Wi_mapString (w1 (by omega)))
  have hb1 := hb.1
  obtain ⟨L0, f0⟩ := toGroupS_ev p0 (w0 (by omega))
  obtain ⟨L1, f1⟩ := eqGroupS_ev (p0.map cvGroup) (Wi_mapGroup (w0 (by omega)))
  obtain ⟨L2, f2⟩ := toStringS_ev p1 (w1 (by omega))
  obtain ⟨L3, f3⟩ := eqStringS_ev p1 (Wi_mapString (w1 (by omega)))
  obtain ⟨L4, f4⟩ := specGroupsOk_ev (p0.map cvGroup) p1 (Wi_mapGroup (w0 (by omega))) hb1
  obtain ⟨L5, f5⟩ := implGroupsOk_ev (p0.map cvGroup) p1 (Wi_mapGroup (w0 (by omega))) hb1
  have G0 := fun m => g0 (K0 + K1 + L0 + L1 + L2 + L3 + L4 + L5 + m) (by omega)
  have G1 := fun m => g1 (K0 + K1 + L0 + L1 + L2 + L3 + L4 + L5 + m) (by omega)
  have F0 := fun m => f0 (K0 + K1 + L0 + L1 + L2 + L3 + L4 + L5 + m) (by omega)
  have F1 := fun m => f1 (K0 + K1 + L0 + L1 + L2 + L3 + L4 + L5 + m) (by omega)
  have F2 := fun m => f2 (K0 + K1 + L0 + L1 + L2 + L3 + L4 + L5 + m) (by omega)
  have F3 := fun m => f3 (K0 + K1 + L0 + L1 + L2 + L3 + L4 + L5 + m) (by omega)
  have F4 := fun m => f4 (K0 + K1 + L0 + L1 + L2 + L3 + L4 + L5 + m) (by omega)
  have F5 := fun m => f5 (K0 + K1 + L0 + L1 + L2 + L3 + L4 + L5 + m) (by omega)
  simp only at F0 F1 F2 F3 F4 F5
  exact ⟨K0 + K1 + L0 + L1 + L2 + L3 + L4 + L5 + 3, by simp [laws_FnExactGroupsOk.f, G0, G1, F0, F1, F2, F3, F4, F5, c0, c1]⟩

end Go.Proofs.Ytfholjcelnkleaa.Print
end
