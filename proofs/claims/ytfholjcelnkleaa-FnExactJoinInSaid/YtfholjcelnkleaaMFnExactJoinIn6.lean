import Derived.Test.YtfholjcelnkleaaMFnExactJoinIn1
import Derived.Test.YtfholjcelnkleaaMFnExactJoinIn5
import Derived.Test.YtfholjcelnkleaaMFnExactJoinIn4
import Derived.Test.YtfholjcelnkleaaMFnExactJoinIn2
import Derived.Test.YtfholjcelnkleaaMFnExactJoinIn3
section
namespace Go.Proofs.Ytfholjcelnkleaa.Print
open Go.RowKit Go.Proofs.YtfholjcelnkleaaV.PrintWords Go.Proofs.YtfholjcelnkleaaV.PrintLast Go.Proofs.YtfholjcelnkleaaV.PrintMore
set_option linter.unusedVariables false
/-- The pure statement of laws_FnExactJoinIn. -/
def laws_FnExactJoinIn.Pure : Prop := ∀ (a0_0 : Int) (l0_1 : List (S163)) (a0_2 : Int) (a0_3 : Int) (l0_4 : List (S34)) (l1_0 : List (S163)) (a1_1 : Int) (a1_2 : Int) (a1_3 : ByteArray), (Lit.int .i64 a0_0).wf = true → (l0_1.length ≤ maxLen ∧ ∀ y ∈ l0_1, B163 y) → (Lit.int .i64 a0_2).wf = true → (Lit.int .i64 a0_3).wf = true → (l0_4.length ≤ maxLen ∧ ∀ y ∈ l0_4, B34 y) → (l1_0.length ≤ maxLen ∧ ∀ y ∈ l1_0, B163 y) → (Lit.int .i64 a1_1).wf = true → (Lit.int .i64 a1_2).wf = true → a1_3.size ≤ maxLen → ∃ k, laws_FnExactJoinIn.f k a0_0 l0_1 a0_2 a0_3 l0_4 l1_0 a1_1 a1_2 a1_3 = some true
end Go.Proofs.Ytfholjcelnkleaa.Print
end
section
namespace Go.Proofs.Ytfholjcelnkleaa.Print
open Go.RowKit Go.Proofs.YtfholjcelnkleaaV.PrintWords Go.Proofs.YtfholjcelnkleaaV.PrintLast Go.Proofs.YtfholjcelnkleaaV.PrintMore
set_option linter.unusedVariables false
set_option linter.unusedSimpArgs false
theorem wrap_id {x : Int} (h1 : -9223372036854775808 ≤ x) (h2 : x ≤ 9223372036854775807) : wrap64 x = x := by unfold wrap64; omega
theorem wrap_up (n : Nat) (h : n < 9223372036854775807) : wrap64 ((n : Int) + 1) = ((n + 1 : Nat) : Int) := by unfold wrap64; omega
theorem set_mid {α : Type} (pre suf : List α) (y v : α) : (pre ++ y :: suf).set pre.length v = pre ++ v :: suf := by simp
theorem lt_mid {α : Type} (pre suf : List α) (y : α) : (pre.length : Int) < ((pre ++ y :: suf).length : Int) := by simp only [List.length_append, List.length_cons]; omega
theorem not_lt_end {α : Type} (pre : List α) : ¬ ((pre.length : Int) < ((pre ++ []).length : Int)) := by simp
theorem nn (n : Nat) : (0 : Int) ≤ (n : Int) := by omega
theorem mid_assoc {α : Type} (pre suf : List α) (y : α) : pre ++ y :: suf = (pre ++ [y]) ++ suf := by simp
def cvLabel (x : S163) : S164 := ⟨x.f0, x.f1⟩
def WLabel (x : S163) : Prop := x.f0.size ≤ 1048576 ∧ x.f1.size ≤ 1048576
def WiLabel (x : S164) : Prop := x.f0.size ≤ 4000000 ∧ x.f1.size ≤ 4000000
theorem Wi_cvLabel {x : S163} (h : WLabel x) : WiLabel (cvLabel x) := ⟨Nat.le_trans h.1 (by decide), Nat.le_trans h.2 (by decide)⟩
theorem szLabel_ev (x : S163) (hB : B163 x) (n : Int) (h0 : 0 ≤ n) (h1 : n ≤ 1048576) : ∃ r, Ev (fun k => laws_szLabel.f x.f0 x.f1 n) r ∧ r ≤ n ∧ (0 ≤ r → WLabel x) := by
  have q1 : x.f0.size ≤ 9223372036854775807 := hB.1
  have e1 : wrap64 (n - (x.f0.size : Int)) = n - (x.f0.size : Int) := wrap_id (by omega) (by omega)
  by_cases c1 : n - (x.f0.size : Int) < 0
  · exact ⟨-1, ⟨0, fun k hk => by simp [laws_szLabel.f, e1, c1]⟩, by omega, by omega⟩
  have q2 : x.f1.size ≤ 9223372036854775807 := hB.2
  have e2 : wrap64 ((n - (x.f0.size : Int)) - (x.f1.size : Int)) = (n - (x.f0.size : Int)) - (x.f1.size : Int) := wrap_id (by omega) (by omega)
  by_cases c2 : (n - (x.f0.size : Int)) - (x.f1.size : Int) < 0
  · exact ⟨-1, ⟨0, fun k hk => by simp [laws_szLabel.f, e1, c1, e2, c2]⟩, by omega, by omega⟩
  exact ⟨((n - (x.f0.size : Int)) - (x.f1.size : Int)), ⟨0, fun k hk => by simp [laws_szLabel.f, e1, c1, e2, c2]⟩, by omega, fun _ => ⟨(by omega), (by omega)⟩⟩
theorem toLabel_ev (x : S163) (h : WLabel x) : Ev (fun k => laws_toLabel.f x.f0 x.f1) ((cvLabel x).f0, (cvLabel x).f1) := by
  exact ⟨0, fun k hk => by simp [laws_toLabel.f, cvLabel]⟩
theorem eqLabel_ev (x : S164) (h : WiLabel x) : Ev (fun k => laws_eqLabel.f x.f0 x.f1 x.f0 x.f1) true := by
  exact ⟨0, fun k hk => by simp [laws_eqLabel.f]⟩
theorem rdmidLabell (pre suf : List S163) (y : S163) : rd_T163 (pre ++ y :: suf) (pre.length : Int) = y := by unfold rd_T163; simp
theorem rdmidLabeli (pre suf : List S164) (y : S164) : rd_T164 (pre ++ y :: suf) (pre.length : Int) = y := by unfold rd_T164; simp
theorem szLabelS_l0 : ∀ (suf pre : List S163) (n : Int), 0 ≤ n → n ≤ 1048576 → (∀ y ∈ suf, B163 y) → (pre ++ suf).length < 4611686018427387904 → ∃ r, Ev (fun k => laws_szLabelS.l0 k (pre ++ suf) n (pre.length : Int)) r ∧ r ≤ n ∧ (0 ≤ r → ∀ y ∈ suf, WLabel y)
  | [], pre, n, h0, h1, hB, h => by
    refine ⟨n, Ev.step (f := fun _ => some n) (fun k => ?_) (Ev.now _), Int.le_refl _, fun _ y hy => by cases hy⟩
    simp only [laws_szLabelS.l0]
    rw [if_neg (not_lt_end pre)]
  | y :: suf, pre, n, h0, h1, hB, h => by
    have hp : pre.length < 4611686018427387904 := by simp at h; omega
    have hy := hB y List.mem_cons_self
    obtain ⟨r1, g1, l1, w1⟩ := szLabel_ev y hy n h0 h1
    by_cases c : r1 < 0
    · refine ⟨-1, Ev.step (f := fun k => (laws_szLabel.f y.f0 y.f1 n).bind fun t => if t < 0 then some (-1) else laws_szLabelS.l0 k (pre ++ y :: suf) t (wrap64 ((pre.length : Int) + 1))) (fun k => ?_) (Ev.bind g1 ?_), by omega, by omega⟩
      · simp only [laws_szLabelS.l0]
        rw [if_pos (lt_mid pre suf y), if_pos (nn _), rdmidLabell]
      · simp only [if_pos c]
        exact Ev.now _
    · obtain ⟨r, g, hl, hw⟩ := szLabelS_l0 suf (pre ++ [y]) r1 (by omega) (by omega) (fun z hz => hB z (List.mem_cons_of_mem _ hz)) (by simpa using h)
      refine ⟨r, Ev.step (f := fun k => (laws_szLabel.f y.f0 y.f1 n).bind fun t => if t < 0 then some (-1) else laws_szLabelS.l0 k ((pre ++ [y]) ++ suf) t ((pre ++ [y]).length : Int)) (fun k => ?_) (Ev.bind g1 ?_), by omega, fun hr z hz => ?_⟩
      · simp only [laws_szLabelS.l0]
        rw [if_pos (lt_mid pre suf y), if_pos (nn _), rdmidLabell, wrap_up _ (by omega)]
        simp
      · simp only [if_neg c]
        exact g
      · rcases List.mem_cons.1 hz with rfl | hz
        · exact w1 (by omega)
        · exact hw hr z hz
theorem szLabelS_ev (l : List S163) (hB : l.length ≤ maxLen ∧ ∀ y ∈ l, B163 y) (n : Int) (h0 : 0 ≤ n) (h1 : n ≤ 1048576) : ∃ r, Ev (fun k => laws_szLabelS.f k l n) r ∧ r ≤ n ∧ (0 ≤ r → l.length ≤ 1048576 ∧ ∀ y ∈ l, WLabel y) := by
  have q : l.length ≤ 9223372036854775807 := hB.1
  have e : wrap64 (n - (l.length : Int)) = n - (l.length : Int) := wrap_id (by omega) (by omega)
  by_cases c : n - (l.length : Int) < 0
  · exact ⟨-1, ⟨0, fun k _ => by simp [laws_szLabelS.f, e, c]⟩, by omega, by omega⟩
  · obtain ⟨r, g, hl, hw⟩ := szLabelS_l0 l [] (n - (l.length : Int)) (by omega) (by omega) hB.2 (by simp; omega)
    refine ⟨r, Ev.congr (fun k => ?_) g, by omega, fun hr => ⟨by omega, hw hr⟩⟩
    unfold laws_szLabelS.f
    rw [e, if_neg c]
    rfl
theorem toLabelS_l0 : ∀ (suf pre : List S163), (pre ++ suf).length < 4611686018427387904 → (∀ y ∈ suf, WLabel y) → Ev (fun k => laws_toLabelS.l0 k (pre ++ suf) ((pre.map cvLabel) ++ List.replicate suf.length z164) (pre.length : Int)) ((pre ++ suf).map cvLabel)
  | [], pre, h, hW => by
    refine Ev.step (f := fun _ => some ((pre ++ []).map cvLabel)) (fun k => ?_) (Ev.now _)
    simp only [laws_toLabelS.l0]
    rw [if_neg (not_lt_end pre)]
    simp
  | y :: suf, pre, h, hW => by
    have hp : pre.length < 4611686018427387904 := by simp at h; omega
    have ih := toLabelS_l0 suf (pre ++ [y]) (by simpa using h) (fun z hz => hW z (List.mem_cons_of_mem _ hz))
    have g := toLabel_ev y (hW y List.mem_cons_self)
    refine Ev.step (f := fun k => (laws_toLabel.f y.f0 y.f1).bind fun t => laws_toLabelS.l0 k ((pre ++ [y]) ++ suf) ((pre.map cvLabel) ++ (⟨t.1, t.2⟩ : S164) :: List.replicate suf.length z164) ((pre ++ [y]).length : Int)) (fun k => ?_) (Ev.bind g ?_)
    · simp only [laws_toLabelS.l0]
      rw [if_pos (lt_mid pre suf y), if_pos (nn _), rdmidLabell, wrap_up _ (by omega)]
      congr 1
      funext t
      rw [if_pos (by simp; omega)]
      congr 1
      · simp
      · simp [List.replicate_succ]
      · simp
    · rw [mid_assoc pre suf y]
      have e : (pre.map cvLabel) ++ (cvLabel y) :: List.replicate suf.length z164 = ((pre ++ [y]).map cvLabel) ++ List.replicate suf.length z164 := by simp
      rw [← e] at ih
      exact ih
theorem toLabelS_ev (l : List S163) (h : l.length ≤ 1048576 ∧ ∀ y ∈ l, WLabel y) : Ev (fun k => laws_toLabelS.f k l) (l.map cvLabel) := by
  have h1 := h.1
  refine Ev.congr (fun k => ?_) (toLabelS_l0 l [] (by simp; omega) h.2)
  unfold laws_toLabelS.f
  rw [if_pos (nn l.length), Int.toNat_natCast, if_pos (by omega)]
  rfl
theorem eqLabelS_l0 : ∀ (suf pre : List S164), (pre ++ suf).length < 4611686018427387904 → (∀ y ∈ suf, WiLabel y) → Ev (fun k => laws_eqLabelS.l0 k (pre ++ suf) (pre ++ suf) (pre.length : Int)) true
  | [], pre, h, hW => by
    refine Ev.step (f := fun _ => some true) (fun k => ?_) (Ev.now _)
    simp only [laws_eqLabelS.l0]
    rw [if_neg (not_lt_end pre)]
  | y :: suf, pre, h, hW => by
    have hp : pre.length < 4611686018427387904 := by simp at h; omega
    have ih := eqLabelS_l0 suf (pre ++ [y]) (by simpa using h) (fun z hz => hW z (List.mem_cons_of_mem _ hz))
    have g := eqLabel_ev y (hW y List.mem_cons_self)
    refine Ev.step (f := fun k => (laws_eqLabel.f y.f0 y.f1 y.f0 y.f1).bind fun t => if t = true then laws_eqLabelS.l0 k ((pre ++ [y]) ++ suf) ((pre ++ [y]) ++ suf) ((pre ++ [y]).length : Int) else none) (fun k => ?_) (Ev.bind g ?_)
    · simp only [laws_eqLabelS.l0]
      rw [if_pos (lt_mid pre suf y), if_pos (nn _), if_pos (lt_mid pre suf y), rdmidLabeli, wrap_up _ (by omega)]
      simp
    · simp only [if_true]
      exact ih
theorem eqLabelS_ev (l : List S164) (h : l.length ≤ 4000000 ∧ ∀ y ∈ l, WiLabel y) : Ev (fun k => laws_eqLabelS.f k l l) true := by
  have h1 := h.1
  refine Ev.congr (fun k => ?_) (eqLabelS_l0 l [] (by simp; omega) h.2)
  unfold laws_eqLabelS.f
  rw [if_pos rfl]
  rfl
def cvAlarm (x : S34) : S44 := ⟨(x.f0.map cvLabel), x.f1, x.f2, x.f3⟩
def WAlarm (x : S34) : Prop := (x.f0.length ≤ 1048576 ∧ ∀ y ∈ x.f0, WLabel y) ∧ True ∧ True ∧ x.f3.size ≤ 1048576
def WiAlarm (x : S44) : Prop := (x.f0.length ≤ 4000000 ∧ ∀ y ∈ x.f0, WiLabel y) ∧ True ∧ True ∧ x.f3.size ≤ 4000000
theorem Wi_cvAlarm {x : S34} (h : WAlarm x) : WiAlarm (cvAlarm x) := ⟨⟨by show (List.map cvLabel x.f0).length ≤ 4000000; rw [List.length_map]; exact Nat.le_trans h.1.1 (by decide), fun y hy => by obtain ⟨z, hz, rfl⟩ := List.mem_map.1 hy; exact Wi_cvLabel (h.1.2 z hz)⟩, trivial, trivial, Nat.le_trans h.2.2.2 (by decide)⟩
theorem szAlarm_ev (x : S34) (hB : B34 x) (n : Int) (h0 : 0 ≤ n) (h1 : n ≤ 1048576) : ∃ r, Ev (fun k => laws_szAlarm.f k x.f0 x.f1 x.f2 x.f3 n) r ∧ r ≤ n ∧ (0 ≤ r → WAlarm x) := by
  obtain ⟨r1, ⟨K1, g1⟩, l1, w1⟩ := szLabelS_ev x.f0 hB.1 n (by omega) (by omega)
  by_cases c1 : r1 < 0
  · exact ⟨-1, ⟨K1, fun k hk => by simp [laws_szAlarm.f, g1 k (by omega), c1]⟩, by omega, by omega⟩
  have q2 : x.f3.size ≤ 9223372036854775807 := hB.2.2.2
  have e2 : wrap64 (r1 - (x.f3.size : Int)) = r1 - (x.f3.size : Int) := wrap_id (by omega) (by omega)
  by_cases c2 : r1 - (x.f3.size : Int) < 0
  · exact ⟨-1, ⟨K1, fun k hk => by simp [laws_szAlarm.f, g1 k (by omega), c1, e2, c2]⟩, by omega, by omega⟩
  exact ⟨(r1 - (x.f3.size : Int)), ⟨K1, fun k hk => by simp [laws_szAlarm.f, g1 k (by omega), c1, e2, c2]⟩, by omega, fun _ => ⟨(w1 (by omega)), trivial, trivial, (by omega)⟩⟩
theorem toAlarm_ev (x : S34) (h : WAlarm x) : Ev (fun k => laws_toAlarm.f k x.f0 x.f1 x.f2 x.f3) ((cvAlarm x).f0, (cvAlarm x).f1, (cvAlarm x).f2, (cvAlarm x).f3) := by
  obtain ⟨K0, g0⟩ := toLabelS_ev x.f0 h.1
  exact ⟨K0, fun k hk => by simp [laws_toAlarm.f, cvAlarm, g0 k (by omega)]⟩
theorem eqAlarm_ev (x : S44) (h : WiAlarm x) : Ev (fun k => laws_eqAlarm.f k x.f0 x.f1 x.f2 x.f3 x.f0 x.f1 x.f2 x.f3) true := by
  obtain ⟨K0, g0⟩ := eqLabelS_ev x.f0 h.1
  exact ⟨K0, fun k hk => by simp [laws_eqAlarm.f, g0 k (by omega)]⟩
theorem markText_l0 : ∀ (n : Nat) (x : Int) (acc : ByteArray), 0 ≤ x → x.toNat = n → acc.size + n < 4611686018427387904 → ∃ s, Ev (fun k => laws_markText.l0 k x acc) s := by
  intro n
  induction n using Nat.strongRecOn with
  | _ n ih =>
    intro x acc h0 hx hs
    by_cases c : x > 0
    · have e : wrap64 (Int.tdiv x 10) = x / 10 := by rw [Int.tdiv_eq_ediv_of_nonneg h0]; exact wrap_id (by omega) (by omega)
      have hz : (strOfNums [(wrap64 (48 + (Int.tmod x 10))) % 256]).size = 1 := by rw [strOfNums_size]; rfl
      have hsz : ((strOfNums [(wrap64 (48 + (Int.tmod x 10))) % 256]) ++ acc).size = 1 + acc.size := by rw [ByteArray.size_append, hz]
      obtain ⟨s, g⟩ := ih (x / 10).toNat (by omega) (x / 10) ((strOfNums [(wrap64 (48 + (Int.tmod x 10))) % 256]) ++ acc) (by omega) rfl (by rw [hsz]; omega)
      refine ⟨s, Ev.step (fun k => ?_) g⟩
      simp only [laws_markText.l0]
      rw [if_pos c, Option.bind_some, if_pos (by rw [hz]; omega), e]
    · refine ⟨(⟨#[109]⟩ : ByteArray) ++ acc, Ev.step (f := fun _ => some ((⟨#[109]⟩ : ByteArray) ++ acc)) (fun k => ?_) (Ev.now _)⟩
      simp only [laws_markText.l0]
      rw [if_neg c, if_pos (by omega)]
theorem markText_some (x : Int) (h0 : 0 ≤ x) (h1 : x < 4611686018427387904) : ∃ s, Ev (fun k => laws_markText.f k x) s := by
  by_cases c : x ≤ 0
  · exact ⟨⟨#[109, 48]⟩, 0, fun k _ => by show laws_markText.f k x = _; unfold laws_markText.f; exact if_pos c⟩
  · obtain ⟨s, g⟩ := markText_l0 x.toNat x ⟨#[]⟩ h0 rfl (by have : (⟨#[]⟩ : ByteArray).size = 0 := rfl; omega)
    exact ⟨s, Ev.congr (fun k => by show laws_markText.f k x = laws_markText.l0 k x ⟨#[]⟩; unfold laws_markText.f; exact if_neg c) g⟩
open Classical in
noncomputable def mkText (x : Int) : ByteArray := if h : ∃ s, Ev (fun k => laws_markText.f k x) s then h.choose else ⟨#[]⟩
theorem markText_ev (x : Int) (h0 : 0 ≤ x) (h1 : x < 4611686018427387904) : Ev (fun k => laws_markText.f k x) (mkText x) := by
  have h := markText_some x h0 h1
  unfold mkText
  rw [dif_pos h]
  exact h.choose_spec
def cnLabels : List S164 → Nat
  | [] => 0
  | _ :: ys => 2 + cnLabels ys
noncomputable def mkLabels : Int → List S164 → List S164
  | _, [] => []
  | k0, _ :: ys => ⟨mkText k0, mkText (k0 + 1)⟩ :: mkLabels (k0 + 2) ys
theorem cnLabels_le : ∀ (l : List S164), l.length ≤ cnLabels l
  | [] => Nat.le_refl _
  | y :: ys => by have := cnLabels_le ys; simp only [cnLabels, List.length_cons]; omega
theorem rdmmLabel (pre suf : List S164) (y : S164) : rd_T164 (pre ++ y :: suf) (pre.length : Int) = y := by unfold rd_T164; simp
theorem markLabelS_l0 : ∀ (suf pre : List S164) (k0 : Int), 0 ≤ k0 → k0 + (cnLabels suf : Int) < 4611686018427387904 → (pre ++ suf).length < 4611686018427387904 → Ev (fun k => laws_markLabelS.l0 k (pre ++ suf) k0 (pre.length : Int)) (k0 + (cnLabels suf : Int), pre ++ mkLabels k0 suf)
  | [], pre, k0, h0, h1, h => by
    refine Ev.step (f := fun _ => some (k0, pre ++ [])) (fun k => ?_) (by rw [show (k0 + (cnLabels [] : Int), pre ++ mkLabels k0 []) = (k0, pre ++ []) from by simp [cnLabels, mkLabels]]; exact Ev.now _)
    simp only [laws_markLabelS.l0]
    rw [if_neg (not_lt_end pre)]
  | y :: suf, pre, k0, h0, h1, h => by
    have hp : pre.length < 4611686018427387904 := by simp at h; omega
    have hc : cnLabels (y :: suf) = 2 + cnLabels suf := rfl
    rw [hc] at h1 ⊢
    obtain ⟨K, g⟩ := markLabelS_l0 suf (pre ++ [(⟨mkText k0, mkText (k0 + 1)⟩ : S164)]) (k0 + 2) (by omega) (by omega) (by simpa using h)
    obtain ⟨K0, g0⟩ := markText_ev k0 (by omega) (by omega)
    obtain ⟨K1, g1⟩ := markText_ev (k0 + 1) (by omega) (by omega)
    refine ⟨K + K0 + K1 + 1, fun k hk => ?_⟩
    obtain ⟨k, rfl⟩ : ∃ m, k = m + 1 := ⟨k - 1, by omega⟩
    have G := g k (by omega)
    have G0 := g0 k (by omega)
    have G1 := g1 k (by omega)
    dsimp only at G G0 G1
    have w0 : wrap64 (k0 + 1) = (k0 + 1) := (wrap_id (by omega) (by omega)).trans (by omega)
    have w1 : wrap64 ((k0 + 1) + 1) = (k0 + 2) := (wrap_id (by omega) (by omega)).trans (by omega)
    simp only [laws_markLabelS.l0]
    rw [if_pos (lt_mid pre suf y)]
    simp only [nn, if_true, rdmmLabel, Option.bind_some, Int.toNat_natCast, set_mid, wrap_up pre.length (by omega), G0, G1, w0, w1]
    have eL : pre ++ (⟨mkText k0, mkText (k0 + 1)⟩ : S164) :: suf = (pre ++ [(⟨mkText k0, mkText (k0 + 1)⟩ : S164)]) ++ suf := by simp
    have eN : ((pre.length + 1 : Nat) : Int) = ((pre ++ [(⟨mkText k0, mkText (k0 + 1)⟩ : S164)]).length : Int) := by simp
    rw [eL, eN, G]
    refine congrArg some (Prod.ext ?_ ?_)
    · simp only []; push_cast; omega
    · simp [mkLabels]
theorem markLabelS_ev (l : List S164) (k0 : Int) (h0 : 0 ≤ k0) (h1 : k0 + (cnLabels l : Int) < 4611686018427387904) : Ev (fun k => laws_markLabelS.f k l k0) (k0 + (cnLabels l : Int), mkLabels k0 l) := by
  have := cnLabels_le l
  exact Ev.congr (fun k => by unfold laws_markLabelS.f; rfl) (markLabelS_l0 l [] k0 h0 h1 (by simp; omega))
theorem heldLabelS_l0 : ∀ (suf pre : List S164) (k0 : Int), 0 ≤ k0 → k0 + (cnLabels suf : Int) < 4611686018427387904 → (pre ++ suf).length < 4611686018427387904 → Ev (fun k => laws_heldLabelS.l0 k (pre ++ mkLabels k0 suf) k0 (pre.length : Int)) (k0 + (cnLabels suf : Int))
  | [], pre, k0, h0, h1, h => by
    refine Ev.step (f := fun _ => some k0) (fun k => ?_) (by simpa [cnLabels] using Ev.now k0)
    rw [show mkLabels k0 [] = [] from rfl]
    simp only [laws_heldLabelS.l0]
    rw [if_neg (not_lt_end pre)]
  | y :: suf, pre, k0, h0, h1, h => by
    have hp : pre.length < 4611686018427387904 := by simp at h; omega
    have hc : cnLabels (y :: suf) = 2 + cnLabels suf := rfl
    rw [hc] at h1 ⊢
    obtain ⟨K, g⟩ := heldLabelS_l0 suf (pre ++ [(⟨mkText k0, mkText (k0 + 1)⟩ : S164)]) (k0 + 2) (by omega) (by omega) (by simpa using h)
    obtain ⟨K0, g0⟩ := markText_ev k0 (by omega) (by omega)
    obtain ⟨K1, g1⟩ := markText_ev (k0 + 1) (by omega) (by omega)
    refine ⟨K + K0 + K1 + 1, fun k hk => ?_⟩
    obtain ⟨k, rfl⟩ : ∃ m, k = m + 1 := ⟨k - 1, by omega⟩
    have G := g k (by omega)
    have G0 := g0 k (by omega)
    have G1 := g1 k (by omega)
    dsimp only at G G0 G1
    have w0 : wrap64 (k0 + 1) = (k0 + 1) := (wrap_id (by omega) (by omega)).trans (by omega)
    have w1 : wrap64 ((k0 + 1) + 1) = (k0 + 2) := (wrap_id (by omega) (by omega)).trans (by omega)
    rw [show mkLabels k0 (y :: suf) = ⟨mkText k0, mkText (k0 + 1)⟩ :: mkLabels (k0 + 2) suf from rfl]
    simp only [laws_heldLabelS.l0]
    rw [if_pos (lt_mid pre _ _)]
    simp only [nn, if_true, if_false, rdmmLabel, Option.bind_some, wrap_up pre.length (by omega), G0, G1, w0, w1, bne_self_eq_false, Bool.false_eq_true]
    have eL : pre ++ (⟨mkText k0, mkText (k0 + 1)⟩ : S164) :: mkLabels (k0 + 2) suf = (pre ++ [(⟨mkText k0, mkText (k0 + 1)⟩ : S164)]) ++ mkLabels (k0 + 2) suf := by simp
    have eN : ((pre.length + 1 : Nat) : Int) = ((pre ++ [(⟨mkText k0, mkText (k0 + 1)⟩ : S164)]).length : Int) := by simp
    rw [eL, eN, G]
    refine congrArg some ?_
    push_cast; omega
theorem heldLabelS_ev (l : List S164) (k0 : Int) (h0 : 0 ≤ k0) (h1 : k0 + (cnLabels l : Int) < 4611686018427387904) : Ev (fun k => laws_heldLabelS.f k (mkLabels k0 l) k0) (k0 + (cnLabels l : Int)) := by
  have := cnLabels_le l
  exact Ev.congr (fun k => by unfold laws_heldLabelS.f; rfl) (heldLabelS_l0 l [] k0 h0 h1 (by simp; omega))
def cnAlarms : List S44 → Nat
  | [] => 0
  | y :: ys => cnLabels y.f0 + 3 + cnAlarms ys
noncomputable def mkAlarms : Int → List S44 → List S44
  | _, [] => []
  | k0, y :: ys => ⟨mkLabels k0 y.f0, (k0 + (cnLabels y.f0 : Int)), (k0 + (cnLabels y.f0 : Int) + 1), mkText (k0 + (cnLabels y.f0 : Int) + 2)⟩ :: mkAlarms (k0 + (cnLabels y.f0 : Int) + 3) ys
theorem cnAlarms_le : ∀ (l : List S44), l.length ≤ cnAlarms l
  | [] => Nat.le_refl _
  | y :: ys => by have := cnAlarms_le ys; simp only [cnAlarms, List.length_cons]; omega
theorem rdmmAlarm (pre suf : List S44) (y : S44) : rd_T44 (pre ++ y :: suf) (pre.length : Int) = y := by unfold rd_T44; simp
theorem markAlarmS_l0 : ∀ (suf pre : List S44) (k0 : Int), 0 ≤ k0 → k0 + (cnAlarms suf : Int) < 4611686018427387904 → (pre ++ suf).length < 4611686018427387904 → Ev (fun k => laws_markAlarmS.l0 k (pre ++ suf) k0 (pre.length : Int)) (k0 + (cnAlarms suf : Int), pre ++ mkAlarms k0 suf)
  | [], pre, k0, h0, h1, h => by
    refine Ev.step (f := fun _ => some (k0, pre ++ [])) (fun k => ?_) (by rw [show (k0 + (cnAlarms [] : Int), pre ++ mkAlarms k0 []) = (k0, pre ++ []) from by simp [cnAlarms, mkAlarms]]; exact Ev.now _)
    simp only [laws_markAlarmS.l0]
    rw [if_neg (not_lt_end pre)]
  | y :: suf, pre, k0, h0, h1, h => by
    have hp : pre.length < 4611686018427387904 := by simp at h; omega
    have hc : cnAlarms (y :: suf) = cnLabels y.f0 + 3 + cnAlarms suf := rfl
    rw [hc] at h1 ⊢
    obtain ⟨K, g⟩ := markAlarmS_l0 suf (pre ++ [(⟨mkLabels k0 y.f0, (k0 + (cnLabels y.f0 : Int)), (k0 + (cnLabels y.f0 : Int) + 1), mkText (k0 + (cnLabels y.f0 : Int) + 2)⟩ : S44)]) (k0 + (cnLabels y.f0 : Int) + 3) (by omega) (by omega) (by simpa using h)
    obtain ⟨K0, g0⟩ := markLabelS_ev y.f0 k0 (by omega) (by omega)
    obtain ⟨K1, g1⟩ := markText_ev (k0 + (cnLabels y.f0 : Int) + 2) (by omega) (by omega)
    refine ⟨K + K0 + K1 + 1, fun k hk => ?_⟩
    obtain ⟨k, rfl⟩ : ∃ m, k = m + 1 := ⟨k - 1, by omega⟩
    have G := g k (by omega)
    have G0 := g0 k (by omega)
    have G1 := g1 k (by omega)
    dsimp only at G G0 G1
    have w1 : wrap64 ((k0 + (cnLabels y.f0 : Int)) + 1) = (k0 + (cnLabels y.f0 : Int) + 1) := (wrap_id (by omega) (by omega)).trans (by omega)
    have w2 : wrap64 ((k0 + (cnLabels y.f0 : Int) + 1) + 1) = (k0 + (cnLabels y.f0 : Int) + 2) := (wrap_id (by omega) (by omega)).trans (by omega)
    have w3 : wrap64 ((k0 + (cnLabels y.f0 : Int) + 2) + 1) = (k0 + (cnLabels y.f0 : Int) + 3) := (wrap_id (by omega) (by omega)).trans (by omega)
    simp only [laws_markAlarmS.l0]
    rw [if_pos (lt_mid pre suf y)]
    simp only [nn, if_true, rdmmAlarm, Option.bind_some, Int.toNat_natCast, set_mid, wrap_up pre.length (by omega), G0, G1, w1, w2, w3]
    have eL : pre ++ (⟨mkLabels k0 y.f0, (k0 + (cnLabels y.f0 : Int)), (k0 + (cnLabels y.f0 : Int) + 1), mkText (k0 + (cnLabels y.f0 : Int) + 2)⟩ : S44) :: suf = (pre ++ [(⟨mkLabels k0 y.f0, (k0 + (cnLabels y.f0 : Int)), (k0 + (cnLabels y.f0 : Int) + 1), mkText (k0 + (cnLabels y.f0 : Int) + 2)⟩ : S44)]) ++ suf := by simp
    have eN : ((pre.length + 1 : Nat) : Int) = ((pre ++ [(⟨mkLabels k0 y.f0, (k0 + (cnLabels y.f0 : Int)), (k0 + (cnLabels y.f0 : Int) + 1), mkText (k0 + (cnLabels y.f0 : Int) + 2)⟩ : S44)]).length : Int) := by simp
    rw [eL, eN, G]
    refine congrArg some (Prod.ext ?_ ?_)
    · simp only []; push_cast; omega
    · simp [mkAlarms]
theorem markAlarmS_ev (l : List S44) (k0 : Int) (h0 : 0 ≤ k0) (h1 : k0 + (cnAlarms l : Int) < 4611686018427387904) : Ev (fun k => laws_markAlarmS.f k l k0) (k0 + (cnAlarms l : Int), mkAlarms k0 l) := by
  have := cnAlarms_le l
  exact Ev.congr (fun k => by unfold laws_markAlarmS.f; rfl) (markAlarmS_l0 l [] k0 h0 h1 (by simp; omega))
theorem heldAlarmS_l0 : ∀ (suf pre : List S44) (k0 : Int), 0 ≤ k0 → k0 + (cnAlarms suf : Int) < 4611686018427387904 → (pre ++ suf).length < 4611686018427387904 → Ev (fun k => laws_heldAlarmS.l0 k (pre ++ mkAlarms k0 suf) k0 (pre.length : Int)) (k0 + (cnAlarms suf : Int))
  | [], pre, k0, h0, h1, h => by
    refine Ev.step (f := fun _ => some k0) (fun k => ?_) (by simpa [cnAlarms] using Ev.now k0)
    rw [show mkAlarms k0 [] = [] from rfl]
    simp only [laws_heldAlarmS.l0]
    rw [if_neg (not_lt_end pre)]
  | y :: suf, pre, k0, h0, h1, h => by
    have hp : pre.length < 4611686018427387904 := by simp at h; omega
    have hc : cnAlarms (y :: suf) = cnLabels y.f0 + 3 + cnAlarms suf := rfl
    rw [hc] at h1 ⊢
    obtain ⟨K, g⟩ := heldAlarmS_l0 suf (pre ++ [(⟨mkLabels k0 y.f0, (k0 + (cnLabels y.f0 : Int)), (k0 + (cnLabels y.f0 : Int) + 1), mkText (k0 + (cnLabels y.f0 : Int) + 2)⟩ : S44)]) (k0 + (cnLabels y.f0 : Int) + 3) (by omega) (by omega) (by simpa using h)
    obtain ⟨K0, g0⟩ := heldLabelS_ev y.f0 k0 (by omega) (by omega)
    obtain ⟨K1, g1⟩ := markText_ev (k0 + (cnLabels y.f0 : Int) + 2) (by omega) (by omega)
    refine ⟨K + K0 + K1 + 1, fun k hk => ?_⟩
    obtain ⟨k, rfl⟩ : ∃ m, k = m + 1 := ⟨k - 1, by omega⟩
    have G := g k (by omega)
    have G0 := g0 k (by omega)
    have G1 := g1 k (by omega)
    dsimp only at G G0 G1
    have w1 : wrap64 ((k0 + (cnLabels y.f0 : Int)) + 1) = (k0 + (cnLabels y.f0 : Int) + 1) := (wrap_id (by omega) (by omega)).trans (by omega)
    have w2 : wrap64 ((k0 + (cnLabels y.f0 : Int) + 1) + 1) = (k0 + (cnLabels y.f0 : Int) + 2) := (wrap_id (by omega) (by omega)).trans (by omega)
    have w3 : wrap64 ((k0 + (cnLabels y.f0 : Int) + 2) + 1) = (k0 + (cnLabels y.f0 : Int) + 3) := (wrap_id (by omega) (by omega)).trans (by omega)
    have n0 : ¬ (k0 + (cnLabels y.f0 : Int) < 0) := by omega
    rw [show mkAlarms k0 (y :: suf) = ⟨mkLabels k0 y.f0, (k0 + (cnLabels y.f0 : Int)), (k0 + (cnLabels y.f0 : Int) + 1), mkText (k0 + (cnLabels y.f0 : Int) + 2)⟩ :: mkAlarms (k0 + (cnLabels y.f0 : Int) + 3) suf from rfl]
    simp only [laws_heldAlarmS.l0]
    rw [if_pos (lt_mid pre _ _)]
    simp only [nn, if_true, if_false, rdmmAlarm, Option.bind_some, wrap_up pre.length (by omega), G0, G1, w1, w2, w3, n0, bne_self_eq_false, Bool.false_eq_true]
    have eL : pre ++ (⟨mkLabels k0 y.f0, (k0 + (cnLabels y.f0 : Int)), (k0 + (cnLabels y.f0 : Int) + 1), mkText (k0 + (cnLabels y.f0 : Int) + 2)⟩ : S44) :: mkAlarms (k0 + (cnLabels y.f0 : Int) + 3) suf = (pre ++ [(⟨mkLabels k0 y.f0, (k0 + (cnLabels y.f0 : Int)), (k0 + (cnLabels y.f0 : Int) + 1), mkText (k0 + (cnLabels y.f0 : Int) + 2)⟩ : S44)]) ++ mkAlarms (k0 + (cnLabels y.f0 : Int) + 3) suf := by simp
    have eN : ((pre.length + 1 : Nat) : Int) = ((pre ++ [(⟨mkLabels k0 y.f0, (k0 + (cnLabels y.f0 : Int)), (k0 + (cnLabels y.f0 : Int) + 1), mkText (k0 + (cnLabels y.f0 : Int) + 2)⟩ : S44)]).length : Int) := by simp
    rw [eL, eN, G]
    refine congrArg some ?_
    push_cast; omega
theorem heldAlarmS_ev (l : List S44) (k0 : Int) (h0 : 0 ≤ k0) (h1 : k0 + (cnAlarms l : Int) < 4611686018427387904) : Ev (fun k => laws_heldAlarmS.f k (mkAlarms k0 l) k0) (k0 + (cnAlarms l : Int)) := by
  have := cnAlarms_le l
  exact Ev.congr (fun k => by unfold laws_heldAlarmS.f; rfl) (heldAlarmS_l0 l [] k0 h0 h1 (by simp; omega))
theorem cnLabels_eq : ∀ l : List S164, cnLabels l = 2 * l.length
  | [] => rfl
  | y :: ys => by have := cnLabels_eq ys; simp only [cnLabels, List.length_cons]; omega
theorem cnLabels_wi {l : List S164} (h : l.length ≤ 4000000 ∧ ∀ y ∈ l, WiLabel y) : cnLabels l ≤ 8000000 := by have := h.1; rw [cnLabels_eq]; omega
theorem cnAlarms_le2 : ∀ l : List S44, (∀ y ∈ l, WiAlarm y) → cnAlarms l ≤ l.length * 8000003
  | [], _ => Nat.le_refl _
  | y :: ys, h => by
    have h1 := cnAlarms_le2 ys (fun z hz => h z (List.mem_cons_of_mem _ hz))
    have h2 := cnLabels_wi (h y List.mem_cons_self).1
    simp only [cnAlarms, List.length_cons]
    omega
theorem cnAlarms_wi {l : List S44} (h : l.length ≤ 4000000 ∧ ∀ y ∈ l, WiAlarm y) : cnAlarms l ≤ 40000000000000 := by
  have h1 := cnAlarms_le2 l h.2
  have h2 := Nat.mul_le_mul_right 8000003 h.1
  omega
theorem rdmidAlarml (pre suf : List S34) (y : S34) : rd_T34 (pre ++ y :: suf) (pre.length : Int) = y := by unfold rd_T34; simp
theorem rdmidAlarmi (pre suf : List S44) (y : S44) : rd_T44 (pre ++ y :: suf) (pre.length : Int) = y := by unfold rd_T44; simp
theorem szAlarmS_l0 : ∀ (suf pre : List S34) (n : Int), 0 ≤ n → n ≤ 1048576 → (∀ y ∈ suf, B34 y) → (pre ++ suf).length < 4611686018427387904 → ∃ r, Ev (fun k => laws_szAlarmS.l0 k (pre ++ suf) n (pre.length : Int)) r ∧ r ≤ n ∧ (0 ≤ r → ∀ y ∈ suf, WAlarm y)
  | [], pre, n, h0, h1, hB, h => by
    refine ⟨n, Ev.step (f := fun _ => some n) (fun k => ?_) (Ev.now _), Int.le_refl _, fun _ y hy => by cases hy⟩
    simp only [laws_szAlarmS.l0]
    rw [if_neg (not_lt_end pre)]
  | y :: suf, pre, n, h0, h1, hB, h => by
    have hp : pre.length < 4611686018427387904 := by simp at h; omega
    have hy := hB y List.mem_cons_self
    obtain ⟨r1, g1, l1, w1⟩ := szAlarm_ev y hy n h0 h1
    by_cases c : r1 < 0
    · refine ⟨-1, Ev.step (f := fun k => (laws_szAlarm.f k y.f0 y.f1 y.f2 y.f3 n).bind fun t => if t < 0 then some (-1) else laws_szAlarmS.l0 k (pre ++ y :: suf) t (wrap64 ((pre.length : Int) + 1))) (fun k => ?_) (Ev.bind g1 ?_), by omega, by omega⟩
      · simp only [laws_szAlarmS.l0]
        rw [if_pos (lt_mid pre suf y), if_pos (nn _), rdmidAlarml]
      · simp only [if_pos c]
        exact Ev.now _
    · obtain ⟨r, g, hl, hw⟩ := szAlarmS_l0 suf (pre ++ [y]) r1 (by omega) (by omega) (fun z hz => hB z (List.mem_cons_of_mem _ hz)) (by simpa using h)
      refine ⟨r, Ev.step (f := fun k => (laws_szAlarm.f k y.f0 y.f1 y.f2 y.f3 n).bind fun t => if t < 0 then some (-1) else laws_szAlarmS.l0 k ((pre ++ [y]) ++ suf) t ((pre ++ [y]).length : Int)) (fun k => ?_) (Ev.bind g1 ?_), by omega, fun hr z hz => ?_⟩
      · simp only [laws_szAlarmS.l0]
        rw [if_pos (lt_mid pre suf y), if_pos (nn _), rdmidAlarml, wrap_up _ (by omega)]
        simp
      · simp only [if_neg c]
        exact g
      · rcases List.mem_cons.1 hz with rfl | hz
        · exact w1 (by omega)
        · exact hw hr z hz
theorem szAlarmS_ev (l : List S34) (hB : l.length ≤ maxLen ∧ ∀ y ∈ l, B34 y) (n : Int) (h0 : 0 ≤ n) (h1 : n ≤ 1048576) : ∃ r, Ev (fun k => laws_szAlarmS.f k l n) r ∧ r ≤ n ∧ (0 ≤ r → l.length ≤ 1048576 ∧ ∀ y ∈ l, WAlarm y) := by
  have q : l.length ≤ 9223372036854775807 := hB.1
  have e : wrap64 (n - (l.length : Int)) = n - (l.length : Int) := wrap_id (by omega) (by omega)
  by_cases c : n - (l.length : Int) < 0
  · exact ⟨-1, ⟨0, fun k _ => by simp [laws_szAlarmS.f, e, c]⟩, by omega, by omega⟩
  · obtain ⟨r, g, hl, hw⟩ := szAlarmS_l0 l [] (n - (l.length : Int)) (by omega) (by omega) hB.2 (by simp; omega)
    refine ⟨r, Ev.congr (fun k => ?_) g, by omega, fun hr => ⟨by omega, hw hr⟩⟩
    unfold laws_szAlarmS.f
    rw [e, if_neg c]
    rfl
theorem toAlarmS_l0 : ∀ (suf pre : List S34), (pre ++ suf).length < 4611686018427387904 → (∀ y ∈ suf, WAlarm y) → Ev (fun k => laws_toAlarmS.l0 k (pre ++ suf) ((pre.map cvAlarm) ++ List.replicate suf.length z44) (pre.length : Int)) ((pre ++ suf).map cvAlarm)
  | [], pre, h, hW => by
    refine Ev.step (f := fun _ => some ((pre ++ []).map cvAlarm)) (fun k => ?_) (Ev.now _)
    simp only [laws_toAlarmS.l0]
    rw [if_neg (not_lt_end pre)]
    simp
  | y :: suf, pre, h, hW => by
    have hp : pre.length < 4611686018427387904 := by simp at h; omega
    have ih := toAlarmS_l0 suf (pre ++ [y]) (by simpa using h) (fun z hz => hW z (List.mem_cons_of_mem _ hz))
    have g := toAlarm_ev y (hW y List.mem_cons_self)
    refine Ev.step (f := fun k => (laws_toAlarm.f k y.f0 y.f1 y.f2 y.f3).bind fun t => laws_toAlarmS.l0 k ((pre ++ [y]) ++ suf) ((pre.map cvAlarm) ++ (⟨t.1, t.2.1, t.2.2.1, t.2.2.2⟩ : S44) :: List.replicate suf.length z44) ((pre ++ [y]).length : Int)) (fun k => ?_) (Ev.bind g ?_)
    · simp only [laws_toAlarmS.l0]
      rw [if_pos (lt_mid pre suf y), if_pos (nn _), rdmidAlarml, wrap_up _ (by omega)]
      congr 1
      funext t
      rw [if_pos (by simp; omega)]
      congr 1
      · simp
      · simp [List.replicate_succ]
      · simp
    · rw [mid_assoc pre suf y]
      have e : (pre.map cvAlarm) ++ (cvAlarm y) :: List.replicate suf.length z44 = ((pre ++ [y]).map cvAlarm) ++ List.replicate suf.length z44 := by simp
      rw [← e] at ih
      exact ih
theorem toAlarmS_ev (l : List S34) (h : l.length ≤ 1048576 ∧ ∀ y ∈ l, WAlarm y) : Ev (fun k => laws_toAlarmS.f k l) (l.map cvAlarm) := by
  have h1 := h.1
  refine Ev.congr (fun k => ?_) (toAlarmS_l0 l [] (by simp; omega) h.2)
  unfold laws_toAlarmS.f
  rw [if_pos (nn l.length), Int.toNat_natCast, if_pos (by omega)]
  rfl
theorem eqAlarmS_l0 : ∀ (suf pre : List S44), (pre ++ suf).length < 4611686018427387904 → (∀ y ∈ suf, WiAlarm y) → Ev (fun k => laws_eqAlarmS.l0 k (pre ++ suf) (pre ++ suf) (pre.length : Int)) true
  | [], pre, h, hW => by
    refine Ev.step (f := fun _ => some true) (fun k => ?_) (Ev.now _)
    simp only [laws_eqAlarmS.l0]
    rw [if_neg (not_lt_end pre)]
  | y :: suf, pre, h, hW => by
    have hp : pre.length < 4611686018427387904 := by simp at h; omega
    have ih := eqAlarmS_l0 suf (pre ++ [y]) (by simpa using h) (fun z hz => hW z (List.mem_cons_of_mem _ hz))
    have g := eqAlarm_ev y (hW y List.mem_cons_self)
    refine Ev.step (f := fun k => (laws_eqAlarm.f k y.f0 y.f1 y.f2 y.f3 y.f0 y.f1 y.f2 y.f3).bind fun t => if t = true then laws_eqAlarmS.l0 k ((pre ++ [y]) ++ suf) ((pre ++ [y]) ++ suf) ((pre ++ [y]).length : Int) else none) (fun k => ?_) (Ev.bind g ?_)
    · simp only [laws_eqAlarmS.l0]
      rw [if_pos (lt_mid pre suf y), if_pos (nn _), if_pos (lt_mid pre suf y), rdmidAlarmi, wrap_up _ (by omega)]
      simp
    · simp only [if_true]
      exact ih
theorem eqAlarmS_ev (l : List S44) (h : l.length ≤ 4000000 ∧ ∀ y ∈ l, WiAlarm y) : Ev (fun k => laws_eqAlarmS.f k l l) true := by
  have h1 := h.1
  refine Ev.congr (fun k => ?_) (eqAlarmS_l0 l [] (by simp; omega) h.2)
  unfold laws_eqAlarmS.f
  rw [if_pos rfl]
  rfl
def cvGroup (x : S69) : S75 := ⟨x.f0, (x.f1.map cvLabel), x.f2, x.f3, (x.f4.map cvAlarm)⟩
def WGroup (x : S69) : Prop := True ∧ (x.f1.length ≤ 1048576 ∧ ∀ y ∈ x.f1, WLabel y) ∧ True ∧ True ∧ (x.f4.length ≤ 1048576 ∧ ∀ y ∈ x.f4, WAlarm y)
def WiGroup (x : S75) : Prop := True ∧ (x.f1.length ≤ 4000000 ∧ ∀ y ∈ x.f1, WiLabel y) ∧ True ∧ True ∧ (x.f4.length ≤ 4000000 ∧ ∀ y ∈ x.f4, WiAlarm y)
theorem Wi_cvGroup {x : S69} (h : WGroup x) : WiGroup (cvGroup x) := ⟨trivial, ⟨by show (List.map cvLabel x.f1).length ≤ 4000000; rw [List.length_map]; exact Nat.le_trans h.2.1.1 (by decide), fun y hy => by obtain ⟨z, hz, rfl⟩ := List.mem_map.1 hy; exact Wi_cvLabel (h.2.1.2 z hz)⟩, trivial, trivial, ⟨by show (List.map cvAlarm x.f4).length ≤ 4000000; rw [List.length_map]; exact Nat.le_trans h.2.2.2.2.1 (by decide), fun y hy => by obtain ⟨z, hz, rfl⟩ := List.mem_map.1 hy; exact Wi_cvAlarm (h.2.2.2.2.2 z hz)⟩⟩
theorem szGroup_ev (x : S69) (hB : B69 x) (n : Int) (h0 : 0 ≤ n) (h1 : n ≤ 1048576) : ∃ r, Ev (fun k => laws_szGroup.f k x.f0 x.f1 x.f2 x.f3 x.f4 n) r ∧ r ≤ n ∧ (0 ≤ r → WGroup x) := by
  obtain ⟨r1, ⟨K1, g1⟩, l1, w1⟩ := szLabelS_ev x.f1 hB.2.1 n (by omega) (by omega)
  by_cases c1 : r1 < 0
  · exact ⟨-1, ⟨K1, fun k hk => by simp [laws_szGroup.f, g1 k (by omega), c1]⟩, by omega, by omega⟩
  obtain ⟨r2, ⟨K2, g2⟩, l2, w2⟩ := szAlarmS_ev x.f4 hB.2.2.2.2 r1 (by omega) (by omega)
  by_cases c2 : r2 < 0
  · exact ⟨-1, ⟨K1 + K2, fun k hk => by simp [laws_szGroup.f, g1 k (by omega), c1, g2 k (by omega), c2]⟩, by omega, by omega⟩
  exact ⟨r2, ⟨K1 + K2, fun k hk => by simp [laws_szGroup.f, g1 k (by omega), c1, g2 k (by omega), c2]⟩, by omega, fun _ => ⟨trivial, (w1 (by omega)), trivial, trivial, (w2 (by omega))⟩⟩
theorem toGroup_ev (x : S69) (h : WGroup x) : Ev (fun k => laws_toGroup.f k x.f0 x.f1 x.f2 x.f3 x.f4) ((cvGroup x).f0, (cvGroup x).f1, (cvGroup x).f2, (cvGroup x).f3, (cvGroup x).f4) := by
  obtain ⟨K1, g1⟩ := toLabelS_ev x.f1 h.2.1
  obtain ⟨K4, g4⟩ := toAlarmS_ev x.f4 h.2.2.2.2
  exact ⟨K1 + K4, fun k hk => by simp [laws_toGroup.f, cvGroup, g1 k (by omega), g4 k (by omega)]⟩
theorem eqGroup_ev (x : S75) (h : WiGroup x) : Ev (fun k => laws_eqGroup.f k x.f0 x.f1 x.f2 x.f3 x.f4 x.f0 x.f1 x.f2 x.f3 x.f4) true := by
  obtain ⟨K1, g1⟩ := eqLabelS_ev x.f1 h.2.1
  obtain ⟨K4, g4⟩ := eqAlarmS_ev x.f4 h.2.2.2.2
  exact ⟨K1 + K4, fun k hk => by simp [laws_eqGroup.f, g1 k (by omega), g4 k (by omega)]⟩
/-- A loop that goes on or stops with an answer. -/
def scan {ρ : Type} (step : Nat → Option ρ) (fin : ρ) : Nat → Nat → ρ
  | 0, _ => fin
  | d + 1, i => match step i with
    | some r => r
    | none => scan step fin d (i + 1)
/-- What one round does. -/
def goOn {ρ : Type} (o : Option ρ) (next : Option ρ) : Option ρ := match o with
  | some r => some r
  | none => next
theorem scan_ev2 {ρ : Type} {F : Nat → Int → Option ρ} {n : Nat} {step : Nat → Option ρ} {fin : ρ} (hend : ∃ K, ∀ k, K ≤ k → F (k + 1) (n : Int) = some fin)
    (hstep : ∀ i, i < n → ∃ K, ∀ k, K ≤ k → F (k + 1) (i : Int) = goOn (step i) (F k ((i + 1 : Nat) : Int))) : ∀ d i, d + i = n → Ev (fun k => F k (i : Int)) (scan step fin d i)
  | 0, i, h => by
    obtain rfl : i = n := by omega
    obtain ⟨K, hK⟩ := hend
    refine ⟨K + 1, fun k hk => ?_⟩
    obtain ⟨m, rfl⟩ : ∃ m, k = m + 1 := ⟨k - 1, by omega⟩
    exact hK m (by omega)
  | d + 1, i, h => by
    obtain ⟨K, hK⟩ := hstep i (by omega)
    unfold scan
    cases hs : step i with
    | some r =>
      refine ⟨K + 1, fun k hk => ?_⟩
      obtain ⟨m, rfl⟩ : ∃ m, k = m + 1 := ⟨k - 1, by omega⟩
      have := hK m (by omega)
      rw [hs] at this
      exact this
    | none =>
      obtain ⟨K', hK'⟩ := scan_ev2 hend hstep d (i + 1) (by omega)
      refine ⟨max K K' + 1, fun k hk => ?_⟩
      obtain ⟨m, rfl⟩ : ∃ m, k = m + 1 := ⟨k - 1, by omega⟩
      have := hK m (by omega)
      rw [hs] at this
      exact this.trans (hK' m (by omega))
theorem scan_ev {ρ : Type} {F : Nat → Int → Option ρ} {n : Nat} {step : Nat → Option ρ} {fin : ρ} (hend : ∀ k, F (k + 1) (n : Int) = some fin)
    (hstep : ∀ i, i < n → ∃ K, ∀ k, K ≤ k → F (k + 1) (i : Int) = goOn (step i) (F k ((i + 1 : Nat) : Int))) : ∀ d i, d + i = n → Ev (fun k => F k (i : Int)) (scan step fin d i) := scan_ev2 ⟨0, fun k _ => hend k⟩ hstep
theorem scan_congr {ρ : Type} {s s' : Nat → Option ρ} {f : ρ} : ∀ d i, (∀ j, i ≤ j → j < i + d → s j = s' j) → scan s f d i = scan s' f d i
  | 0, _, _ => rfl
  | d + 1, i, h => by
    unfold scan
    rw [h i (Nat.le_refl _) (by omega)]
    cases s' i with
    | some r => rfl
    | none => exact scan_congr d (i + 1) (fun j h1 h2 => h j (by omega) (by omega))
/-- Two lists of one length, element by element. -/
theorem scan_same {α β : Type} [DecidableEq β] (f : α → β) (z : α) : ∀ (a b pa pb : List α), a.length = b.length → pa.length = pb.length →
    scan (fun i => if f ((pa ++ a).getD i z) = f ((pb ++ b).getD i z) then none else some false) true a.length pa.length = decide (a.map f = b.map f)
  | [], [], pa, pb, _, _ => by simp [scan]
  | [], _ :: _, _, _, h, _ => by simp at h
  | _ :: _, [], _, _, h, _ => by simp at h
  | x :: a, y :: b, pa, pb, h, h2 => by
    have ih := scan_same f z a b (pa ++ [x]) (pb ++ [y]) (by simpa using h) (by simp [h2])
    simp only [List.append_assoc, List.singleton_append, List.length_append, List.length_singleton] at ih
    simp only [List.length_cons, scan]
    rw [show (pa ++ x :: a).getD pa.length z = x by simp, show (pb ++ y :: b).getD pa.length z = y by rw [h2]; simp]
    by_cases he : f x = f y
    · simp only [if_pos he]; rw [ih]; simp [he]
    · simp [he]
theorem scan_same0 {α β : Type} [DecidableEq β] (f : α → β) (z : α) (a b : List α) (h : a.length = b.length) : scan (fun i => if f (a.getD i z) = f (b.getD i z) then none else some false) true a.length 0 = decide (a.map f = b.map f) := scan_same f z a b [] [] h rfl
/-- The place of the first that is so, or -1. -/
def place {α : Type} (p : α → Bool) : List α → Nat → Int
  | [], _ => -1
  | x :: l, i => if p x = true then (i : Int) else place p l (i + 1)
theorem scan_place {α : Type} (p : α → Bool) (z : α) : ∀ (suf pre : List α), scan (fun i => if p ((pre ++ suf).getD i z) = true then some (i : Int) else none) (-1) suf.length pre.length = place p suf pre.length
  | [], pre => by simp [scan, place]
  | y :: suf, pre => by
    have ih := scan_place p z suf (pre ++ [y])
    simp only [List.append_assoc, List.singleton_append, List.length_append, List.length_singleton] at ih
    simp only [List.length_cons, scan, place]
    rw [show (pre ++ y :: suf).getD pre.length z = y by simp]
    by_cases hp : p y = true
    · simp [hp]
    · simp only [if_neg hp]; exact ih
theorem scan_place0 {α : Type} (p : α → Bool) (z : α) (l : List α) : scan (fun i => if p (l.getD i z) = true then some (i : Int) else none) (-1) l.length 0 = place p l 0 := scan_place p z l []
theorem getD_eq {α : Type} (l : List α) (i : Nat) (z : α) (h : i < l.length) : l.getD i z = l[i] := by simp [List.getD_eq_getElem?_getD, List.getElem?_eq_getElem h]
theorem getD_mem {α : Type} (l : List α) (i : Nat) (z : α) (h : i < l.length) : l.getD i z ∈ l := by rw [getD_eq l i z h]; exact List.getElem_mem h
theorem rdnLabel (l : List S164) (i : Nat) : rd_T164 l (i : Int) = l.getD i z164 := by unfold rd_T164; simp
theorem rdnAlarm (l : List S44) (i : Nat) : rd_T44 l (i : Int) = l.getD i z44 := by unfold rd_T44; simp
/-- A label as two lists of bytes; an alarm as what it holds. -/
def lab (x : S164) : List UInt8 × List UInt8 := (x.f0.toList, x.f1.toList)
def sameSet (a b : List S164) : Bool := decide (a.map lab = b.map lab)
theorem map_ne_of_length {α β : Type} {f : α → β} {a b : List α} (h : ¬ a.length = b.length) : ¬ (a.map f = b.map f) := fun e => h (by simpa using congrArg List.length e)
theorem labNe (x y : S164) : ((!(x.f0.toList == y.f0.toList) || (!(x.f1.toList == y.f1.toList))) = true) ↔ ¬ lab x = lab y := by
  unfold lab
  simp only [Prod.mk.injEq, Bool.or_eq_true, Bool.not_eq_true', beq_eq_false_iff_ne]
  constructor
  · rintro (h | h) ⟨h1, h2⟩
    · exact h h1
    · exact h h2
  · intro h
    by_cases h1 : x.f0.toList = y.f0.toList
    · exact .inr fun h2 => h ⟨h1, h2⟩
    · exact .inl h1
theorem implSameSet_ev (a b : List S164) (h : a.length < 4611686018427387904) : Ev (fun k => impl_SameSet.f k a b) (sameSet a b) := by
  unfold impl_SameSet.f sameSet
  by_cases hl : a.length = b.length
  · simp only [if_pos (show (a.length : Int) = (b.length : Int) by omega)]
    rw [← scan_same0 lab z164 a b hl]
    refine scan_ev (F := fun k i => impl_SameSet.l0 k a b (a.length : Int) i) (n := a.length) (fun k => ?_) (fun i hi => ⟨0, fun k _ => ?_⟩) a.length 0 (by omega)
    · simp only [impl_SameSet.l0]; rw [if_neg (by omega)]
    · simp only [impl_SameSet.l0]
      rw [if_pos (by omega), if_pos (by omega), if_pos (by omega), if_pos (by omega), rdnLabel, rdnLabel, wrap_up i (by omega)]
      by_cases hc : lab (a.getD i z164) = lab (b.getD i z164)
      · rw [if_neg (fun e => (labNe _ _).1 e hc), if_pos hc]; rfl
      · rw [if_pos ((labNe _ _).2 hc), if_neg hc]; rfl
  · simp only [if_neg (show ¬ (a.length : Int) = (b.length : Int) by omega), decide_eq_false (map_ne_of_length hl)]
    exact Ev.now _
theorem specSameSet_ev (a b : List S164) (h : a.length < 4611686018427387904) : Ev (fun k => spec_SameSet.f k a b) (sameSet a b) := by
  unfold spec_SameSet.f sameSet
  by_cases hl : a.length = b.length
  · simp only [if_pos (show (a.length : Int) = (b.length : Int) by omega)]
    rw [← scan_same0 lab z164 a b hl]
    refine scan_ev (F := fun k i => spec_SameSet.l0 k a b i) (n := a.length) (fun k => ?_) (fun i hi => ⟨0, fun k _ => ?_⟩) a.length 0 (by omega)
    · simp only [spec_SameSet.l0]; rw [if_neg (by omega)]
    · simp only [spec_SameSet.l0]
      rw [if_pos (by omega), if_pos (by omega), if_pos (by omega), rdnLabel, rdnLabel, wrap_up i (by omega)]
      by_cases hc : lab (a.getD i z164) = lab (b.getD i z164)
      · rw [if_neg (fun e => (labNe _ _).1 e hc), if_pos hc]; rfl
      · rw [if_pos ((labNe _ _).2 hc), if_neg hc]; rfl
  · simp only [if_neg (show ¬ (a.length : Int) = (b.length : Int) by omega), decide_eq_false (map_ne_of_length hl)]
    exact Ev.now _
def labelsAt (l : List S44) (s : List S164) : Int := place (fun a => sameSet a.f0 s) l 0
theorem implLabelsAt_ev (l : List S44) (s : List S164) (h : l.length ≤ 4000000 ∧ ∀ y ∈ l, WiAlarm y) : Ev (fun k => impl_labelsAt.f k l s) (labelsAt l s) := by
  have h1 := h.1
  unfold impl_labelsAt.f labelsAt
  rw [← scan_place0 (fun a : S44 => sameSet a.f0 s) z44 l]
  refine scan_ev (F := fun k i => impl_labelsAt.l0 k s l (l.length : Int) i) (n := l.length) (fun k => ?_) (fun i hi => ?_) l.length 0 (by omega)
  · simp only [impl_labelsAt.l0]; rw [if_neg (by omega)]
  · have hw := (h.2 _ (getD_mem l i z44 hi)).1.1
    obtain ⟨K, g⟩ := implSameSet_ev (l.getD i z44).f0 s (by omega)
    refine ⟨K, fun k hk => ?_⟩
    have e := g k hk
    simp only at e
    simp only [impl_labelsAt.l0]
    rw [if_pos (by omega), if_pos (by omega), if_pos (by omega), rdnAlarm, e, Option.bind_some, wrap_up i (by omega)]
    cases sameSet (l.getD i z44).f0 s <;> simp [goOn]
/-- Labels in order, by names and by values. -/
def setLess : List S164 → List S164 → Bool
  | [], [] => false
  | [], _ :: _ => true
  | _ :: _, [] => false
  | x :: a, y :: b => if x.f0.toList = y.f0.toList then (if x.f1.toList = y.f1.toList then setLess a b else Op.bytesLess x.f1.toList y.f1.toList) else Op.bytesLess x.f0.toList y.f0.toList
theorem implSetLess_l0 (a b : List S164) (ha : a.length < 4611686018427387904) : ∀ (sa sb pa pb : List S164), pa ++ sa = a → pb ++ sb = b → pa.length = pb.length → Ev (fun k => impl_SetLess.l0 k a b (pa.length : Int)) (setLess sa sb)
  | [], sb, pa, pb, ea, eb, hp => by
    have hl : a.length = pa.length := by rw [← ea]; simp
    have hb : b.length = pb.length + sb.length := by rw [← eb]; simp
    refine Ev.step (f := fun k => impl_SetLess.j1 k a b (pa.length : Int) false) (fun k => ?_) (Ev.step (f := fun _ => some (setLess [] sb)) (fun k => ?_) (Ev.now _))
    · simp only [impl_SetLess.l0]; rw [if_neg (by omega)]
    · simp only [impl_SetLess.j1]; rw [if_neg (by simp)]
      cases sb with
      | nil => simp only [List.length_nil] at hb; rw [decide_eq_false (by omega)]; rfl
      | cons y sb => simp only [List.length_cons] at hb; rw [decide_eq_true (by omega)]; rfl
  | x :: sa, [], pa, pb, ea, eb, hp => by
    have hl : a.length = pa.length + (sa.length + 1) := by rw [← ea]; simp
    have hb : b.length = pb.length := by rw [← eb]; simp
    refine Ev.step (f := fun k => impl_SetLess.j1 k a b (pa.length : Int) false) (fun k => ?_) (Ev.step (f := fun _ => some (setLess (x :: sa) [])) (fun k => ?_) (Ev.now _))
    · simp only [impl_SetLess.l0]; rw [if_pos (by omega), decide_eq_false (by omega)]
    · simp only [impl_SetLess.j1]; rw [if_neg (by simp), decide_eq_false (by omega)]; rfl
  | x :: sa, y :: sb, pa, pb, ea, eb, hp => by
    have hl : a.length = pa.length + (sa.length + 1) := by rw [← ea]; simp
    have hb : b.length = pb.length + (sb.length + 1) := by rw [← eb]; simp
    have ga : a.getD pa.length z164 = x := by rw [← ea]; simp
    have gb : b.getD pa.length z164 = y := by rw [← eb, hp]; simp
    have ih := implSetLess_l0 a b ha sa sb (pa ++ [x]) (pb ++ [y]) (by rw [← ea]; simp) (by rw [← eb]; simp) (by simp [hp])
    refine Ev.step (f := fun k => impl_SetLess.j1 k a b (pa.length : Int) true) (fun k => ?_) ?_
    · simp only [impl_SetLess.l0]; rw [if_pos (by omega), decide_eq_true (by omega)]
    · refine Ev.step (f := fun k => if x.f0.toList = y.f0.toList then (if x.f1.toList = y.f1.toList then impl_SetLess.l0 k a b ((pa.length + 1 : Nat) : Int) else some (Op.bytesLess x.f1.toList y.f1.toList)) else some (Op.bytesLess x.f0.toList y.f0.toList)) (fun k => ?_) ?_
      · simp only [impl_SetLess.j1]
        rw [if_pos trivial, if_pos (by omega), if_pos (by omega), if_pos (by omega), rdnLabel, rdnLabel, ga, gb, wrap_up _ (by omega)]
      · unfold setLess
        by_cases h1 : x.f0.toList = y.f0.toList
        · simp only [if_pos h1]
          by_cases h2 : x.f1.toList = y.f1.toList
          · simp only [if_pos h2]; simpa using ih
          · simp only [if_neg h2]; exact Ev.now _
        · simp only [if_neg h1]; exact Ev.now _
theorem implSetLess_ev (a b : List S164) (ha : a.length < 4611686018427387904) : Ev (fun k => impl_SetLess.f k a b) (setLess a b) := by
  unfold impl_SetLess.f
  exact implSetLess_l0 a b ha a b [] [] rfl rfl rfl
theorem specSetLess_l0 (a b : List S164) (ha : a.length < 4611686018427387904) : ∀ (sa sb pa pb : List S164), pa ++ sa = a → pb ++ sb = b → pa.length = pb.length → Ev (fun k => spec_SetLess.l0 k a b (pa.length : Int)) (setLess sa sb)
  | [], sb, pa, pb, ea, eb, hp => by
    have hl : a.length = pa.length := by rw [← ea]; simp
    have hb : b.length = pb.length + sb.length := by rw [← eb]; simp
    refine Ev.step (f := fun k => spec_SetLess.j1 k a b (pa.length : Int) false) (fun k => ?_) (Ev.step (f := fun _ => some (setLess [] sb)) (fun k => ?_) (Ev.now _))
    · simp only [spec_SetLess.l0]; rw [if_neg (by omega)]
    · simp only [spec_SetLess.j1]; rw [if_neg (by simp)]
      cases sb with
      | nil => simp only [List.length_nil] at hb; rw [decide_eq_false (by omega)]; rfl
      | cons y sb => simp only [List.length_cons] at hb; rw [decide_eq_true (by omega)]; rfl
  | x :: sa, [], pa, pb, ea, eb, hp => by
    have hl : a.length = pa.length + (sa.length + 1) := by rw [← ea]; simp
    have hb : b.length = pb.length := by rw [← eb]; simp
    refine Ev.step (f := fun k => spec_SetLess.j1 k a b (pa.length : Int) false) (fun k => ?_) (Ev.step (f := fun _ => some (setLess (x :: sa) [])) (fun k => ?_) (Ev.now _))
    · simp only [spec_SetLess.l0]; rw [if_pos (by omega), decide_eq_false (by omega)]
    · simp only [spec_SetLess.j1]; rw [if_neg (by simp), decide_eq_false (by omega)]; rfl
  | x :: sa, y :: sb, pa, pb, ea, eb, hp => by
    have hl : a.length = pa.length + (sa.length + 1) := by rw [← ea]; simp
    have hb : b.length = pb.length + (sb.length + 1) := by rw [← eb]; simp
    have ga : a.getD pa.length z164 = x := by rw [← ea]; simp
    have gb : b.getD pa.length z164 = y := by rw [← eb, hp]; simp
    have ih := specSetLess_l0 a b ha sa sb (pa ++ [x]) (pb ++ [y]) (by rw [← ea]; simp) (by rw [← eb]; simp) (by simp [hp])
    refine Ev.step (f := fun k => spec_SetLess.j1 k a b (pa.length : Int) true) (fun k => ?_) ?_
    · simp only [spec_SetLess.l0]; rw [if_pos (by omega), decide_eq_true (by omega)]
    · refine Ev.step (f := fun k => if x.f0.toList = y.f0.toList then (if x.f1.toList = y.f1.toList then spec_SetLess.l0 k a b ((pa.length + 1 : Nat) : Int) else some (Op.bytesLess x.f1.toList y.f1.toList)) else some (Op.bytesLess x.f0.toList y.f0.toList)) (fun k => ?_) ?_
      · simp only [spec_SetLess.j1, spec_Less.f, Option.bind_some]
        rw [if_pos trivial, if_pos (by omega), if_pos (by omega), if_pos (by omega), rdnLabel, rdnLabel, ga, gb, wrap_up _ (by omega)]
      · unfold setLess
        by_cases h1 : x.f0.toList = y.f0.toList
        · simp only [if_pos h1]
          by_cases h2 : x.f1.toList = y.f1.toList
          · simp only [if_pos h2]; simpa using ih
          · simp only [if_neg h2]; exact Ev.now _
        · simp only [if_neg h1]; exact Ev.now _
theorem specSetLess_ev (a b : List S164) (ha : a.length < 4611686018427387904) : Ev (fun k => spec_SetLess.f k a b) (setLess a b) := by
  unfold spec_SetLess.f
  exact specSetLess_l0 a b ha a b [] [] rfl rfl rfl
theorem specL4Copy_ev (x : S44) (h : x.f0.length ≤ 5000000) : spec_l4Copy.f x.f0 x.f1 x.f2 x.f3 = some (x.f0, x.f1, x.f2, x.f3) := by
  simp only [spec_l4Copy.f, Option.bind_some, List.nil_append, List.length_nil]
  exact if_pos (by omega)
theorem implCopySet_ev (l : List S164) (h : l.length ≤ 5000000) : impl_copySet.f l = some l := by
  simp only [impl_copySet.f, List.nil_append, List.length_nil]
  exact if_pos (by omega)
theorem implCopyAlarm_ev (x : S44) (h : x.f0.length ≤ 5000000) : impl_copyAlarm.f x.f0 x.f1 x.f2 x.f3 = some (x.f0, x.f1, x.f2, x.f3) := by
  simp only [impl_copyAlarm.f, implCopySet_ev x.f0 h, Option.bind_some]
theorem specL4All_l0 : ∀ (suf pre : List S44), (pre ++ suf).length ≤ 5000000 → (∀ y ∈ suf, y.f0.length ≤ 5000000) → Ev (fun k => spec_l4All.l0 k (pre ++ suf) pre (pre.length : Int)) (pre ++ suf)
  | [], pre, h, hW => by
    refine Ev.step (f := fun _ => some (pre ++ [])) (fun k => ?_) (Ev.now _)
    simp only [spec_l4All.l0]
    rw [if_neg (not_lt_end pre), List.append_nil]
  | y :: suf, pre, h, hW => by
    have ih := specL4All_l0 suf (pre ++ [y]) (by simpa using h) (fun z hz => hW z (List.mem_cons_of_mem _ hz))
    have hp : pre.length < 5000000 := by simp at h; omega
    refine Ev.step (f := fun k => spec_l4All.l0 k ((pre ++ [y]) ++ suf) (pre ++ [y]) ((pre ++ [y]).length : Int)) (fun k => ?_) (by rw [mid_assoc pre suf y]; exact ih)
    simp only [spec_l4All.l0]
    rw [if_pos (lt_mid pre suf y)]
    simp only [nn, if_true, rdmmAlarm, specL4Copy_ev y (hW y List.mem_cons_self), Option.bind_some, wrap_up pre.length (by omega)]
    rw [if_pos (by omega)]
    congr 1
    · simp
    · simp
theorem specL4All_ev (l : List S44) (h : l.length ≤ 5000000) (hW : ∀ y ∈ l, y.f0.length ≤ 5000000) : Ev (fun k => spec_l4All.f k l) l :=
  Ev.congr (fun k => by unfold spec_l4All.f; rfl) (specL4All_l0 l [] (by simpa using h) hW)
theorem implCopyAlarms_l0 : ∀ (suf pre : List S44), (pre ++ suf).length ≤ 5000000 → (∀ y ∈ suf, y.f0.length ≤ 5000000) → Ev (fun k => impl_copyAlarms.l0 k pre (pre ++ suf) ((pre ++ suf).length : Int) (pre.length : Int)) (pre ++ suf)
  | [], pre, h, hW => by
    refine Ev.step (f := fun _ => some (pre ++ [])) (fun k => ?_) (Ev.now _)
    simp only [impl_copyAlarms.l0]
    rw [if_neg (by simp), List.append_nil]
  | y :: suf, pre, h, hW => by
    have ih := implCopyAlarms_l0 suf (pre ++ [y]) (by simpa using h) (fun z hz => hW z (List.mem_cons_of_mem _ hz))
    have hp : pre.length < 5000000 := by simp at h; omega
    refine Ev.step (f := fun k => impl_copyAlarms.l0 k (pre ++ [y]) ((pre ++ [y]) ++ suf) (((pre ++ [y]) ++ suf).length : Int) ((pre ++ [y]).length : Int)) (fun k => ?_) (by rw [mid_assoc pre suf y]; exact ih)
    simp only [impl_copyAlarms.l0]
    rw [if_pos (lt_mid pre suf y)]
    simp only [nn, if_true, rdmmAlarm, implCopyAlarm_ev y (hW y List.mem_cons_self), Option.bind_some, wrap_up pre.length (by omega)]
    rw [if_pos (lt_mid pre suf y), if_pos (by omega)]
    congr 1
    · simp
    · simp
    · simp
theorem implCopyAlarms_ev (l : List S44) (h : l.length ≤ 5000000) (hW : ∀ y ∈ l, y.f0.length ≤ 5000000) : Ev (fun k => impl_copyAlarms.f k l) l :=
  Ev.congr (fun k => by unfold impl_copyAlarms.f; rfl) (implCopyAlarms_l0 l [] (by simpa using h) hW)
theorem scan_map {ρ σ : Type} (h : ρ → σ) (step : Nat → Option ρ) (fin : ρ) : ∀ d i, scan (fun i => (step i).map h) (h fin) d i = h (scan step fin d i)
  | 0, i => rfl
  | d + 1, i => by
    unfold scan
    cases hs : step i with
    | some r => rfl
    | none => exact scan_map h step fin d (i + 1)
/-- Where the alarm goes: ahead of the first one that it is less than. -/
def insAt (l : List S44) (a : S44) (i : Nat) : List S44 := (l.take i ++ [a]) ++ l.drop i
def insStep (l : List S44) (a : S44) (i : Nat) : Option (List S44) := if setLess a.f0 (l.getD i z44).f0 = true then some (insAt l a i) else none
def ins (l : List S44) (a : S44) : List S44 := scan (insStep l a) (insAt l a l.length) l.length 0
def putL (l : List S44) (a : S44) (t : Int) : List S44 := if t ≥ 0 then l.set t.toNat a else ins l a
def joinIn (g : S75) (a : S44) : S75 := ⟨g.f0, g.f1, g.f2, g.f3, putL g.f4 a (labelsAt g.f4 a.f0)⟩
theorem place_hi {α : Type} (p : α → Bool) : ∀ (l : List α) (i : Nat), place p l i < (i : Int) + (l.length : Int) + (if l.length = 0 then 1 else 0)
  | [], i => by simp only [place, List.length_nil, if_true]; omega
  | x :: l, i => by
    unfold place
    simp only [List.length_cons]
    split
    · rw [if_neg (by omega)]; omega
    · have := place_hi p l (i + 1)
      rw [if_neg (by omega)]
      by_cases c : l.length = 0
      · rw [if_pos c] at this
        have hl : l = [] := List.eq_nil_of_length_eq_zero c
        subst hl
        simp only [place]; omega
      · rw [if_neg c] at this; omega
theorem labelsAt_lt (l : List S44) (s : List S164) (h : labelsAt l s ≥ 0) : labelsAt l s < (l.length : Int) := by
  have := place_hi (fun a : S44 => sameSet a.f0 s) l 0
  unfold labelsAt at *
  by_cases c : l.length = 0
  · have hl : l = [] := List.eq_nil_of_length_eq_zero c
    subst hl; simp [place] at h
  · rw [if_neg c] at this; omega
theorem insAt_length (l : List S44) (a : S44) (i : Nat) : (insAt l a i).length = l.length + 1 := by
  unfold insAt; simp only [List.length_append, List.length_take, List.length_drop, List.length_singleton]; omega
theorem insAt_mem {l : List S44} {a : S44} {i : Nat} {y : S44} (h : y ∈ insAt l a i) : y ∈ l ∨ y = a := by
  unfold insAt at h
  rcases List.mem_append.1 h with h | h
  · rcases List.mem_append.1 h with h | h
    · exact .inl (List.mem_of_mem_take h)
    · exact .inr (List.mem_singleton.1 h)
  · exact .inl (List.mem_of_mem_drop h)
theorem scan_or {ρ : Type} (Q : ρ → Prop) {step : Nat → Option ρ} {fin : ρ} (hf : Q fin) (hs : ∀ i r, step i = some r → Q r) : ∀ d i, Q (scan step fin d i)
  | 0, _ => hf
  | d + 1, i => by
    unfold scan
    cases h : step i with
    | some r => exact hs i r h
    | none => exact scan_or Q hf hs d (i + 1)
theorem ins_ok (l : List S44) (a : S44) : (ins l a).length = l.length + 1 ∧ ∀ y ∈ ins l a, y ∈ l ∨ y = a :=
  scan_or (fun r => r.length = l.length + 1 ∧ ∀ y ∈ r, y ∈ l ∨ y = a) ⟨insAt_length l a _, fun y hy => insAt_mem hy⟩ (fun i r h => by
    unfold insStep at h
    by_cases c : setLess a.f0 (l.getD i z44).f0 = true
    · rw [if_pos c] at h; cases h; exact ⟨insAt_length l a _, fun y hy => insAt_mem hy⟩
    · rw [if_neg c] at h; cases h) _ _
theorem putL_ok (l : List S44) (a : S44) (t : Int) : (putL l a t).length ≤ l.length + 1 ∧ ∀ y ∈ putL l a t, y ∈ l ∨ y = a := by
  unfold putL
  by_cases c : t ≥ 0
  · rw [if_pos c]; exact ⟨by rw [List.length_set]; omega, fun y hy => List.mem_or_eq_of_mem_set hy⟩
  · rw [if_neg c]; exact ⟨by rw [(ins_ok l a).1]; omega, (ins_ok l a).2⟩
theorem joinIn_wi {g : S75} {a : S44} (hl : g.f4.length ≤ 1048576) (h : WiGroup g) (ha : WiAlarm a) : WiGroup (joinIn g a) := by
  obtain ⟨h1, h2⟩ := putL_ok g.f4 a (labelsAt g.f4 a.f0)
  refine ⟨trivial, h.2.1, trivial, trivial, by show (putL g.f4 a (labelsAt g.f4 a.f0)).length ≤ 4000000; omega, fun y hy => ?_⟩
  rcases h2 y hy with h3 | rfl
  · exact h.2.2.2.2.2 y h3
  · exact ha
theorem toNat_nat (i : Nat) : ((i : Int)).toNat = i := Int.toNat_natCast i
theorem okA {l : List S44} (h : l.length ≤ 4000000 ∧ ∀ y ∈ l, WiAlarm y) : l.length ≤ 5000000 ∧ ∀ y ∈ l, y.f0.length ≤ 5000000 := ⟨by omega, fun y hy => Nat.le_trans (h.2 y hy).1.1 (by decide)⟩
/-- Behind the place: what is ahead of it, the alarm, what is behind it. -/
theorem specBehind_ev {σ : Type} (F : List S44 → σ) (l : List S44) (a : S44) (i : Nat) (hi : i ≤ l.length) (h : l.length ≤ 4000000 ∧ ∀ y ∈ l, WiAlarm y) : Ev (fun k => (spec_l4All.f k (l.take (i : Int).toNat)).bind fun t => (if t.length < 2513169434916 then ((some (t ++ [(⟨a.f0, a.f1, a.f2, a.f3⟩ : S44)] : List S44)).bind fun y => ((spec_l4All.f k (l.drop (i : Int).toNat)).bind fun t2 => (if y.length + t2.length < 2513169434916 then (some (F (y ++ t2))) else none))) else none)) (F (insAt l a i)) := by
  obtain ⟨o1, o2⟩ := okA h
  obtain ⟨K1, g1⟩ := specL4All_ev (l.take i) (by rw [List.length_take]; omega) (fun y hy => o2 y (List.mem_of_mem_take hy))
  obtain ⟨K2, g2⟩ := specL4All_ev (l.drop i) (by rw [List.length_drop]; omega) (fun y hy => o2 y (List.mem_of_mem_drop hy))
  refine ⟨K1 + K2, fun k hk => ?_⟩
  have e1 := g1 k (by omega)
  have e2 := g2 k (by omega)
  simp only at e1 e2
  simp only [toNat_nat, e1, Option.bind_some]
  rw [if_pos (by rw [List.length_take]; omega), e2]
  simp only [Option.bind_some]
  rw [if_pos (by simp only [List.length_append, List.length_take, List.length_drop, List.length_singleton]; omega)]
  rfl
theorem implBehind_ev (l : List S44) (a : S44) (i : Nat) (hi : i ≤ l.length) (h : l.length ≤ 4000000 ∧ ∀ y ∈ l, WiAlarm y) (ha : WiAlarm a) : Ev (fun k => (impl_copyAlarms.f k (l.take (i : Int).toNat)).bind fun t => ((impl_copyAlarm.f a.f0 a.f1 a.f2 a.f3).bind fun b => (if t.length < 2513169434916 then ((some (t ++ [(⟨b.1, b.2.1, b.2.2.1, b.2.2.2⟩ : S44)] : List S44)).bind fun y => ((impl_copyAlarms.f k (l.drop (i : Int).toNat)).bind fun t2 => (if y.length + t2.length < 2513169434916 then (some (y ++ t2)) else none))) else none))) (insAt l a i) := by
  obtain ⟨o1, o2⟩ := okA h
  obtain ⟨K1, g1⟩ := implCopyAlarms_ev (l.take i) (by rw [List.length_take]; omega) (fun y hy => o2 y (List.mem_of_mem_take hy))
  obtain ⟨K2, g2⟩ := implCopyAlarms_ev (l.drop i) (by rw [List.length_drop]; omega) (fun y hy => o2 y (List.mem_of_mem_drop hy))
  refine ⟨K1 + K2, fun k hk => ?_⟩
  have e1 := g1 k (by omega)
  have e2 := g2 k (by omega)
  simp only at e1 e2
  simp only [toNat_nat, e1, Option.bind_some, implCopyAlarm_ev a (Nat.le_trans ha.1.1 (by decide))]
  rw [if_pos (by rw [List.length_take]; omega), e2]
  simp only [Option.bind_some]
  rw [if_pos (by simp only [List.length_append, List.length_take, List.length_drop, List.length_singleton]; omega)]
  rfl
theorem implInserted_ev (l : List S44) (a : S44) (h : l.length ≤ 4000000 ∧ ∀ y ∈ l, WiAlarm y) (ha : WiAlarm a) : Ev (fun k => impl_inserted.f k l a.f0 a.f1 a.f2 a.f3) (ins l a) := by
  have h1 := h.1
  unfold impl_inserted.f ins
  refine scan_ev2 (F := fun k i => impl_inserted.l0 k l i a.f0 a.f1 a.f2 a.f3) (n := l.length) ?_ (fun i hi => ?_) l.length 0 (by omega)
  · obtain ⟨K, g⟩ := implBehind_ev l a l.length (Nat.le_refl _) h ha
    refine ⟨K, fun k hk => ?_⟩
    have e := g k hk
    simp only at e
    simp only [impl_inserted.l0]
    rw [if_neg (by omega), if_pos (by omega), if_pos (by omega)]
    exact e
  · obtain ⟨K1, g1⟩ := implSetLess_ev a.f0 (l.getD i z44).f0 (by have := ha.1.1; omega)
    obtain ⟨K2, g2⟩ := implBehind_ev l a i (by omega) h ha
    refine ⟨K1 + K2, fun k hk => ?_⟩
    have e1 := g1 k (by omega)
    have e2 := g2 k (by omega)
    simp only at e1 e2
    simp only [impl_inserted.l0]
    rw [if_pos (by omega), if_pos (by omega), rdnAlarm, e1]
    simp only [Option.bind_some]
    unfold insStep
    by_cases c : setLess a.f0 (l.getD i z44).f0 = true
    · rw [if_pos c, if_pos c, if_pos (by omega)]; exact e2
    · rw [if_neg c, if_neg c, wrap_up i (by omega)]; rfl
theorem implJoinIn_ev (g : S75) (a : S44) (h : WiGroup g) (ha : WiAlarm a) : Ev (fun k => impl_JoinIn.f k g.f0 g.f1 g.f2 g.f3 g.f4 a.f0 a.f1 a.f2 a.f3) ((joinIn g a).f0, (joinIn g a).f1, (joinIn g a).f2, (joinIn g a).f3, (joinIn g a).f4) := by
  have hl := h.2.2.2.2
  obtain ⟨o1, o2⟩ := okA hl
  obtain ⟨K1, g1⟩ := implCopyAlarms_ev g.f4 o1 o2
  obtain ⟨K2, g2⟩ := implLabelsAt_ev g.f4 a.f0 hl
  obtain ⟨K3, g3⟩ := implInserted_ev g.f4 a hl ha
  refine ⟨K1 + K2 + K3, fun k hk => ?_⟩
  have e1 := g1 k (by omega)
  have e2 := g2 k (by omega)
  have e3 := g3 k (by omega)
  simp only at e1 e2 e3
  have hlt := labelsAt_lt g.f4 a.f0
  unfold joinIn putL
  simp only [impl_JoinIn.f, impl_copyGroup.f, implCopySet_ev g.f1 (Nat.le_trans h.2.1.1 (by decide)), Option.bind_some, e1, e2, e3, implCopyAlarm_ev a (Nat.le_trans ha.1.1 (by decide))]
  by_cases c : labelsAt g.f4 a.f0 ≥ 0
  · rw [if_pos c, if_pos c, if_pos c, if_pos (hlt c)]
  · rw [if_neg c, if_neg c]
theorem putL_scan (l : List S44) (a : S44) : putL l a (labelsAt l a.f0) = scan (fun i => if sameSet (l.getD i z44).f0 a.f0 = true then some (l.set i a) else none) (ins l a) l.length 0 := by
  unfold labelsAt
  rw [← scan_place0 (fun y : S44 => sameSet y.f0 a.f0) z44 l, ← scan_map (putL l a)]
  have e0 : putL l a (-1) = ins l a := by unfold putL; rw [if_neg (by omega)]
  rw [e0]
  refine scan_congr _ _ (fun j _ _ => ?_)
  by_cases c : sameSet (l.getD j z44).f0 a.f0 = true
  · simp only [if_pos c, Option.map_some]; unfold putL; rw [if_pos (by omega), toNat_nat]
  · simp only [if_neg c, Option.map_none]
theorem specJoinIn_l1 (g : S75) (a : S44) (h : WiGroup g) (ha : WiAlarm a) : Ev (fun k => spec_JoinIn.l1 k 0 g.f0 g.f1 g.f2 g.f3 g.f4 a.f0 a.f1 a.f2 a.f3 g.f0 g.f1 g.f2 g.f3 g.f4 a.f0 a.f1 a.f2 a.f3) (g.f0, g.f1, g.f2, g.f3, ins g.f4 a) := by
  have hl := h.2.2.2.2
  have h1 := hl.1
  unfold ins
  rw [← scan_map (fun r : List S44 => (g.f0, g.f1, g.f2, g.f3, r))]
  refine scan_ev2 (F := fun k i => spec_JoinIn.l1 k i g.f0 g.f1 g.f2 g.f3 g.f4 a.f0 a.f1 a.f2 a.f3 g.f0 g.f1 g.f2 g.f3 g.f4 a.f0 a.f1 a.f2 a.f3) (n := g.f4.length) ?_ (fun i hi => ?_) g.f4.length 0 (by omega)
  · obtain ⟨K, g1⟩ := specBehind_ev (fun r : List S44 => (g.f0, g.f1, g.f2, g.f3, r)) g.f4 a g.f4.length (Nat.le_refl _) hl
    refine ⟨K, fun k hk => ?_⟩
    have e := g1 k hk
    simp only at e
    simp only [spec_JoinIn.l1]
    rw [if_neg (by omega), if_pos (by omega), if_pos (by omega)]
    exact e
  · obtain ⟨K1, g1⟩ := specSetLess_ev a.f0 (g.f4.getD i z44).f0 (by have := ha.1.1; omega)
    obtain ⟨K2, g2⟩ := specBehind_ev (fun r : List S44 => (g.f0, g.f1, g.f2, g.f3, r)) g.f4 a i (by omega) hl
    refine ⟨K1 + K2, fun k hk => ?_⟩
    have e1 := g1 k (by omega)
    have e2 := g2 k (by omega)
    simp only at e1 e2
    simp only [spec_JoinIn.l1]
    rw [if_pos (by omega), if_pos (by omega), rdnAlarm, e1]
    simp only [Option.bind_some]
    unfold insStep
    by_cases c : setLess a.f0 (g.f4.getD i z44).f0 = true
    · rw [if_pos c, if_pos c, if_pos (by omega)]; exact e2
    · rw [if_neg c, if_neg c, wrap_up i (by omega)]; rfl
theorem specJoinIn_ev (g : S75) (a : S44) (h : WiGroup g) (ha : WiAlarm a) : Ev (fun k => spec_JoinIn.f k g.f0 g.f1 g.f2 g.f3 g.f4 a.f0 a.f1 a.f2 a.f3) ((joinIn g a).f0, (joinIn g a).f1, (joinIn g a).f2, (joinIn g a).f3, (joinIn g a).f4) := by
  have hl := h.2.2.2.2
  have h1 := hl.1
  obtain ⟨o1, o2⟩ := okA hl
  obtain ⟨K1, g1⟩ := specL4All_ev g.f4 o1 o2
  have hs : Ev (fun k => spec_JoinIn.l0 k 0 g.f0 g.f1 g.f2 g.f3 g.f4 a.f0 a.f1 a.f2 a.f3 g.f0 g.f1 g.f2 g.f3 g.f4 a.f0 a.f1 a.f2 a.f3) (g.f0, g.f1, g.f2, g.f3, putL g.f4 a (labelsAt g.f4 a.f0)) := by
    rw [putL_scan, ← scan_map (fun r : List S44 => (g.f0, g.f1, g.f2, g.f3, r))]
    refine scan_ev2 (F := fun k i => spec_JoinIn.l0 k i g.f0 g.f1 g.f2 g.f3 g.f4 a.f0 a.f1 a.f2 a.f3 g.f0 g.f1 g.f2 g.f3 g.f4 a.f0 a.f1 a.f2 a.f3) (n := g.f4.length) ?_ (fun i hi => ?_) g.f4.length 0 (by omega)
    · obtain ⟨K, g2⟩ := specJoinIn_l1 g a h ha
      refine ⟨K, fun k hk => ?_⟩
      have e := g2 k hk
      simp only at e
      simp only [spec_JoinIn.l0]
      rw [if_neg (by omega)]
      exact e
    · have hw := (hl.2 _ (getD_mem g.f4 i z44 hi)).1.1
      obtain ⟨K2, g2⟩ := specSameSet_ev (g.f4.getD i z44).f0 a.f0 (by omega)
      refine ⟨K2, fun k hk => ?_⟩
      have e := g2 k hk
      simp only at e
      simp only [spec_JoinIn.l0]
      rw [if_pos (by omega), if_pos (by omega), rdnAlarm, e]
      simp only [Option.bind_some]
      by_cases c : sameSet (g.f4.getD i z44).f0 a.f0 = true
      · rw [if_pos c, if_pos c, if_pos (by omega), toNat_nat]; rfl
      · rw [if_neg c, if_neg c, wrap_up i (by omega)]; rfl
  obtain ⟨K2, g2⟩ := hs
  refine ⟨K1 + K2, fun k hk => ?_⟩
  have e1 := g1 k (by omega)
  have e2 := g2 k (by omega)
  simp only at e1 e2
  have hk2 := h.2.1.1
  unfold spec_JoinIn.f spec_l11Copy.f
  simp only [Option.bind_some, List.nil_append, List.length_nil, e1, specL4Copy_ev a (Nat.le_trans ha.1.1 (by decide))]
  rw [if_pos (by omega)]
  simp only [Option.bind_some]
  exact e2
def nnLabels : List S163 → Nat
  | [] => 0
  | _ :: ys => 1 + nnLabels ys
theorem szLabel_nn (x : S163) (hB : B163 x) (k : Nat) (n r : Int) (h : laws_szLabel.f x.f0 x.f1 n = some r) (hr : 0 ≤ r) (h0 : 0 ≤ n) (h1 : n ≤ 1048576) : r ≤ n ∧ ((0 : Nat) : Int) ≤ n - r := by
  unfold laws_szLabel.f at h
  have q1 : x.f0.size ≤ 9223372036854775807 := hB.1
  rw [show wrap64 (n - (x.f0.size : Int)) = n - (x.f0.size : Int) from wrap_id (by omega) (by omega)] at h
  by_cases c1 : n - (x.f0.size : Int) < 0
  · rw [if_pos c1] at h; injection h with h; omega
  rw [if_neg c1] at h
  have q2 : x.f1.size ≤ 9223372036854775807 := hB.2
  rw [show wrap64 ((n - (x.f0.size : Int)) - (x.f1.size : Int)) = (n - (x.f0.size : Int)) - (x.f1.size : Int) from wrap_id (by omega) (by omega)] at h
  by_cases c2 : (n - (x.f0.size : Int)) - (x.f1.size : Int) < 0
  · rw [if_pos c2] at h; injection h with h; omega
  rw [if_neg c2] at h
  injection h with h
  exact ⟨by omega, by omega⟩
theorem szLabelS_nn_l0 : ∀ (suf pre : List S163) (k : Nat) (n r : Int), (∀ y ∈ suf, B163 y) → (pre ++ suf).length < 4611686018427387904 → laws_szLabelS.l0 k (pre ++ suf) n (pre.length : Int) = some r → 0 ≤ r → 0 ≤ n → n ≤ 1048576 → r ≤ n ∧ (nnLabels suf : Int) ≤ n - r + suf.length
  | [], pre, k, n, r, hB, hl, h, hr, h0, h1 => by
    cases k with
    | zero => simp [laws_szLabelS.l0] at h
    | succ k =>
      simp only [laws_szLabelS.l0] at h
      rw [if_neg (not_lt_end pre)] at h
      injection h with h
      subst h
      exact ⟨Int.le_refl _, by simp [nnLabels]⟩
  | y :: suf, pre, k, n, r, hB, hl, h, hr, h0, h1 => by
    have hp : pre.length < 4611686018427387904 := by simp at hl; omega
    cases k with
    | zero => simp [laws_szLabelS.l0] at h
    | succ k =>
      simp only [laws_szLabelS.l0] at h
      rw [if_pos (lt_mid pre suf y), if_pos (nn _), rdmidLabell, wrap_up pre.length (by omega)] at h
      obtain ⟨t, e, h⟩ := Option.bind_eq_some_iff.mp h
      by_cases c : t < 0
      · rw [if_pos c] at h; injection h with h; omega
      rw [if_neg c, show pre ++ y :: suf = (pre ++ [y]) ++ suf by simp, show ((pre.length + 1 : Nat) : Int) = ((pre ++ [y]).length : Int) by simp] at h
      obtain ⟨l1, m1⟩ := szLabel_nn y (hB y List.mem_cons_self) k n t e (by omega) h0 h1
      obtain ⟨l2, m2⟩ := szLabelS_nn_l0 suf (pre ++ [y]) k t r (fun z hz => hB z (List.mem_cons_of_mem _ hz)) (by simpa using hl) h hr (by omega) (by omega)
      refine ⟨by omega, ?_⟩
      simp only [nnLabels, List.length_cons]
      push_cast at m1 ⊢
      omega
theorem szLabelS_nn (l : List S163) (hB : l.length ≤ maxLen ∧ ∀ y ∈ l, B163 y) (k : Nat) (n r : Int) (h : laws_szLabelS.f k l n = some r) (hr : 0 ≤ r) (h0 : 0 ≤ n) (h1 : n ≤ 1048576) : r ≤ n ∧ (nnLabels l : Int) ≤ n - r := by
  have q : l.length ≤ 9223372036854775807 := hB.1
  unfold laws_szLabelS.f at h
  rw [show wrap64 (n - (l.length : Int)) = n - (l.length : Int) from wrap_id (by omega) (by omega)] at h
  by_cases c : n - (l.length : Int) < 0
  · rw [if_pos c] at h; injection h with h; omega
  rw [if_neg c] at h
  obtain ⟨l1, m1⟩ := szLabelS_nn_l0 l [] k (n - (l.length : Int)) r hB.2 (by simp; omega) h hr (by omega) (by omega)
  exact ⟨by omega, by omega⟩
def nnAlarms : List S34 → Nat
  | [] => 0
  | y :: ys => 1 + nnLabels y.f0 + nnAlarms ys
theorem szAlarm_nn (x : S34) (hB : B34 x) (k : Nat) (n r : Int) (h : laws_szAlarm.f k x.f0 x.f1 x.f2 x.f3 n = some r) (hr : 0 ≤ r) (h0 : 0 ≤ n) (h1 : n ≤ 1048576) : r ≤ n ∧ ((nnLabels x.f0 : Nat) : Int) ≤ n - r := by
  unfold laws_szAlarm.f at h
  obtain ⟨t1, e1, h⟩ := Option.bind_eq_some_iff.mp h
  by_cases c1 : t1 < 0
  · rw [if_pos c1] at h; injection h with h; omega
  rw [if_neg c1] at h
  obtain ⟨l1, m1⟩ := szLabelS_nn x.f0 hB.1 k n t1 e1 (by omega) (by omega) (by omega)
  have q2 : x.f3.size ≤ 9223372036854775807 := hB.2.2.2
  rw [show wrap64 (t1 - (x.f3.size : Int)) = t1 - (x.f3.size : Int) from wrap_id (by omega) (by omega)] at h
  by_cases c2 : t1 - (x.f3.size : Int) < 0
  · rw [if_pos c2] at h; injection h with h; omega
  rw [if_neg c2] at h
  injection h with h
  exact ⟨by omega, by omega⟩
theorem szAlarmS_nn_l0 : ∀ (suf pre : List S34) (k : Nat) (n r : Int), (∀ y ∈ suf, B34 y) → (pre ++ suf).length < 4611686018427387904 → laws_szAlarmS.l0 k (pre ++ suf) n (pre.length : Int) = some r → 0 ≤ r → 0 ≤ n → n ≤ 1048576 → r ≤ n ∧ (nnAlarms suf : Int) ≤ n - r + suf.length
  | [], pre, k, n, r, hB, hl, h, hr, h0, h1 => by
    cases k with
    | zero => simp [laws_szAlarmS.l0] at h
    | succ k =>
      simp only [laws_szAlarmS.l0] at h
      rw [if_neg (not_lt_end pre)] at h
      injection h with h
      subst h
      exact ⟨Int.le_refl _, by simp [nnAlarms]⟩
  | y :: suf, pre, k, n, r, hB, hl, h, hr, h0, h1 => by
    have hp : pre.length < 4611686018427387904 := by simp at hl; omega
    cases k with
    | zero => simp [laws_szAlarmS.l0] at h
    | succ k =>
      simp only [laws_szAlarmS.l0] at h
      rw [if_pos (lt_mid pre suf y), if_pos (nn _), rdmidAlarml, wrap_up pre.length (by omega)] at h
      obtain ⟨t, e, h⟩ := Option.bind_eq_some_iff.mp h
      by_cases c : t < 0
      · rw [if_pos c] at h; injection h with h; omega
      rw [if_neg c, show pre ++ y :: suf = (pre ++ [y]) ++ suf by simp, show ((pre.length + 1 : Nat) : Int) = ((pre ++ [y]).length : Int) by simp] at h
      obtain ⟨l1, m1⟩ := szAlarm_nn y (hB y List.mem_cons_self) k n t e (by omega) h0 h1
      obtain ⟨l2, m2⟩ := szAlarmS_nn_l0 suf (pre ++ [y]) k t r (fun z hz => hB z (List.mem_cons_of_mem _ hz)) (by simpa using hl) h hr (by omega) (by omega)
      refine ⟨by omega, ?_⟩
      simp only [nnAlarms, List.length_cons]
      push_cast at m1 ⊢
      omega
theorem szAlarmS_nn (l : List S34) (hB : l.length ≤ maxLen ∧ ∀ y ∈ l, B34 y) (k : Nat) (n r : Int) (h : laws_szAlarmS.f k l n = some r) (hr : 0 ≤ r) (h0 : 0 ≤ n) (h1 : n ≤ 1048576) : r ≤ n ∧ (nnAlarms l : Int) ≤ n - r := by
  have q : l.length ≤ 9223372036854775807 := hB.1
  unfold laws_szAlarmS.f at h
  rw [show wrap64 (n - (l.length : Int)) = n - (l.length : Int) from wrap_id (by omega) (by omega)] at h
  by_cases c : n - (l.length : Int) < 0
  · rw [if_pos c] at h; injection h with h; omega
  rw [if_neg c] at h
  obtain ⟨l1, m1⟩ := szAlarmS_nn_l0 l [] k (n - (l.length : Int)) r hB.2 (by simp; omega) h hr (by omega) (by omega)
  exact ⟨by omega, by omega⟩
theorem szGroup_nn (x : S69) (hB : B69 x) (k : Nat) (n r : Int) (h : laws_szGroup.f k x.f0 x.f1 x.f2 x.f3 x.f4 n = some r) (hr : 0 ≤ r) (h0 : 0 ≤ n) (h1 : n ≤ 1048576) : r ≤ n ∧ ((nnLabels x.f1 + nnAlarms x.f4 : Nat) : Int) ≤ n - r := by
  unfold laws_szGroup.f at h
  obtain ⟨t1, e1, h⟩ := Option.bind_eq_some_iff.mp h
  by_cases c1 : t1 < 0
  · rw [if_pos c1] at h; injection h with h; omega
  rw [if_neg c1] at h
  obtain ⟨l1, m1⟩ := szLabelS_nn x.f1 hB.2.1 k n t1 e1 (by omega) (by omega) (by omega)
  obtain ⟨t2, e2, h⟩ := Option.bind_eq_some_iff.mp h
  by_cases c2 : t2 < 0
  · rw [if_pos c2] at h; injection h with h; omega
  rw [if_neg c2] at h
  obtain ⟨l2, m2⟩ := szAlarmS_nn x.f4 hB.2.2.2.2 k t1 t2 e2 (by omega) (by omega) (by omega)
  injection h with h
  exact ⟨by omega, by omega⟩
theorem cnLabels_cv : ∀ l : List S163, cnLabels (l.map cvLabel) ≤ 6 * nnLabels l
  | [] => Nat.le_refl _
  | y :: ys => by
    have h0 := cnLabels_cv ys
    simp only [List.map_cons, cnLabels, nnLabels, cvLabel]
    omega
theorem cnAlarms_cv : ∀ l : List S34, cnAlarms (l.map cvAlarm) ≤ 6 * nnAlarms l
  | [] => Nat.le_refl _
  | y :: ys => by
    have h0 := cnAlarms_cv ys
    have h_0 := cnLabels_cv y.f0
    simp only [List.map_cons, cnAlarms, nnAlarms, cvAlarm]
    omega
end Go.Proofs.Ytfholjcelnkleaa.Print
end
section
/- The law FnExactJoinIn answers true for all arguments that can be read: the pure statement, without Go and memory. No condition. -/
namespace Go.Proofs.Ytfholjcelnkleaa.Print
open Go.RowKit Go.Proofs.YtfholjcelnkleaaV.PrintWords Go.Proofs.YtfholjcelnkleaaV.PrintLast Go.Proofs.YtfholjcelnkleaaV.PrintMore
set_option linter.unusedVariables false
set_option linter.unusedSimpArgs false
theorem pure_FnExactJoinIn : laws_FnExactJoinIn.Pure := by
  intro p0_0 p0_1 p0_2 p0_3 p0_4 p1_0 p1_1 p1_2 p1_3 hp0_0 hp0_1 hp0_2 hp0_3 hp0_4 hp1_0 hp1_1 hp1_2 hp1_3
  obtain ⟨r0, ⟨K0, g0⟩, le0, w0⟩ := szGroup_ev (⟨p0_0, p0_1, p0_2, p0_3, p0_4⟩ : S69) ⟨hp0_0, hp0_1, hp0_2, hp0_3, hp0_4⟩ 1048576 (by omega) (by omega)
  simp only at g0
  by_cases c0 : r0 < 0
  · exact ⟨K0, by simp [laws_FnExactJoinIn.f, g0 (K0) (by omega), c0]⟩
  obtain ⟨nl0, nb0⟩ := szGroup_nn (⟨p0_0, p0_1, p0_2, p0_3, p0_4⟩ : S69) ⟨hp0_0, hp0_1, hp0_2, hp0_3, hp0_4⟩ K0 1048576 r0 (g0 K0 (Nat.le_refl _)) (by omega) (by omega) (by omega)
  simp only at nb0
  obtain ⟨r1, ⟨K1, g1⟩, le1, w1⟩ := szAlarm_ev (⟨p1_0, p1_1, p1_2, p1_3⟩ : S34) ⟨hp1_0, hp1_1, hp1_2, hp1_3⟩ r0 (by omega) (by omega)
  simp only at g1
  by_cases c1 : r1 < 0
  · exact ⟨K0 + K1, by simp [laws_FnExactJoinIn.f, g0 (K0 + K1) (by omega), c0, g1 (K0 + K1) (by omega), c1]⟩
  obtain ⟨nl1, nb1⟩ := szAlarm_nn (⟨p1_0, p1_1, p1_2, p1_3⟩ : S34) ⟨hp1_0, hp1_1, hp1_2, hp1_3⟩ K1 r0 r1 (g1 K1 (Nat.le_refl _)) (by omega) (by omega) (by omega)
  simp only at nb1
  obtain ⟨g, hg, hw⟩ : ∃ g, joinIn (cvGroup (⟨p0_0, p0_1, p0_2, p0_3, p0_4⟩ : S69)) (cvAlarm (⟨p1_0, p1_1, p1_2, p1_3⟩ : S34)) = g ∧ WiGroup g := ⟨_, rfl, joinIn_wi (by show (List.map cvAlarm _).length ≤ 1048576; rw [List.length_map]; exact (w0 (by omega)).2.2.2.2.1) (Wi_cvGroup (w0 (by omega))) (Wi_cvAlarm (w1 (by omega)))⟩
  have b0 : cnLabels (cvGroup (⟨p0_0, p0_1, p0_2, p0_3, p0_4⟩ : S69)).f1 ≤ 6 * nnLabels (⟨p0_0, p0_1, p0_2, p0_3, p0_4⟩ : S69).f1 := cnLabels_cv _
  simp only at b0
  have n0 : ((1 + (cnLabels (cvGroup (⟨p0_0, p0_1, p0_2, p0_3, p0_4⟩ : S69)).f1 : Int)) < 0) = False := eq_false (by omega)
  have b1 : cnAlarms (cvGroup (⟨p0_0, p0_1, p0_2, p0_3, p0_4⟩ : S69)).f4 ≤ 6 * nnAlarms (⟨p0_0, p0_1, p0_2, p0_3, p0_4⟩ : S69).f4 := cnAlarms_cv _
  simp only at b1
  have n1 : (((1 + (cnLabels (cvGroup (⟨p0_0, p0_1, p0_2, p0_3, p0_4⟩ : S69)).f1 : Int)) + (cnAlarms (cvGroup (⟨p0_0, p0_1, p0_2, p0_3, p0_4⟩ : S69)).f4 : Int)) < 0) = False := eq_false (by omega)
  have b2 : cnLabels (cvAlarm (⟨p1_0, p1_1, p1_2, p1_3⟩ : S34)).f0 ≤ 6 * nnLabels (⟨p1_0, p1_1, p1_2, p1_3⟩ : S34).f0 := cnLabels_cv _
  simp only at b2
  have n2 : ((((1 + (cnLabels (cvGroup (⟨p0_0, p0_1, p0_2, p0_3, p0_4⟩ : S69)).f1 : Int)) + (cnAlarms (cvGroup (⟨p0_0, p0_1, p0_2, p0_3, p0_4⟩ : S69)).f4 : Int)) + (cnLabels (cvAlarm (⟨p1_0, p1_1, p1_2, p1_3⟩ : S34)).f0 : Int)) < 0) = False := eq_false (by omega)
  have b3 := cnLabels_wi hw.2.1
  have n3 : ((1 + (cnLabels g.f1 : Int)) < 0) = False := eq_false (by omega)
  have b4 := cnAlarms_wi hw.2.2.2.2
  have n4 : (((1 + (cnLabels g.f1 : Int)) + (cnAlarms g.f4 : Int)) < 0) = False := eq_false (by omega)
  obtain ⟨L0, f0⟩ := toGroup_ev (⟨p0_0, p0_1, p0_2, p0_3, p0_4⟩ : S69) (w0 (by omega))
  obtain ⟨L1, f1⟩ := eqGroup_ev (cvGroup (⟨p0_0, p0_1, p0_2, p0_3, p0_4⟩ : S69)) (Wi_cvGroup (w0 (by omega)))
  obtain ⟨L2, f2⟩ := toAlarm_ev (⟨p1_0, p1_1, p1_2, p1_3⟩ : S34) (w1 (by omega))
  obtain ⟨L3, f3⟩ := eqAlarm_ev (cvAlarm (⟨p1_0, p1_1, p1_2, p1_3⟩ : S34)) (Wi_cvAlarm (w1 (by omega)))
  obtain ⟨L4, f4⟩ := hg ▸ specJoinIn_ev (cvGroup (⟨p0_0, p0_1, p0_2, p0_3, p0_4⟩ : S69)) (cvAlarm (⟨p1_0, p1_1, p1_2, p1_3⟩ : S34)) (Wi_cvGroup (w0 (by omega))) (Wi_cvAlarm (w1 (by omega)))
  obtain ⟨L5, f5⟩ := hg ▸ implJoinIn_ev (cvGroup (⟨p0_0, p0_1, p0_2, p0_3, p0_4⟩ : S69)) (cvAlarm (⟨p1_0, p1_1, p1_2, p1_3⟩ : S34)) (Wi_cvGroup (w0 (by omega))) (Wi_cvAlarm (w1 (by omega)))
  obtain ⟨L6, f6⟩ := markLabelS_ev (cvGroup (⟨p0_0, p0_1, p0_2, p0_3, p0_4⟩ : S69)).f1 1 (by omega) (by omega)
  obtain ⟨L7, f7⟩ := markAlarmS_ev (cvGroup (⟨p0_0, p0_1, p0_2, p0_3, p0_4⟩ : S69)).f4 (1 + (cnLabels (cvGroup (⟨p0_0, p0_1, p0_2, p0_3, p0_4⟩ : S69)).f1 : Int)) (by omega) (by omega)
  obtain ⟨L8, f8⟩ := markLabelS_ev (cvAlarm (⟨p1_0, p1_1, p1_2, p1_3⟩ : S34)).f0 ((1 + (cnLabels (cvGroup (⟨p0_0, p0_1, p0_2, p0_3, p0_4⟩ : S69)).f1 : Int)) + (cnAlarms (cvGroup (⟨p0_0, p0_1, p0_2, p0_3, p0_4⟩ : S69)).f4 : Int)) (by omega) (by omega)
  obtain ⟨L9, f9⟩ := eqGroup_ev g hw
  obtain ⟨L10, f10⟩ := markLabelS_ev g.f1 1 (by omega) (by omega)
  obtain ⟨L11, f11⟩ := heldLabelS_ev g.f1 1 (by omega) (by omega)
  obtain ⟨L12, f12⟩ := markAlarmS_ev g.f4 (1 + (cnLabels g.f1 : Int)) (by omega) (by omega)
  obtain ⟨L13, f13⟩ := heldAlarmS_ev g.f4 (1 + (cnLabels g.f1 : Int)) (by omega) (by omega)
  have G0 := fun m => g0 (K0 + K1 + L0 + L1 + L2 + L3 + L4 + L5 + L6 + L7 + L8 + L9 + L10 + L11 + L12 + L13 + m) (by omega)
  have G1 := fun m => g1 (K0 + K1 + L0 + L1 + L2 + L3 + L4 + L5 + L6 + L7 + L8 + L9 + L10 + L11 + L12 + L13 + m) (by omega)
  have F0 := fun m => f0 (K0 + K1 + L0 + L1 + L2 + L3 + L4 + L5 + L6 + L7 + L8 + L9 + L10 + L11 + L12 + L13 + m) (by omega)
  have F1 := fun m => f1 (K0 + K1 + L0 + L1 + L2 + L3 + L4 + L5 + L6 + L7 + L8 + L9 + L10 + L11 + L12 + L13 + m) (by omega)
  have F2 := fun m => f2 (K0 + K1 + L0 + L1 + L2 + L3 + L4 + L5 + L6 + L7 + L8 + L9 + L10 + L11 + L12 + L13 + m) (by omega)
  have F3 := fun m => f3 (K0 + K1 + L0 + L1 + L2 + L3 + L4 + L5 + L6 + L7 + L8 + L9 + L10 + L11 + L12 + L13 + m) (by omega)
  have F4 := fun m => f4 (K0 + K1 + L0 + L1 + L2 + L3 + L4 + L5 + L6 + L7 + L8 + L9 + L10 + L11 + L12 + L13 + m) (by omega)
  have F5 := fun m => f5 (K0 + K1 + L0 + L1 + L2 + L3 + L4 + L5 + L6 + L7 + L8 + L9 + L10 + L11 + L12 + L13 + m) (by omega)
  have F6 := fun m => f6 (K0 + K1 + L0 + L1 + L2 + L3 + L4 + L5 + L6 + L7 + L8 + L9 + L10 + L11 + L12 + L13 + m) (by omega)
  have F7 := fun m => f7 (K0 + K1 + L0 + L1 + L2 + L3 + L4 + L5 + L6 + L7 + L8 + L9 + L10 + L11 + L12 + L13 + m) (by omega)
  have F8 := fun m => f8 (K0 + K1 + L0 + L1 + L2 + L3 + L4 + L5 + L6 + L7 + L8 + L9 + L10 + L11 + L12 + L13 + m) (by omega)
  have F9 := fun m => f9 (K0 + K1 + L0 + L1 + L2 + L3 + L4 + L5 + L6 + L7 + L8 + L9 + L10 + L11 + L12 + L13 + m) (by omega)
  have F10 := fun m => f10 (K0 + K1 + L0 + L1 + L2 + L3 + L4 + L5 + L6 + L7 + L8 + L9 + L10 + L11 + L12 + L13 + m) (by omega)
  have F11 := fun m => f11 (K0 + K1 + L0 + L1 + L2 + L3 + L4 + L5 + L6 + L7 + L8 + L9 + L10 + L11 + L12 + L13 + m) (by omega)
  have F12 := fun m => f12 (K0 + K1 + L0 + L1 + L2 + L3 + L4 + L5 + L6 + L7 + L8 + L9 + L10 + L11 + L12 + L13 + m) (by omega)
  have F13 := fun m => f13 (K0 + K1 + L0 + L1 + L2 + L3 + L4 + L5 + L6 + L7 + L8 + L9 + L10 + L11 + L12 + L13 + m) (by omega)
  simp only at F0 F1 F2 F3 F4 F5 F6 F7 F8 F9 F10 F11 F12 F13
  exact ⟨K0 + K1 + L0 + L1 + L2 + L3 + L4 + L5 + L6 + L7 + L8 + L9 + L10 + L11 + L12 + L13 + 3, by simp [laws_FnExactJoinIn.f, laws_heldGroup.f, laws_markAlarm.f, laws_markGroup.f, G0, G1, F0, F1, F2, F3, F4, F5, F6, F7, F8, F9, F10, F11, F12, F13, c0, c1, n0, n1, n2, n3, n4]⟩

end Go.Proofs.Ytfholjcelnkleaa.Print
end
