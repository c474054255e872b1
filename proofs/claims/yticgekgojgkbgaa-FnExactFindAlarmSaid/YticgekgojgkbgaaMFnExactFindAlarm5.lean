import Derived.Test.YticgekgojgkbgaaMFnExactFindAlarm1
import Derived.Test.YticgekgojgkbgaaMFnExactFindAlarm4
import Derived.Test.YticgekgojgkbgaaMFnExactFindAlarm3
import Derived.Test.YticgekgojgkbgaaMFnExactFindAlarm2
section
namespace Go.Proofs.Yticgekgojgkbgaa.Print
open Go.RowKit Go.Proofs.YticgekgojgkbgaaV.PrintWords Go.Proofs.YticgekgojgkbgaaV.PrintLast Go.Proofs.YticgekgojgkbgaaV.PrintMore
attribute [local go_sem] max2_int min2_int max_two min_two max_three min_three max_four min_four
set_option linter.unusedVariables false
set_option linter.unusedSimpArgs false
set_option maxHeartbeats 8000000
set_option maxRecDepth 100000
def laws_heldPartS.l0 : Nat → List (S57) → Int → Int → Option (Int)
 | 0, _, _, _ => none
 | k + 1, x0, x1, x5 => if x5 < (x0.length : Int) then (if 0 ≤ x5 then (if ((rd_T57 x0 x5).f0) = x1 then (if ((rd_T57 x0 x5).f1) = (wrap64 (x1 + 1)) then ((laws_heldChainS.f k ((rd_T57 x0 x5).f2) (wrap64 ((wrap64 (x1 + 1)) + 1))).bind fun t1162 => (if t1162 < 0 then (none) else (laws_heldPartS.l0 k x0 t1162 (wrap64 (x5 + 1))))) else (none)) else (none)) else (none)) else (some x1)
def laws_heldPartS.f (k : Nat) (l0 : List (S57)) (a1 : Int) : Option (Int) := laws_heldPartS.l0 k l0 a1 0
theorem laws_heldPartS.mono_l : ∀ k, (∀ y0 y1 y2, LeO (laws_heldPartS.l0 k y0 y1 y2) (laws_heldPartS.l0 (k + 1) y0 y1 y2))
 | 0 => fun _ _ _ r h => by simp [laws_heldPartS.l0] at h
 | k + 1 => by
  have ih0 := laws_heldPartS.mono_l k
  intro y0 y1 y2
  unfold laws_heldPartS.l0
  repeat' first
  | (with_reducible exact ih0 _ _ _)
  | (with_reducible exact laws_heldChainS.mono _ _ _)
  | (with_reducible exact LeO.refl _)
  | (with_reducible exact LeO.none _)
  | (with_reducible refine LeO.ite ?_ ?_)
  | (with_reducible refine LeO.bind ?_ (fun _ => ?_))
  | exact ih0 _ _ _
  | exact laws_heldChainS.mono _ _ _
theorem laws_heldPartS.mono : ∀ a0 a1 k, LeO (laws_heldPartS.f k a0 a1) (laws_heldPartS.f (k + 1) a0 a1) := by
 intro a0 a1 k
 have ih0 := laws_heldPartS.mono_l k
 unfold laws_heldPartS.f
 repeat' first
   | (with_reducible exact ih0 _ _ _)
   | (with_reducible exact laws_heldChainS.mono _ _ _)
   | (with_reducible exact LeO.refl _)
   | (with_reducible exact LeO.none _)
   | (with_reducible refine LeO.ite ?_ ?_)
   | (with_reducible refine LeO.bind ?_ (fun _ => ?_))
   | exact ih0 _ _ _
   | exact laws_heldChainS.mono _ _ _
theorem laws_heldPartS.calls (k : Nat) (A0 : Option Addr) (c0 : Nat) (l0 : List (S57)) (a1 : Int) (r : Int) (w : World) (hr0 : Kd.C k57 w A0 l0.length l0) (hc0 : l0.length ≤ c0) (h : laws_heldPartS.f k l0 a1 = some r) :
  Calls Try.prog 49 #[.slice A0 l0.length c0, .int .i64 a1] w fun e w' => e = .returned (.int .i64 r) ∧ Below w.heap.size w w' := by
 have HR0 := Aside0.mk hr0
 have HC0 := Aside0.mk hc0
 clear hr0 hc0
 have HB := Aside0.mk (Below.refl w.heap.size w)
 have H : (laws_heldPartS.l0 k l0 a1 0) = some r := h
 clear h
 have H' := Aside0.mk H
 clear H
 go_enter Try.func49, Try.ntmps49
 go_wp2
 go_loopg [1, 5] k (fun kq v1 v5 w' => ∃ (x1_1 : Int) (x5_1 : Int), v1 = .int .i64 x1_1 ∧ v5 = .int .i64 x5_1 ∧ Aside0 (laws_heldPartS.l0 kq l0 x1_1 x5_1 = some r) ∧ Aside0 (kq ≤ k) ∧ Aside0 (Below w.heap.size w w'))
 case atStart => exact ⟨(a1), (0), (by first | rfl | (simp; done) | (simp [*]; done)), (by first | rfl | (simp; done) | (simp [*]; done)), H', ⟨Nat.le_refl _⟩, ⟨by repeat (first | (with_reducible first | exact HB.out | apply ba_ | apply bn_ | apply bd_) | exact HB.out)⟩⟩
 case round =>
  clear H'
  try clear p2
  obtain ⟨x1_1, x5_1, rfl, rfl, HA, HK1, HB⟩ := hrel
  cases gk with
  | zero => exact absurd HA.out (by simp [laws_heldPartS.l0])
  | succ k1 =>
   have H := HA.out
   clear HA
   simp only [laws_heldPartS.l0] at H
   by_cases c3 : x5_1 < (l0.length : Int)
   ·
    rw [if_pos c3] at H
    have c3b0 := decide_eq_true c3
    clear c3
    by_cases c4 : 0 ≤ x5_1
    ·
     rw [if_pos c4] at H
     have c4b0 := decide_eq_true c4
     clear c4
     by_cases c5 : ((rd_T57 l0 x5_1).f0) = x1_1
     ·
      rw [if_pos c5] at H
      have c5b0 : (((rd_T57 l0 x5_1).f0) == x1_1) = true := beq_iff_eq.mpr c5
      have c5b1 : (((rd_T57 l0 x5_1).f0) != x1_1) = false := bne_eq_false_iff_eq.mpr c5
      clear c5
      by_cases c6 : ((rd_T57 l0 x5_1).f1) = (wrap64 (x1_1 + 1))
      ·
       rw [if_pos c6] at H
       have c6b0 : (((rd_T57 l0 x5_1).f1) == (wrap64 (x1_1 + 1))) = true := beq_iff_eq.mpr c6
       have c6b1 : (((rd_T57 l0 x5_1).f1) != (wrap64 (x1_1 + 1))) = false := bne_eq_false_iff_eq.mpr c6
       clear c6
       replace H := Option.bind_eq_some_iff.mp H
       obtain ⟨t1162, A70, H⟩ := H
       have A7 := Aside0.mk A70
       clear A70
       by_cases c8 : t1162 < 0
       ·
        rw [if_pos c8] at H
        exact absurd H (by simp)
       rw [if_neg c8] at H
       have c8b0 : decide (t1162 < 0) = false := decide_eq_false c8
       clear c8
       have H' := Aside0.mk H
       clear H
       have p1159 : 0 ≤ (x5_1 : Int) := of_decide_eq_true (by with_reducible assumption)
       have q1159 : x5_1 < (l0.length : Int) := of_decide_eq_true (by with_reducible assumption)
       obtain ⟨ad1159, A1159_2, c1159_2, e1159, hx1159_0, hx1159_1, hx1159_2, hl1159_2, hi1159_2⟩ := at_T57 HR0.out x5_1 p1159 q1159
       cases e1159
       replace hx1159_0 := cl_ HB.out hx1159_0
       replace hx1159_1 := cl_ HB.out hx1159_1
       replace hx1159_2 := cl_ HB.out hx1159_2
       have HR1159_2 := Aside0.mk hi1159_2
       have HC1159_2 := Aside0.mk hl1159_2
       clear hi1159_2 hl1159_2
       replace p1159 := eq_true p1159
       replace q1159 := eq_true q1159
       have p1160 : 0 ≤ (x5_1 : Int) := of_decide_eq_true (by with_reducible assumption)
       have q1160 : x5_1 < (l0.length : Int) := of_decide_eq_true (by with_reducible assumption)
       obtain ⟨ad1160, A1160_2, c1160_2, e1160, hx1160_0, hx1160_1, hx1160_2, hl1160_2, hi1160_2⟩ := at_T57 HR0.out x5_1 p1160 q1160
       obtain rfl : ad1159 = ad1160 := (by injection e1160)
       replace hx1160_0 := cl_ HB.out hx1160_0
       replace hx1160_1 := cl_ HB.out hx1160_1
       replace hx1160_2 := cl_ HB.out hx1160_2
       have HR1160_2 := Aside0.mk hi1160_2
       have HC1160_2 := Aside0.mk hl1160_2
       clear hi1160_2 hl1160_2
       replace p1160 := eq_true p1160
       replace q1160 := eq_true q1160
       have ea_ := Option.some.inj (hx1159_2.symm.trans hx1160_2)
       injection ea_ with ea_ en_ ec_
       subst ea_
       subst ec_
       clear en_
       have p1161 : 0 ≤ (x5_1 : Int) := of_decide_eq_true (by with_reducible assumption)
       have q1161 : x5_1 < (l0.length : Int) := of_decide_eq_true (by with_reducible assumption)
       obtain ⟨ad1161, A1161_2, c1161_2, e1161, hx1161_0, hx1161_1, hx1161_2, hl1161_2, hi1161_2⟩ := at_T57 HR0.out x5_1 p1161 q1161
       obtain rfl : ad1159 = ad1161 := (by injection e1161)
       replace hx1161_0 := cl_ HB.out hx1161_0
       replace hx1161_1 := cl_ HB.out hx1161_1
       replace hx1161_2 := cl_ HB.out hx1161_2
       have HR1161_2 := Aside0.mk hi1161_2
       have HC1161_2 := Aside0.mk hl1161_2
       clear hi1161_2 hl1161_2
       replace p1161 := eq_true p1161
       replace q1161 := eq_true q1161
       have ea_ := Option.some.inj (hx1159_2.symm.trans hx1161_2)
       injection ea_ with ea_ en_ ec_
       subst ea_
       subst ec_
       clear en_
       go_wp2_with (first | ((with_reducible refine gate_callee (f := 88) rfl ?_); refine goesL_ (some 36) rfl rfl Try.func88 (by kernel_rfl) rfl #[.slice A1159_2 ((rd_T57 l0 x5_1).f2).length c1159_2, .int .i64 (wrap64 ((wrap64 (x1_1 + 1)) + 1))] rfl (by (try simp only [mp_]); first | done | rfl | (simp only [List.length_drop, List.length_take]; rfl)) ?_; (with_reducible refine (laws_heldChainS.calls k1 _ _ ((rd_T57 l0 x5_1).f2) (wrap64 ((wrap64 (x1_1 + 1)) + 1)) t1162 _ ?side1 ?side2 A7.out).mono ?_); (case side1 => repeat (first | exact (Kd.C_below HR1161_2.out HB.out) | (with_reducible first | refine ca_ ?_ _ | refine cn_ ?_ _ | refine cd_ ?_))); (case side2 => exact HC1161_2.out); rintro e w9 ⟨rfl, hb⟩; refine ⟨_, rfl, ?_⟩; have n0_ := Aside0.mk (below_step (by repeat (first | (with_reducible first | exact HB.out | apply ba_ | apply bn_ | apply bd_) | exact HB.out)) hb); clear HB; have HB := n0_; clear n0_; (try clear hb); (try clear hb2); (try clear hk); (try clear hi)))
       go_roundg k1
       case measure => have := HK1.out; omega
       case rel => exact ⟨(t1162), (wrap64 (x5_1 + 1)), (by first | rfl | (simp; done) | (simp [*]; done)), (by first | rfl | (simp; done) | (simp [*]; done)), H', ⟨by have := HK1.out; omega⟩, ⟨by repeat (first | (with_reducible first | exact HB.out | apply ba_ | apply bn_ | apply bd_) | exact HB.out)⟩⟩
      rw [if_neg c6] at H
      exact absurd H (by simp)
     rw [if_neg c5] at H
     exact absurd H (by simp)
    rw [if_neg c4] at H
    exact absurd H (by simp)
   rw [if_neg c3] at H
   have c3b0 : decide (x5_1 < (l0.length : Int)) = false := decide_eq_false c3
   clear c3
   obtain rfl := Option.some.inj H
   go_wp2
   go_ret
   exact ⟨by first | rfl | (simp [errW_none, errW_some] <;> rfl) | (simp [*, errW_none, errW_some] <;> rfl), by repeat (first | (with_reducible first | exact HB.out | apply ba_ | apply bn_ | apply bd_) | exact HB.out)⟩
end Go.Proofs.Yticgekgojgkbgaa.Print
end
section
namespace Go.Proofs.Yticgekgojgkbgaa.Print
open Go.RowKit Go.Proofs.YticgekgojgkbgaaV.PrintWords Go.Proofs.YticgekgojgkbgaaV.PrintLast Go.Proofs.YticgekgojgkbgaaV.PrintMore
set_option linter.unusedVariables false
set_option linter.unusedSimpArgs false
def cnChains : List S100 → Nat
  | [] => 0
  | y :: ys => cnAlarms y.f1 + 1 + cnChains ys
noncomputable def mkChains : Int → List S100 → List S100
  | _, [] => []
  | k0, y :: ys => ⟨k0, mkAlarms (k0 + 1) y.f1⟩ :: mkChains (k0 + 1 + (cnAlarms y.f1 : Int)) ys
theorem mkChains_length : ∀ (k0 : Int) (l : List S100), (mkChains k0 l).length = l.length
  | _, [] => rfl
  | k0, y :: ys => by simp [mkChains, mkChains_length _ ys]
theorem cnChains_le : ∀ (l : List S100), l.length ≤ cnChains l
  | [] => Nat.le_refl _
  | y :: ys => by have := cnChains_le ys; simp only [cnChains, List.length_cons]; omega
theorem rdmmChain (pre suf : List S100) (y : S100) : rd_T100 (pre ++ y :: suf) (pre.length : Int) = y := by unfold rd_T100; simp
theorem markChainS_l0 : ∀ (suf pre : List S100) (k0 : Int), 0 ≤ k0 → k0 + (cnChains suf : Int) < 4611686018427387904 → (pre ++ suf).length < 4611686018427387904 → Ev (fun k => laws_markChainS.l0 k (pre ++ suf) k0 (pre.length : Int)) (k0 + (cnChains suf : Int), pre ++ mkChains k0 suf)
  | [], pre, k0, h0, h1, h => by
    refine Ev.step (f := fun _ => some (k0, pre ++ [])) (fun k => ?_) (by rw [show (k0 + (cnChains [] : Int), pre ++ mkChains k0 []) = (k0, pre ++ []) from by simp [cnChains, mkChains]]; exact Ev.now _)
    simp only [laws_markChainS.l0]
    rw [if_neg (not_lt_end pre)]
  | y :: suf, pre, k0, h0, h1, h => by
    have hp : pre.length < 4611686018427387904 := by simp at h; omega
    have hc : cnChains (y :: suf) = cnAlarms y.f1 + 1 + cnChains suf := rfl
    rw [hc] at h1 ⊢
    obtain ⟨K, g⟩ := markChainS_l0 suf (pre ++ [(⟨k0, mkAlarms (k0 + 1) y.f1⟩ : S100)]) (k0 + 1 + (cnAlarms y.f1 : Int)) (by omega) (by omega) (by simpa using h)
    obtain ⟨K0, g0⟩ := markAlarmS_ev y.f1 (k0 + 1) (by omega) (by omega)
    refine ⟨K + K0 + 1, fun k hk => ?_⟩
    obtain ⟨k, rfl⟩ : ∃ m, k = m + 1 := ⟨k - 1, by omega⟩
    have G := g k (by omega)
    have G0 := g0 k (by omega)
    dsimp only at G G0
    have w0 : wrap64 (k0 + 1) = (k0 + 1) := (wrap_id (by omega) (by omega)).trans (by omega)
    simp only [laws_markChainS.l0]
    rw [if_pos (lt_mid pre suf y)]
    simp only [nn, if_true, rdmmChain, Option.bind_some, Int.toNat_natCast, set_mid, wrap_up pre.length (by omega), G0, w0]
    have eL : pre ++ (⟨k0, mkAlarms (k0 + 1) y.f1⟩ : S100) :: suf = (pre ++ [(⟨k0, mkAlarms (k0 + 1) y.f1⟩ : S100)]) ++ suf := by simp
    have eN : ((pre.length + 1 : Nat) : Int) = ((pre ++ [(⟨k0, mkAlarms (k0 + 1) y.f1⟩ : S100)]).length : Int) := by simp
    rw [eL, eN, G]
    refine congrArg some (Prod.ext ?_ ?_)
    · simp only []; push_cast; omega
    · simp [mkChains]
theorem markChainS_ev (l : List S100) (k0 : Int) (h0 : 0 ≤ k0) (h1 : k0 + (cnChains l : Int) < 4611686018427387904) : Ev (fun k => laws_markChainS.f k l k0) (k0 + (cnChains l : Int), mkChains k0 l) := by
  have := cnChains_le l
  exact Ev.congr (fun k => by unfold laws_markChainS.f; rfl) (markChainS_l0 l [] k0 h0 h1 (by simp; omega))
theorem heldChainS_l0 : ∀ (suf pre : List S100) (k0 : Int), 0 ≤ k0 → k0 + (cnChains suf : Int) < 4611686018427387904 → (pre ++ suf).length < 4611686018427387904 → Ev (fun k => laws_heldChainS.l0 k (pre ++ mkChains k0 suf) k0 (pre.length : Int)) (k0 + (cnChains suf : Int))
  | [], pre, k0, h0, h1, h => by
    refine Ev.step (f := fun _ => some k0) (fun k => ?_) (by simpa [cnChains] using Ev.now k0)
    rw [show mkChains k0 [] = [] from rfl]
    simp only [laws_heldChainS.l0]
    rw [if_neg (not_lt_end pre)]
  | y :: suf, pre, k0, h0, h1, h => by
    have hp : pre.length < 4611686018427387904 := by simp at h; omega
    have hc : cnChains (y :: suf) = cnAlarms y.f1 + 1 + cnChains suf := rfl
    rw [hc] at h1 ⊢
    obtain ⟨K, g⟩ := heldChainS_l0 suf (pre ++ [(⟨k0, mkAlarms (k0 + 1) y.f1⟩ : S100)]) (k0 + 1 + (cnAlarms y.f1 : Int)) (by omega) (by omega) (by simpa using h)
    obtain ⟨K0, g0⟩ := heldAlarmS_ev y.f1 (k0 + 1) (by omega) (by omega)
    refine ⟨K + K0 + 1, fun k hk => ?_⟩
    obtain ⟨k, rfl⟩ : ∃ m, k = m + 1 := ⟨k - 1, by omega⟩
    have G := g k (by omega)
    have G0 := g0 k (by omega)
    dsimp only at G G0
    have w0 : wrap64 (k0 + 1) = (k0 + 1) := (wrap_id (by omega) (by omega)).trans (by omega)
    have n1 : ¬ ((k0 + 1) + (cnAlarms y.f1 : Int) < 0) := by omega
    rw [show mkChains k0 (y :: suf) = ⟨k0, mkAlarms (k0 + 1) y.f1⟩ :: mkChains (k0 + 1 + (cnAlarms y.f1 : Int)) suf from rfl]
    simp only [laws_heldChainS.l0]
    rw [if_pos (lt_mid pre _ _)]
    simp only [nn, if_true, if_false, rdmmChain, Option.bind_some, wrap_up pre.length (by omega), G0, w0, n1, bne_self_eq_false, Bool.false_eq_true]
    have eL : pre ++ (⟨k0, mkAlarms (k0 + 1) y.f1⟩ : S100) :: mkChains (k0 + 1 + (cnAlarms y.f1 : Int)) suf = (pre ++ [(⟨k0, mkAlarms (k0 + 1) y.f1⟩ : S100)]) ++ mkChains (k0 + 1 + (cnAlarms y.f1 : Int)) suf := by simp
    have eN : ((pre.length + 1 : Nat) : Int) = ((pre ++ [(⟨k0, mkAlarms (k0 + 1) y.f1⟩ : S100)]).length : Int) := by simp
    rw [eL, eN, G]
    refine congrArg some ?_
    push_cast; omega
theorem heldChainS_ev (l : List S100) (k0 : Int) (h0 : 0 ≤ k0) (h1 : k0 + (cnChains l : Int) < 4611686018427387904) : Ev (fun k => laws_heldChainS.f k (mkChains k0 l) k0) (k0 + (cnChains l : Int)) := by
  have := cnChains_le l
  exact Ev.congr (fun k => by unfold laws_heldChainS.f; rfl) (heldChainS_l0 l [] k0 h0 h1 (by simp; omega))
def cnParts : List S57 → Nat
  | [] => 0
  | y :: ys => cnChains y.f2 + 2 + cnParts ys
noncomputable def mkParts : Int → List S57 → List S57
  | _, [] => []
  | k0, y :: ys => ⟨k0, (k0 + 1), mkChains (k0 + 2) y.f2⟩ :: mkParts (k0 + 2 + (cnChains y.f2 : Int)) ys
theorem mkParts_length : ∀ (k0 : Int) (l : List S57), (mkParts k0 l).length = l.length
  | _, [] => rfl
  | k0, y :: ys => by simp [mkParts, mkParts_length _ ys]
theorem cnParts_le : ∀ (l : List S57), l.length ≤ cnParts l
  | [] => Nat.le_refl _
  | y :: ys => by have := cnParts_le ys; simp only [cnParts, List.length_cons]; omega
theorem rdmmPart (pre suf : List S57) (y : S57) : rd_T57 (pre ++ y :: suf) (pre.length : Int) = y := by unfold rd_T57; simp
theorem markPartS_l0 : ∀ (suf pre : List S57) (k0 : Int), 0 ≤ k0 → k0 + (cnParts suf : Int) < 4611686018427387904 → (pre ++ suf).length < 4611686018427387904 → Ev (fun k => laws_markPartS.l0 k (pre ++ suf) k0 (pre.length : Int)) (k0 + (cnParts suf : Int), pre ++ mkParts k0 suf)
  | [], pre, k0, h0, h1, h => by
    refine Ev.step (f := fun _ => some (k0, pre ++ [])) (fun k => ?_) (by rw [show (k0 + (cnParts [] : Int), pre ++ mkParts k0 []) = (k0, pre ++ []) from by simp [cnParts, mkParts]]; exact Ev.now _)
    simp only [laws_markPartS.l0]
    rw [if_neg (not_lt_end pre)]
  | y :: suf, pre, k0, h0, h1, h => by
    have hp : pre.length < 4611686018427387904 := by simp at h; omega
    have hc : cnParts (y :: suf) = cnChains y.f2 + 2 + cnParts suf := rfl
    rw [hc] at h1 ⊢
    obtain ⟨K, g⟩ := markPartS_l0 suf (pre ++ [(⟨k0, (k0 + 1), mkChains (k0 + 2) y.f2⟩ : S57)]) (k0 + 2 + (cnChains y.f2 : Int)) (by omega) (by omega) (by simpa using h)
    obtain ⟨K0, g0⟩ := markChainS_ev y.f2 (k0 + 2) (by omega) (by omega)
    refine ⟨K + K0 + 1, fun k hk => ?_⟩
    obtain ⟨k, rfl⟩ : ∃ m, k = m + 1 := ⟨k - 1, by omega⟩
    have G := g k (by omega)
    have G0 := g0 k (by omega)
    dsimp only at G G0
    have w0 : wrap64 (k0 + 1) = (k0 + 1) := (wrap_id (by omega) (by omega)).trans (by omega)
    have w1 : wrap64 ((k0 + 1) + 1) = (k0 + 2) := (wrap_id (by omega) (by omega)).trans (by omega)
    simp only [laws_markPartS.l0]
    rw [if_pos (lt_mid pre suf y)]
    simp only [nn, if_true, rdmmPart, Option.bind_some, Int.toNat_natCast, set_mid, wrap_up pre.length (by omega), G0, w0, w1]
    have eL : pre ++ (⟨k0, (k0 + 1), mkChains (k0 + 2) y.f2⟩ : S57) :: suf = (pre ++ [(⟨k0, (k0 + 1), mkChains (k0 + 2) y.f2⟩ : S57)]) ++ suf := by simp
    have eN : ((pre.length + 1 : Nat) : Int) = ((pre ++ [(⟨k0, (k0 + 1), mkChains (k0 + 2) y.f2⟩ : S57)]).length : Int) := by simp
    rw [eL, eN, G]
    refine congrArg some (Prod.ext ?_ ?_)
    · simp only []; push_cast; omega
    · simp [mkParts]
theorem markPartS_ev (l : List S57) (k0 : Int) (h0 : 0 ≤ k0) (h1 : k0 + (cnParts l : Int) < 4611686018427387904) : Ev (fun k => laws_markPartS.f k l k0) (k0 + (cnParts l : Int), mkParts k0 l) := by
  have := cnParts_le l
  exact Ev.congr (fun k => by unfold laws_markPartS.f; rfl) (markPartS_l0 l [] k0 h0 h1 (by simp; omega))
theorem heldPartS_l0 : ∀ (suf pre : List S57) (k0 : Int), 0 ≤ k0 → k0 + (cnParts suf : Int) < 4611686018427387904 → (pre ++ suf).length < 4611686018427387904 → Ev (fun k => laws_heldPartS.l0 k (pre ++ mkParts k0 suf) k0 (pre.length : Int)) (k0 + (cnParts suf : Int))
  | [], pre, k0, h0, h1, h => by
    refine Ev.step (f := fun _ => some k0) (fun k => ?_) (by simpa [cnParts] using Ev.now k0)
    rw [show mkParts k0 [] = [] from rfl]
    simp only [laws_heldPartS.l0]
    rw [if_neg (not_lt_end pre)]
  | y :: suf, pre, k0, h0, h1, h => by
    have hp : pre.length < 4611686018427387904 := by simp at h; omega
    have hc : cnParts (y :: suf) = cnChains y.f2 + 2 + cnParts suf := rfl
    rw [hc] at h1 ⊢
    obtain ⟨K, g⟩ := heldPartS_l0 suf (pre ++ [(⟨k0, (k0 + 1), mkChains (k0 + 2) y.f2⟩ : S57)]) (k0 + 2 + (cnChains y.f2 : Int)) (by omega) (by omega) (by simpa using h)
    obtain ⟨K0, g0⟩ := heldChainS_ev y.f2 (k0 + 2) (by omega) (by omega)
    refine ⟨K + K0 + 1, fun k hk => ?_⟩
    obtain ⟨k, rfl⟩ : ∃ m, k = m + 1 := ⟨k - 1, by omega⟩
    have G := g k (by omega)
    have G0 := g0 k (by omega)
    dsimp only at G G0
    have w0 : wrap64 (k0 + 1) = (k0 + 1) := (wrap_id (by omega) (by omega)).trans (by omega)
    have w1 : wrap64 ((k0 + 1) + 1) = (k0 + 2) := (wrap_id (by omega) (by omega)).trans (by omega)
    have n2 : ¬ ((k0 + 2) + (cnChains y.f2 : Int) < 0) := by omega
    rw [show mkParts k0 (y :: suf) = ⟨k0, (k0 + 1), mkChains (k0 + 2) y.f2⟩ :: mkParts (k0 + 2 + (cnChains y.f2 : Int)) suf from rfl]
    simp only [laws_heldPartS.l0]
    rw [if_pos (lt_mid pre _ _)]
    simp only [nn, if_true, if_false, rdmmPart, Option.bind_some, wrap_up pre.length (by omega), G0, w0, w1, n2, bne_self_eq_false, Bool.false_eq_true]
    have eL : pre ++ (⟨k0, (k0 + 1), mkChains (k0 + 2) y.f2⟩ : S57) :: mkParts (k0 + 2 + (cnChains y.f2 : Int)) suf = (pre ++ [(⟨k0, (k0 + 1), mkChains (k0 + 2) y.f2⟩ : S57)]) ++ mkParts (k0 + 2 + (cnChains y.f2 : Int)) suf := by simp
    have eN : ((pre.length + 1 : Nat) : Int) = ((pre ++ [(⟨k0, (k0 + 1), mkChains (k0 + 2) y.f2⟩ : S57)]).length : Int) := by simp
    rw [eL, eN, G]
    refine congrArg some ?_
    push_cast; omega
theorem heldPartS_ev (l : List S57) (k0 : Int) (h0 : 0 ≤ k0) (h1 : k0 + (cnParts l : Int) < 4611686018427387904) : Ev (fun k => laws_heldPartS.f k (mkParts k0 l) k0) (k0 + (cnParts l : Int)) := by
  have := cnParts_le l
  exact Ev.congr (fun k => by unfold laws_heldPartS.f; rfl) (heldPartS_l0 l [] k0 h0 h1 (by simp; omega))
theorem cnLabels_cv : ∀ l : List S85, cnLabels (l.map cvLabel) ≤ 6 * nnLabels l
  | [] => Nat.le_refl _
  | y :: ys => by
    have h0 := cnLabels_cv ys
    simp only [List.map_cons, cnLabels, nnLabels, cvLabel]
    omega
theorem cnAlarms_cv : ∀ l : List S35, cnAlarms (l.map cvAlarm) ≤ 6 * nnAlarms l
  | [] => Nat.le_refl _
  | y :: ys => by
    have h0 := cnAlarms_cv ys
    have h_0 := cnLabels_cv y.f0
    simp only [List.map_cons, cnAlarms, nnAlarms, cvAlarm]
    omega
theorem cnChains_cv : ∀ l : List S119, cnChains (l.map cvChain) ≤ 6 * nnChains l
  | [] => Nat.le_refl _
  | y :: ys => by
    have h0 := cnChains_cv ys
    have h_1 := cnAlarms_cv y.f1
    simp only [List.map_cons, cnChains, nnChains, cvChain]
    omega
theorem cnParts_cv : ∀ l : List S52, cnParts (l.map cvPart) ≤ 6 * nnParts l
  | [] => Nat.le_refl _
  | y :: ys => by
    have h0 := cnParts_cv ys
    have h_2 := cnChains_cv y.f2
    simp only [List.map_cons, cnParts, nnParts, cvPart]
    omega
end Go.Proofs.Yticgekgojgkbgaa.Print
end
section
/- The law FnExactFindAlarm answers true for all arguments that can be read: the pure statement, without Go and memory. No condition. -/
namespace Go.Proofs.Yticgekgojgkbgaa.Print
open Go.RowKit Go.Proofs.YticgekgojgkbgaaV.PrintWords Go.Proofs.YticgekgojgkbgaaV.PrintLast Go.Proofs.YticgekgojgkbgaaV.PrintMore
set_option linter.unusedVariables false
set_option linter.unusedSimpArgs false
theorem pure_FnExactFindAlarm : laws_FnExactFindAlarm.Pure := by
  intro p0 p1 hp0 hp1
  obtain ⟨r0, ⟨K0, g0⟩, le0, w0⟩ := szPartS_ev p0 hp0 1048576 (by omega) (by omega)
  simp only at g0
  by_cases c0 : r0 < 0
  · exact ⟨K0, by simp [laws_FnExactFindAlarm.f, g0 (K0) (by omega), c0]⟩
  obtain ⟨nl0, nb0⟩ := szPartS_nn p0 hp0 K0 1048576 r0 (g0 K0 (Nat.le_refl _)) (by omega) (by omega) (by omega)
  obtain ⟨r1, ⟨K1, g1⟩, le1, w1⟩ := szLabelS_ev p1 hp1 r0 (by omega) (by omega)
  simp only at g1
  by_cases c1 : r1 < 0
  · exact ⟨K0 + K1, by simp [laws_FnExactFindAlarm.f, g0 (K0 + K1) (by omega), c0, g1 (K0 + K1) (by omega), c1]⟩
  obtain ⟨nl1, nb1⟩ := szLabelS_nn p1 hp1 K1 r0 r1 (g1 K1 (Nat.le_refl _)) (by omega) (by omega) (by omega)
  obtain ⟨g, hg, hw⟩ : ∃ g, findAlarm (p0.map cvPart) (p1.map cvLabel) = g ∧ WiAlarm g.1 := ⟨_, rfl, findAlarm_wi (Wi_mapPart (w0 (by omega)))⟩
  have b0 : cnParts (p0.map cvPart) ≤ 6 * nnParts p0 := cnParts_cv _
  have n0 : ((1 + (cnParts (p0.map cvPart) : Int)) < 0) = False := eq_false (by omega)
  have b1 : cnLabels (p1.map cvLabel) ≤ 6 * nnLabels p1 := cnLabels_cv _
  have n1 : (((1 + (cnParts (p0.map cvPart) : Int)) + (cnLabels (p1.map cvLabel) : Int)) < 0) = False := eq_false (by omega)
  have b2 := cnLabels_wi hw.1
  have n2 : ((1 + (cnLabels g.1.f0 : Int)) < 0) = False := eq_false (by omega)
  obtain ⟨L0, f0⟩ := toPartS_ev p0 (w0 (by omega))
  obtain ⟨L1, f1⟩ := eqPartS_ev (p0.map cvPart) (Wi_mapPart (w0 (by omega)))
  obtain ⟨L2, f2⟩ := toLabelS_ev p1 (w1 (by omega))
  obtain ⟨L3, f3⟩ := eqLabelS_ev (p1.map cvLabel) (Wi_mapLabel (w1 (by omega)))
  obtain ⟨L4, f4⟩ := hg ▸ specFindAlarm_ev (p0.map cvPart) (p1.map cvLabel) (Wi_mapPart (w0 (by omega))) (Wi_mapLabel (w1 (by omega)))
  obtain ⟨L5, f5⟩ := hg ▸ implFindAlarm_ev (p0.map cvPart) (p1.map cvLabel) (Wi_mapPart (w0 (by omega))) (Wi_mapLabel (w1 (by omega)))
  obtain ⟨L6, f6⟩ := markPartS_ev (p0.map cvPart) 1 (by omega) (by omega)
  obtain ⟨L7, f7⟩ := markLabelS_ev (p1.map cvLabel) (1 + (cnParts (p0.map cvPart) : Int)) (by omega) (by omega)
  obtain ⟨L8, f8⟩ := eqAlarm_ev g.1 hw
  obtain ⟨L9, f9⟩ := markLabelS_ev g.1.f0 1 (by omega) (by omega)
  obtain ⟨L10, f10⟩ := heldLabelS_ev g.1.f0 1 (by omega) (by omega)
  have G0 := fun m => g0 (K0 + K1 + L0 + L1 + L2 + L3 + L4 + L5 + L6 + L7 + L8 + L9 + L10 + m) (by omega)
  have G1 := fun m => g1 (K0 + K1 + L0 + L1 + L2 + L3 + L4 + L5 + L6 + L7 + L8 + L9 + L10 + m) (by omega)
  have F0 := fun m => f0 (K0 + K1 + L0 + L1 + L2 + L3 + L4 + L5 + L6 + L7 + L8 + L9 + L10 + m) (by omega)
  have F1 := fun m => f1 (K0 + K1 + L0 + L1 + L2 + L3 + L4 + L5 + L6 + L7 + L8 + L9 + L10 + m) (by omega)
  have F2 := fun m => f2 (K0 + K1 + L0 + L1 + L2 + L3 + L4 + L5 + L6 + L7 + L8 + L9 + L10 + m) (by omega)
  have F3 := fun m => f3 (K0 + K1 + L0 + L1 + L2 + L3 + L4 + L5 + L6 + L7 + L8 + L9 + L10 + m) (by omega)
  have F4 := fun m => f4 (K0 + K1 + L0 + L1 + L2 + L3 + L4 + L5 + L6 + L7 + L8 + L9 + L10 + m) (by omega)
  have F5 := fun m => f5 (K0 + K1 + L0 + L1 + L2 + L3 + L4 + L5 + L6 + L7 + L8 + L9 + L10 + m) (by omega)
  have F6 := fun m => f6 (K0 + K1 + L0 + L1 + L2 + L3 + L4 + L5 + L6 + L7 + L8 + L9 + L10 + m) (by omega)
  have F7 := fun m => f7 (K0 + K1 + L0 + L1 + L2 + L3 + L4 + L5 + L6 + L7 + L8 + L9 + L10 + m) (by omega)
  have F8 := fun m => f8 (K0 + K1 + L0 + L1 + L2 + L3 + L4 + L5 + L6 + L7 + L8 + L9 + L10 + m) (by omega)
  have F9 := fun m => f9 (K0 + K1 + L0 + L1 + L2 + L3 + L4 + L5 + L6 + L7 + L8 + L9 + L10 + m) (by omega)
  have F10 := fun m => f10 (K0 + K1 + L0 + L1 + L2 + L3 + L4 + L5 + L6 + L7 + L8 + L9 + L10 + m) (by omega)
  simp only at F0 F1 F2 F3 F4 F5 F6 F7 F8 F9 F10
  exact ⟨K0 + K1 + L0 + L1 + L2 + L3 + L4 + L5 + L6 + L7 + L8 + L9 + L10 + 3, by simp [laws_FnExactFindAlarm.f, laws_heldAlarm.f, laws_markAlarm.f, G0, G1, F0, F1, F2, F3, F4, F5, F6, F7, F8, F9, F10, c0, c1, n0, n1, n2]⟩

end Go.Proofs.Yticgekgojgkbgaa.Print
end
