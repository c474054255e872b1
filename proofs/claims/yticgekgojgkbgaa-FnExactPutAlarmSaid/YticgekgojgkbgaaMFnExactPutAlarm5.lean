import Derived.Test.YticgekgojgkbgaaMFnExactPutAlarm1
import Derived.Test.YticgekgojgkbgaaMFnExactPutAlarm4
import Derived.Test.YticgekgojgkbgaaMFnExactPutAlarm2
import Derived.Test.YticgekgojgkbgaaMFnExactPutAlarm3
section
namespace Go.Proofs.Yticgekgojgkbgaa.Print
open Go.RowKit Go.Proofs.YticgekgojgkbgaaV.PrintWords Go.Proofs.YticgekgojgkbgaaV.PrintLast Go.Proofs.YticgekgojgkbgaaV.PrintMore
attribute [local go_sem] max2_int min2_int max_two min_two max_three min_three max_four min_four
set_option linter.unusedVariables false
set_option linter.unusedSimpArgs false
set_option maxHeartbeats 8000000
set_option maxRecDepth 100000
def laws_heldAlarmS.l0 : Nat → List (S43) → Int → Int → Option (Int)
 | 0, _, _, _ => none
 | k + 1, x0, x1, x5 => if x5 < (x0.length : Int) then (if 0 ≤ x5 then ((laws_heldLabelS.f k ((rd_T43 x0 x5).f0) x1).bind fun t937 => (if t937 < 0 then (none) else (if ((rd_T43 x0 x5).f1) = t937 then (if ((rd_T43 x0 x5).f2) = (wrap64 (t937 + 1)) then ((laws_markText.f k (wrap64 ((wrap64 (t937 + 1)) + 1))).bind fun t941 => (if ((rd_T43 x0 x5).f3).toList = t941.toList then (laws_heldAlarmS.l0 k x0 (wrap64 ((wrap64 ((wrap64 (t937 + 1)) + 1)) + 1)) (wrap64 (x5 + 1))) else (none))) else (none)) else (none)))) else (none)) else (some x1)
def laws_heldAlarmS.f (k : Nat) (l0 : List (S43)) (a1 : Int) : Option (Int) := laws_heldAlarmS.l0 k l0 a1 0
theorem laws_heldAlarmS.mono_l : ∀ k, (∀ y0 y1 y2, LeO (laws_heldAlarmS.l0 k y0 y1 y2) (laws_heldAlarmS.l0 (k + 1) y0 y1 y2))
 | 0 => fun _ _ _ r h => by simp [laws_heldAlarmS.l0] at h
 | k + 1 => by
  have ih0 := laws_heldAlarmS.mono_l k
  intro y0 y1 y2
  unfold laws_heldAlarmS.l0
  repeat' first
  | (with_reducible exact ih0 _ _ _)
  | (with_reducible exact laws_heldLabelS.mono _ _ _)
  | (with_reducible exact laws_markText.mono _ _)
  | (with_reducible exact LeO.refl _)
  | (with_reducible exact LeO.none _)
  | (with_reducible refine LeO.ite ?_ ?_)
  | (with_reducible refine LeO.bind ?_ (fun _ => ?_))
  | exact ih0 _ _ _
  | exact laws_heldLabelS.mono _ _ _
  | exact laws_markText.mono _ _
theorem laws_heldAlarmS.mono : ∀ a0 a1 k, LeO (laws_heldAlarmS.f k a0 a1) (laws_heldAlarmS.f (k + 1) a0 a1) := by
 intro a0 a1 k
 have ih0 := laws_heldAlarmS.mono_l k
 unfold laws_heldAlarmS.f
 repeat' first | (with_reducible first | exact ih0 _ _ _ | exact laws_heldLabelS.mono _ _ _ | exact laws_markText.mono _ _ | exact LeO.refl _ | exact LeO.none _ | refine LeO.ite ?_ ?_ | refine LeO.bind ?_ (fun _ => ?_)) | exact ih0 _ _ _ | exact laws_heldLabelS.mono _ _ _ | exact laws_markText.mono _ _
def laws_heldAlarmS.T13 : Bool × List (List Nat × List Nat) := (true, [([], []), ([], []), ([0, 1], [0, 1]), ([2], [2]), ([3], [3]), ([], []), ([5], [5]), ([4, 6], [4, 6])])
def laws_heldAlarmS.B13 : List Nat := [0, 0, 3, 7, 15, 0, 32, 127]
theorem laws_heldAlarmS.tab13 : rtab .any (opsOf Try.f54 13) = laws_heldAlarmS.T13 := by kernel_rfl
theorem laws_heldAlarmS.bits13 : waitsOk laws_heldAlarmS.T13.2 laws_heldAlarmS.B13 = true := by kernel_rfl
theorem laws_heldAlarmS.calls (k : Nat) (A0 : Option Addr) (c0 : Nat) (l0 : List (S43)) (a1 : Int) (r : Int) (w : World) (hr0 : Kd.C k43 w A0 l0.length l0) (hc0 : l0.length ≤ c0) (h : laws_heldAlarmS.f k l0 a1 = some r) :
  Calls Try.prog 54 #[.slice A0 l0.length c0, .int .i64 a1] w fun e w' => e = .returned (.int .i64 r) ∧ Below w.heap.size w w' := by
 have HR0 := Aside0.mk hr0
 have HC0 := Aside0.mk hc0
 clear hr0 hc0
 have HB := Aside0.mk (Below.refl w.heap.size w)
 have H : (laws_heldAlarmS.l0 k l0 a1 0) = some r := h
 clear h
 have H' := Aside0.mk H
 clear H
 go_enter Try.func54, Try.ntmps54
 go_wp2
 go_loopg [1, 5] k (fun kq v1 v5 w' => ∃ (x1_1 : Int) (x5_1 : Int), v1 = .int .i64 x1_1 ∧ v5 = .int .i64 x5_1 ∧ Aside0 (laws_heldAlarmS.l0 kq l0 x1_1 x5_1 = some r) ∧ Aside0 (kq ≤ k) ∧ Aside0 (Below w.heap.size w w'))
 case atStart => exact ⟨(a1), (0), (by first | rfl | (simp; done) | (simp [*]; done)), (by first | rfl | (simp; done) | (simp [*]; done)), H', ⟨Nat.le_refl _⟩, ⟨by exact hs_ HB.out⟩⟩
 case round =>
  clear H'
  try clear p2
  obtain ⟨x1_1, x5_1, rfl, rfl, HA, HK1, HB⟩ := hrel
  cases gk with
  | zero => exact absurd HA.out (by simp [laws_heldAlarmS.l0])
  | succ k1 =>
   have H := HA.out
   clear HA
   simp only [laws_heldAlarmS.l0] at H
   by_cases c3 : x5_1 < (l0.length : Int)
   ·
    rw [if_pos c3] at H
    have c3b0 := decide_eq_true c3
    clear c3
    by_cases c4 : 0 ≤ x5_1
    ·
     rw [if_pos c4] at H
     have c4b0 := decide_eq_true c4
     clear c4
     replace H := Option.bind_eq_some_iff.mp H
     obtain ⟨t937, A50, H⟩ := H
     have A5 := Aside0.mk A50
     clear A50
     by_cases c6 : t937 < 0
     ·
      rw [if_pos c6] at H
      exact absurd H (by simp)
     rw [if_neg c6] at H
     have c6b0 : decide (t937 < 0) = false := decide_eq_false c6
     clear c6
     by_cases c7 : ((rd_T43 l0 x5_1).f1) = t937
     ·
      rw [if_pos c7] at H
      have c7b0 : (((rd_T43 l0 x5_1).f1) == t937) = true := beq_iff_eq.mpr c7
      have c7b1 : (((rd_T43 l0 x5_1).f1) != t937) = false := bne_eq_false_iff_eq.mpr c7
      clear c7
      by_cases c8 : ((rd_T43 l0 x5_1).f2) = (wrap64 (t937 + 1))
      ·
       rw [if_pos c8] at H
       have c8b0 : (((rd_T43 l0 x5_1).f2) == (wrap64 (t937 + 1))) = true := beq_iff_eq.mpr c8
       have c8b1 : (((rd_T43 l0 x5_1).f2) != (wrap64 (t937 + 1))) = false := bne_eq_false_iff_eq.mpr c8
       clear c8
       replace H := Option.bind_eq_some_iff.mp H
       obtain ⟨t941, A90, H⟩ := H
       have A9 := Aside0.mk A90
       clear A90
       by_cases c10 : ((rd_T43 l0 x5_1).f3).toList = t941.toList
       ·
        rw [if_pos c10] at H
        have c10b0 : (((rd_T43 l0 x5_1).f3).toList == t941.toList) = true := beq_iff_eq.mpr c10
        have c10b1 : (((rd_T43 l0 x5_1).f3).toList != t941.toList) = false := bne_eq_false_iff_eq.mpr c10
        clear c10
        have H' := Aside0.mk H
        clear H
        have p936 : 0 ≤ (x5_1 : Int) := of_decide_eq_true (by with_reducible assumption)
        have q936 : x5_1 < (l0.length : Int) := of_decide_eq_true (by with_reducible assumption)
        obtain ⟨ad936, A936_0, c936_0, e936, hx936_0, hx936_1, hx936_2, hx936_3, hl936_0, hi936_0⟩ := at_T43 HR0.out x5_1 p936 q936
        cases e936
        replace hx936_0 := cl_ HB.out hx936_0
        replace hx936_1 := cl_ HB.out hx936_1
        replace hx936_2 := cl_ HB.out hx936_2
        replace hx936_3 := cl_ HB.out hx936_3
        have HR936_0 := Aside0.mk hi936_0
        have HC936_0 := Aside0.mk hl936_0
        clear hi936_0 hl936_0
        replace p936 := eq_true p936
        replace q936 := eq_true q936
        try go_wp2_with (first | ((with_reducible refine gate_callee (f := 83) rfl ?_); refine gl_ (some 18) Try.func83 #[.slice A936_0 ((rd_T43 l0 x5_1).f0).length c936_0, .int .i64 x1_1] ?_; (with_reducible refine (laws_heldLabelS.calls k1 _ _ ((rd_T43 l0 x5_1).f0) x1_1 t937 _ ?side1 ?side2 A5.out).mono ?_); (case side1 => exact cp_ ((Kd.C_below HR936_0.out HB.out))); (case side2 => exact HC936_0.out); rintro e w11 ⟨rfl, hb⟩; refine ⟨_, rfl, ?_⟩; replace HB := st_ HB hb; (try clear hb); (try clear hk); have p938 : 0 ≤ (x5_1 : Int) := of_decide_eq_true (by with_reducible assumption); have q938 : x5_1 < (l0.length : Int) := of_decide_eq_true (by with_reducible assumption); obtain ⟨ad938, A938_0, c938_0, e938, hx938_0, hx938_1, hx938_2, hx938_3, hl938_0, hi938_0⟩ := at_T43 HR0.out x5_1 p938 q938; obtain rfl : ad936 = ad938 := (by injection e938); replace hx938_0 := cl_ HB.out hx938_0; replace hx938_1 := cl_ HB.out hx938_1; replace hx938_2 := cl_ HB.out hx938_2; replace hx938_3 := cl_ HB.out hx938_3; have HR938_0 := Aside0.mk hi938_0; have HC938_0 := Aside0.mk hl938_0; clear hi938_0 hl938_0; replace p938 := eq_true p938; replace q938 := eq_true q938; have p939 : 0 ≤ (x5_1 : Int) := of_decide_eq_true (by with_reducible assumption); have q939 : x5_1 < (l0.length : Int) := of_decide_eq_true (by with_reducible assumption); obtain ⟨ad939, A939_0, c939_0, e939, hx939_0, hx939_1, hx939_2, hx939_3, hl939_0, hi939_0⟩ := at_T43 HR0.out x5_1 p939 q939; obtain rfl : ad936 = ad939 := (by injection e939); replace hx939_0 := cl_ HB.out hx939_0; replace hx939_1 := cl_ HB.out hx939_1; replace hx939_2 := cl_ HB.out hx939_2; replace hx939_3 := cl_ HB.out hx939_3; have HR939_0 := Aside0.mk hi939_0; have HC939_0 := Aside0.mk hl939_0; clear hi939_0 hl939_0; replace p939 := eq_true p939; replace q939 := eq_true q939; have ea_ := Option.some.inj (hx938_0.symm.trans hx939_0); injection ea_ with ea_ en_ ec_; subst ea_; subst ec_; clear en_))
        replace HB := Aside0.mk (bd_ HB.out)
        have p940 : 0 ≤ (x5_1 : Int) := of_decide_eq_true (by with_reducible assumption)
        have q940 : x5_1 < (l0.length : Int) := of_decide_eq_true (by with_reducible assumption)
        obtain ⟨ad940, A940_0, c940_0, e940, hx940_0, hx940_1, hx940_2, hx940_3, hl940_0, hi940_0⟩ := at_T43 HR0.out x5_1 p940 q940
        have hw940_3 := hx940_3
        have hw940_2 := hx940_2
        have hw940_1 := hx940_1
        have hw940_0 := hx940_0
        obtain rfl : ad936 = ad940 := (by injection e940)
        replace hx940_0 := cl_ HB.out hx940_0
        replace hx940_1 := cl_ HB.out hx940_1
        replace hx940_2 := cl_ HB.out hx940_2
        replace hx940_3 := cl_ HB.out hx940_3
        have HR940_0 := Aside0.mk hi940_0
        have HC940_0 := Aside0.mk hl940_0
        clear hi940_0 hl940_0
        replace p940 := eq_true p940
        replace q940 := eq_true q940
        refine start_ (n := 8) (S := fun w' => w'.cell? (ad936.add ((x5_1).toNat * 4)) = some (.slice A940_0 ((rd_T43 l0 x5_1).f0).length c940_0) ∧ w'.cell? ⟨(ad936.add ((x5_1).toNat * 4)).block, (ad936.add ((x5_1).toNat * 4)).off + 1, none⟩ = some (.int .i64 ((rd_T43 l0 x5_1).f1)) ∧ w'.cell? ⟨(ad936.add ((x5_1).toNat * 4)).block, (ad936.add ((x5_1).toNat * 4)).off + 2, none⟩ = some (.int .i64 ((rd_T43 l0 x5_1).f2)) ∧ w'.cell? ⟨(ad936.add ((x5_1).toNat * 4)).block, (ad936.add ((x5_1).toNat * 4)).off + 3, none⟩ = some (.string ((rd_T43 l0 x5_1).f3))) (ds := []) #[f_,f_,f_,f_,f_,f_,f_,f_] (by kernel_rfl) rfl rfl ⟨((HB.out.cell (World.block_lt_of_cell? w _ hw940_0)).trans hw940_0), ((HB.out.cell (World.block_lt_of_cell? w _ hw940_1)).trans hw940_1), ((HB.out.cell (World.block_lt_of_cell? w _ hw940_2)).trans hw940_2), ((HB.out.cell (World.block_lt_of_cell? w _ hw940_3)).trans hw940_3)⟩ (fun hHeld => ?_); refine with_tabW laws_heldAlarmS.tab13 laws_heldAlarmS.bits13 (fun HT_ HW_ => ?_)
        generalize w11.drew = w12 at HB HR940_0 hx940_0 hx940_1 hx940_2 hx940_3 hHeld ⊢
        refine pw_ 0 39 (b_ 1 7) rfl rfl HT_.out ?_
        refine pw_ 1 40 (b_ 2 6) rfl rfl HT_.out ?_
        refine pw_ 2 41 (b_ 3 5) rfl rfl HT_.out ?_
        refine pw_ 3 42 (b_ 4 4) rfl rfl HT_.out ?_
        refine pw_ 5 44 #[t_,t_,t_,t_,f_,t_,f_,f_] rfl rfl HT_.out ?_
        refine take_ (i := 4) (N := some 43) (v := ?_) (a' := ?_) #[t_,t_,t_,t_,t_,t_,f_,f_] rfl rfl (take_ofW HT_.out HW_.out (by kernel_rfl)) (fun _ _ _ h => h) (Or.inl ⟨by rfl, ?_⟩) hHeld ?_ ?_
        rotate_left
        ·
         rintro w' ⟨s0, s1, s2, s3⟩
         go_simp
         with_reducible rfl
        rotate_left
        ·
         simp only [fr_]
         rfl
        refine one_ (i := 6) (N := some 45) #[t_,t_,t_,t_,t_,t_,t_,f_] rfl rfl (one_of HT_.out (by kernel_rfl)) (by decide) (fun K hK => ?_)
        refine gs_ Try.func82 #[.int .i64 (wrap64 ((wrap64 (t937 + 1)) + 1))] ?_
        with_reducible refine (laws_markText.calls k1 (wrap64 ((wrap64 (t937 + 1)) + 1)) t941 _ A9.out).mono ?_
        rintro e w13 ⟨rfl, hb⟩
        refine ⟨_, rfl, ?_⟩
        replace HB := st_ HB hb
        (try clear hb)
        (try clear hk)
        refine hK.out _ _ ⟨((HB.out.cell (World.block_lt_of_cell? w _ hw940_0)).trans hw940_0), ((HB.out.cell (World.block_lt_of_cell? w _ hw940_1)).trans hw940_1), ((HB.out.cell (World.block_lt_of_cell? w _ hw940_2)).trans hw940_2), ((HB.out.cell (World.block_lt_of_cell? w _ hw940_3)).trans hw940_3)⟩ (fun hHeld => ?_)
        clear hK K
        refine norm_ (a' := ?_) ?_ ?_
        rotate_left
        ·
         show Act.put _ (some 45) _ = _
         simp only [fr_]
         rfl
        refine pw_ 7 46 (b_ 8 0) rfl rfl HT_.out ?_
        refine done_ (done_of HT_.out (by kernel_rfl)) ?_
        try go_wp2
        go_roundg k1
        case measure => have := HK1.out; omega
        case rel => exact ⟨(wrap64 ((wrap64 ((wrap64 (t937 + 1)) + 1)) + 1)), (wrap64 (x5_1 + 1)), (by first | rfl | (simp; done) | (simp [*]; done)), (by first | rfl | (simp; done) | (simp [*]; done)), H', ⟨by have := HK1.out; omega⟩, ⟨by exact hs_ HB.out⟩⟩
       rw [if_neg c10] at H
       exact absurd H (by simp)
      rw [if_neg c8] at H
      exact absurd H (by simp)
     rw [if_neg c7] at H
     exact absurd H (by simp)
    rw [if_neg c4] at H
    exact absurd H (by simp)
   rw [if_neg c3] at H
   have c3b0 : decide (x5_1 < (l0.length : Int)) = false := decide_eq_false c3
   clear c3
   obtain rfl := Option.some.inj H
   go_wp2
   go_ret
   exact an_ (by exact hs_ HB.out)
def laws_heldChainS.l0 : Nat → List (S100) → Int → Int → Option (Int)
 | 0, _, _, _ => none
 | k + 1, x0, x1, x5 => if x5 < (x0.length : Int) then (if 0 ≤ x5 then (if ((rd_T100 x0 x5).f0) = x1 then ((laws_heldAlarmS.f k ((rd_T100 x0 x5).f1) (wrap64 (x1 + 1))).bind fun t944 => (if t944 < 0 then (none) else (laws_heldChainS.l0 k x0 t944 (wrap64 (x5 + 1))))) else (none)) else (none)) else (some x1)
def laws_heldChainS.f (k : Nat) (l0 : List (S100)) (a1 : Int) : Option (Int) := laws_heldChainS.l0 k l0 a1 0
theorem laws_heldChainS.mono_l : ∀ k, (∀ y0 y1 y2, LeO (laws_heldChainS.l0 k y0 y1 y2) (laws_heldChainS.l0 (k + 1) y0 y1 y2))
 | 0 => fun _ _ _ r h => by simp [laws_heldChainS.l0] at h
 | k + 1 => by
  have ih0 := laws_heldChainS.mono_l k
  intro y0 y1 y2
  unfold laws_heldChainS.l0
  repeat' first
  | (with_reducible exact ih0 _ _ _)
  | (with_reducible exact laws_heldAlarmS.mono _ _ _)
  | (with_reducible exact LeO.refl _)
  | (with_reducible exact LeO.none _)
  | (with_reducible refine LeO.ite ?_ ?_)
  | (with_reducible refine LeO.bind ?_ (fun _ => ?_))
  | exact ih0 _ _ _
  | exact laws_heldAlarmS.mono _ _ _
theorem laws_heldChainS.mono : ∀ a0 a1 k, LeO (laws_heldChainS.f k a0 a1) (laws_heldChainS.f (k + 1) a0 a1) := by
 intro a0 a1 k
 have ih0 := laws_heldChainS.mono_l k
 unfold laws_heldChainS.f
 repeat' first | (with_reducible first | exact ih0 _ _ _ | exact laws_heldAlarmS.mono _ _ _ | exact LeO.refl _ | exact LeO.none _ | refine LeO.ite ?_ ?_ | refine LeO.bind ?_ (fun _ => ?_)) | exact ih0 _ _ _ | exact laws_heldAlarmS.mono _ _ _
theorem laws_heldChainS.calls (k : Nat) (A0 : Option Addr) (c0 : Nat) (l0 : List (S100)) (a1 : Int) (r : Int) (w : World) (hr0 : Kd.C k100 w A0 l0.length l0) (hc0 : l0.length ≤ c0) (h : laws_heldChainS.f k l0 a1 = some r) :
  Calls Try.prog 88 #[.slice A0 l0.length c0, .int .i64 a1] w fun e w' => e = .returned (.int .i64 r) ∧ Below w.heap.size w w' := by
 have HR0 := Aside0.mk hr0
 have HC0 := Aside0.mk hc0
 clear hr0 hc0
 have HB := Aside0.mk (Below.refl w.heap.size w)
 have H : (laws_heldChainS.l0 k l0 a1 0) = some r := h
 clear h
 have H' := Aside0.mk H
 clear H
 go_enter Try.func88, Try.ntmps88
 go_wp2
 go_loopg [1, 5] k (fun kq v1 v5 w' => ∃ (x1_1 : Int) (x5_1 : Int), v1 = .int .i64 x1_1 ∧ v5 = .int .i64 x5_1 ∧ Aside0 (laws_heldChainS.l0 kq l0 x1_1 x5_1 = some r) ∧ Aside0 (kq ≤ k) ∧ Aside0 (Below w.heap.size w w'))
 case atStart => exact ⟨(a1), (0), (by first | rfl | (simp; done) | (simp [*]; done)), (by first | rfl | (simp; done) | (simp [*]; done)), H', ⟨Nat.le_refl _⟩, ⟨by exact hs_ HB.out⟩⟩
 case round =>
  clear H'
  try clear p2
  obtain ⟨x1_1, x5_1, rfl, rfl, HA, HK1, HB⟩ := hrel
  cases gk with
  | zero => exact absurd HA.out (by simp [laws_heldChainS.l0])
  | succ k1 =>
   have H := HA.out
   clear HA
   simp only [laws_heldChainS.l0] at H
   by_cases c3 : x5_1 < (l0.length : Int)
   ·
    rw [if_pos c3] at H
    have c3b0 := decide_eq_true c3
    clear c3
    by_cases c4 : 0 ≤ x5_1
    ·
     rw [if_pos c4] at H
     have c4b0 := decide_eq_true c4
     clear c4
     by_cases c5 : ((rd_T100 l0 x5_1).f0) = x1_1
     ·
      rw [if_pos c5] at H
      have c5b0 : (((rd_T100 l0 x5_1).f0) == x1_1) = true := beq_iff_eq.mpr c5
      have c5b1 : (((rd_T100 l0 x5_1).f0) != x1_1) = false := bne_eq_false_iff_eq.mpr c5
      clear c5
      replace H := Option.bind_eq_some_iff.mp H
      obtain ⟨t944, A60, H⟩ := H
      have A6 := Aside0.mk A60
      clear A60
      by_cases c7 : t944 < 0
      ·
       rw [if_pos c7] at H
       exact absurd H (by simp)
      rw [if_neg c7] at H
      have c7b0 : decide (t944 < 0) = false := decide_eq_false c7
      clear c7
      have H' := Aside0.mk H
      clear H
      have p942 : 0 ≤ (x5_1 : Int) := of_decide_eq_true (by with_reducible assumption)
      have q942 : x5_1 < (l0.length : Int) := of_decide_eq_true (by with_reducible assumption)
      obtain ⟨ad942, A942_1, c942_1, e942, hx942_0, hx942_1, hl942_1, hi942_1⟩ := at_T100 HR0.out x5_1 p942 q942
      cases e942
      replace hx942_0 := cl_ HB.out hx942_0
      replace hx942_1 := cl_ HB.out hx942_1
      have HR942_1 := Aside0.mk hi942_1
      have HC942_1 := Aside0.mk hl942_1
      clear hi942_1 hl942_1
      replace p942 := eq_true p942
      replace q942 := eq_true q942
      have p943 : 0 ≤ (x5_1 : Int) := of_decide_eq_true (by with_reducible assumption)
      have q943 : x5_1 < (l0.length : Int) := of_decide_eq_true (by with_reducible assumption)
      obtain ⟨ad943, A943_1, c943_1, e943, hx943_0, hx943_1, hl943_1, hi943_1⟩ := at_T100 HR0.out x5_1 p943 q943
      obtain rfl : ad942 = ad943 := (by injection e943)
      replace hx943_0 := cl_ HB.out hx943_0
      replace hx943_1 := cl_ HB.out hx943_1
      have HR943_1 := Aside0.mk hi943_1
      have HC943_1 := Aside0.mk hl943_1
      clear hi943_1 hl943_1
      replace p943 := eq_true p943
      replace q943 := eq_true q943
      have ea_ := Option.some.inj (hx942_1.symm.trans hx943_1)
      injection ea_ with ea_ en_ ec_
      subst ea_
      subst ec_
      clear en_
      go_wp2_with (first | ((with_reducible refine gate_callee (f := 54) rfl ?_); refine gl_ (some 27) Try.func54 #[.slice A942_1 ((rd_T100 l0 x5_1).f1).length c942_1, .int .i64 (wrap64 (x1_1 + 1))] ?_; (with_reducible refine (laws_heldAlarmS.calls k1 _ _ ((rd_T100 l0 x5_1).f1) (wrap64 (x1_1 + 1)) t944 _ ?side1 ?side2 A6.out).mono ?_); (case side1 => exact cp_ ((Kd.C_below HR943_1.out HB.out))); (case side2 => exact HC943_1.out); rintro e w8 ⟨rfl, hb⟩; refine ⟨_, rfl, ?_⟩; replace HB := st_ HB hb; (try clear hb); (try clear hk)))
      go_roundg k1
      case measure => have := HK1.out; omega
      case rel => exact ⟨(t944), (wrap64 (x5_1 + 1)), (by first | rfl | (simp; done) | (simp [*]; done)), (by first | rfl | (simp; done) | (simp [*]; done)), H', ⟨by have := HK1.out; omega⟩, ⟨by exact hs_ HB.out⟩⟩
     rw [if_neg c5] at H
     exact absurd H (by simp)
    rw [if_neg c4] at H
    exact absurd H (by simp)
   rw [if_neg c3] at H
   have c3b0 : decide (x5_1 < (l0.length : Int)) = false := decide_eq_false c3
   clear c3
   obtain rfl := Option.some.inj H
   go_wp2
   go_ret
   exact an_ (by exact hs_ HB.out)
def laws_heldPartS.l0 : Nat → List (S57) → Int → Int → Option (Int)
 | 0, _, _, _ => none
 | k + 1, x0, x1, x5 => if x5 < (x0.length : Int) then (if 0 ≤ x5 then (if ((rd_T57 x0 x5).f0) = x1 then (if ((rd_T57 x0 x5).f1) = (wrap64 (x1 + 1)) then ((laws_heldChainS.f k ((rd_T57 x0 x5).f2) (wrap64 ((wrap64 (x1 + 1)) + 1))).bind fun t1085 => (if t1085 < 0 then (none) else (laws_heldPartS.l0 k x0 t1085 (wrap64 (x5 + 1))))) else (none)) else (none)) else (none)) else (some x1)
def laws_heldPartS.f (k : Nat) (l0 : List (S57)) (a1 : Int) : Option (Int) := laws_heldPartS.l0 k l0 a1 0
theorem laws_heldPartS.mono_l : ∀ k, (∀ y0 y1 y2, LeO (laws_heldPartS.l0 k y0 y1 y2) (laws_heldPartS.l0 (k + 1) y0 y1 y2))
 | 0 => fun _ _ _ r h => by simp [laws_heldPartS.l0] at h
 | k + 1 => by
  have ih0 := laws_heldPartS.mono_l k
  intro y0 y1 y2
  unfold laws_heldPartS.l0
  repeat' first
  | (with_reducible exact ih0 _ _ _)
  | (with_reducible exact laws_heldChainS.mono _ _ _)
  | (with_reducible exact LeO.refl _)
  | (with_reducible exact LeO.none _)
  | (with_reducible refine LeO.ite ?_ ?_)
  | (with_reducible refine LeO.bind ?_ (fun _ => ?_))
  | exact ih0 _ _ _
  | exact laws_heldChainS.mono _ _ _
theorem laws_heldPartS.mono : ∀ a0 a1 k, LeO (laws_heldPartS.f k a0 a1) (laws_heldPartS.f (k + 1) a0 a1) := by
 intro a0 a1 k
 have ih0 := laws_heldPartS.mono_l k
 unfold laws_heldPartS.f
 repeat' first | (with_reducible first | exact ih0 _ _ _ | exact laws_heldChainS.mono _ _ _ | exact LeO.refl _ | exact LeO.none _ | refine LeO.ite ?_ ?_ | refine LeO.bind ?_ (fun _ => ?_)) | exact ih0 _ _ _ | exact laws_heldChainS.mono _ _ _
theorem laws_heldPartS.calls (k : Nat) (A0 : Option Addr) (c0 : Nat) (l0 : List (S57)) (a1 : Int) (r : Int) (w : World) (hr0 : Kd.C k57 w A0 l0.length l0) (hc0 : l0.length ≤ c0) (h : laws_heldPartS.f k l0 a1 = some r) :
  Calls Try.prog 49 #[.slice A0 l0.length c0, .int .i64 a1] w fun e w' => e = .returned (.int .i64 r) ∧ Below w.heap.size w w' := by
 have HR0 := Aside0.mk hr0
 have HC0 := Aside0.mk hc0
 clear hr0 hc0
 have HB := Aside0.mk (Below.refl w.heap.size w)
 have H : (laws_heldPartS.l0 k l0 a1 0) = some r := h
 clear h
 have H' := Aside0.mk H
 clear H
 go_enter Try.func49, Try.ntmps49
 go_wp2
 go_loopg [1, 5] k (fun kq v1 v5 w' => ∃ (x1_1 : Int) (x5_1 : Int), v1 = .int .i64 x1_1 ∧ v5 = .int .i64 x5_1 ∧ Aside0 (laws_heldPartS.l0 kq l0 x1_1 x5_1 = some r) ∧ Aside0 (kq ≤ k) ∧ Aside0 (Below w.heap.size w w'))
 case atStart => exact ⟨(a1), (0), (by first | rfl | (simp; done) | (simp [*]; done)), (by first | rfl | (simp; done) | (simp [*]; done)), H', ⟨Nat.le_refl _⟩, ⟨by exact hs_ HB.out⟩⟩
 case round =>
  clear H'
  try clear p2
  obtain ⟨x1_1, x5_1, rfl, rfl, HA, HK1, HB⟩ := hrel
  cases gk with
  | zero => exact absurd HA.out (by simp [laws_heldPartS.l0])
  | succ k1 =>
   have H := HA.out
   clear HA
   simp only [laws_heldPartS.l0] at H
   by_cases c3 : x5_1 < (l0.length : Int)
   ·
    rw [if_pos c3] at H
    have c3b0 := decide_eq_true c3
    clear c3
    by_cases c4 : 0 ≤ x5_1
    ·
     rw [if_pos c4] at H
     have c4b0 := decide_eq_true c4
     clear c4
     by_cases c5 : ((rd_T57 l0 x5_1).f0) = x1_1
     ·
      rw [if_pos c5] at H
      have c5b0 : (((rd_T57 l0 x5_1).f0) == x1_1) = true := beq_iff_eq.mpr c5
      have c5b1 : (((rd_T57 l0 x5_1).f0) != x1_1) = false := bne_eq_false_iff_eq.mpr c5
      clear c5
      by_cases c6 : ((rd_T57 l0 x5_1).f1) = (wrap64 (x1_1 + 1))
      ·
       rw [if_pos c6] at H
       have c6b0 : (((rd_T57 l0 x5_1).f1) == (wrap64 (x1_1 + 1))) = true := beq_iff_eq.mpr c6
       have c6b1 : (((rd_T57 l0 x5_1).f1) != (wrap64 (x1_1 + 1))) = false := bne_eq_false_iff_eq.mpr c6
       clear c6
       replace H := Option.bind_eq_some_iff.mp H
       obtain ⟨t1085, A70, H⟩ := H
       have A7 := Aside0.mk A70
       clear A70
       by_cases c8 : t1085 < 0
       ·
        rw [if_pos c8] at H
        exact absurd H (by simp)
       rw [if_neg c8] at H
       have c8b0 : decide (t1085 < 0) = false := decide_eq_false c8
       clear c8
       have H' := Aside0.mk H
       clear H
       have p1082 : 0 ≤ (x5_1 : Int) := of_decide_eq_true (by with_reducible assumption)
       have q1082 : x5_1 < (l0.length : Int) := of_decide_eq_true (by with_reducible assumption)
       obtain ⟨ad1082, A1082_2, c1082_2, e1082, hx1082_0, hx1082_1, hx1082_2, hl1082_2, hi1082_2⟩ := at_T57 HR0.out x5_1 p1082 q1082
       cases e1082
       replace hx1082_0 := cl_ HB.out hx1082_0
       replace hx1082_1 := cl_ HB.out hx1082_1
       replace hx1082_2 := cl_ HB.out hx1082_2
       have HR1082_2 := Aside0.mk hi1082_2
       have HC1082_2 := Aside0.mk hl1082_2
       clear hi1082_2 hl1082_2
       replace p1082 := eq_true p1082
       replace q1082 := eq_true q1082
       have p1083 : 0 ≤ (x5_1 : Int) := of_decide_eq_true (by with_reducible assumption)
       have q1083 : x5_1 < (l0.length : Int) := of_decide_eq_true (by with_reducible assumption)
       obtain ⟨ad1083, A1083_2, c1083_2, e1083, hx1083_0, hx1083_1, hx1083_2, hl1083_2, hi1083_2⟩ := at_T57 HR0.out x5_1 p1083 q1083
       obtain rfl : ad1082 = ad1083 := (by injection e1083)
       replace hx1083_0 := cl_ HB.out hx1083_0
       replace hx1083_1 := cl_ HB.out hx1083_1
       replace hx1083_2 := cl_ HB.out hx1083_2
       have HR1083_2 := Aside0.mk hi1083_2
       have HC1083_2 := Aside0.mk hl1083_2
       clear hi1083_2 hl1083_2
       replace p1083 := eq_true p1083
       replace q1083 := eq_true q1083
       have ea_ := Option.some.inj (hx1082_2.symm.trans hx1083_2)
       injection ea_ with ea_ en_ ec_
       subst ea_
       subst ec_
       clear en_
       have p1084 : 0 ≤ (x5_1 : Int) := of_decide_eq_true (by with_reducible assumption)
       have q1084 : x5_1 < (l0.length : Int) := of_decide_eq_true (by with_reducible assumption)
       obtain ⟨ad1084, A1084_2, c1084_2, e1084, hx1084_0, hx1084_1, hx1084_2, hl1084_2, hi1084_2⟩ := at_T57 HR0.out x5_1 p1084 q1084
       obtain rfl : ad1082 = ad1084 := (by injection e1084)
       replace hx1084_0 := cl_ HB.out hx1084_0
       replace hx1084_1 := cl_ HB.out hx1084_1
       replace hx1084_2 := cl_ HB.out hx1084_2
       have HR1084_2 := Aside0.mk hi1084_2
       have HC1084_2 := Aside0.mk hl1084_2
       clear hi1084_2 hl1084_2
       replace p1084 := eq_true p1084
       replace q1084 := eq_true q1084
       have ea_ := Option.some.inj (hx1082_2.symm.trans hx1084_2)
       injection ea_ with ea_ en_ ec_
       subst ea_
       subst ec_
       clear en_
       go_wp2_with (first | ((with_reducible refine gate_callee (f := 88) rfl ?_); refine gl_ (some 36) Try.func88 #[.slice A1082_2 ((rd_T57 l0 x5_1).f2).length c1082_2, .int .i64 (wrap64 ((wrap64 (x1_1 + 1)) + 1))] ?_; (with_reducible refine (laws_heldChainS.calls k1 _ _ ((rd_T57 l0 x5_1).f2) (wrap64 ((wrap64 (x1_1 + 1)) + 1)) t1085 _ ?side1 ?side2 A7.out).mono ?_); (case side1 => exact cp_ ((Kd.C_below HR1084_2.out HB.out))); (case side2 => exact HC1084_2.out); rintro e w9 ⟨rfl, hb⟩; refine ⟨_, rfl, ?_⟩; replace HB := st_ HB hb; (try clear hb); (try clear hk)))
       go_roundg k1
       case measure => have := HK1.out; omega
       case rel => exact ⟨(t1085), (wrap64 (x5_1 + 1)), (by first | rfl | (simp; done) | (simp [*]; done)), (by first | rfl | (simp; done) | (simp [*]; done)), H', ⟨by have := HK1.out; omega⟩, ⟨by exact hs_ HB.out⟩⟩
      rw [if_neg c6] at H
      exact absurd H (by simp)
     rw [if_neg c5] at H
     exact absurd H (by simp)
    rw [if_neg c4] at H
    exact absurd H (by simp)
   rw [if_neg c3] at H
   have c3b0 : decide (x5_1 < (l0.length : Int)) = false := decide_eq_false c3
   clear c3
   obtain rfl := Option.some.inj H
   go_wp2
   go_ret
   exact an_ (by exact hs_ HB.out)
def laws_FnExactPutAlarm.f (k : Nat) (l0 : List (S52)) (l1_0 : List (S85)) (a1_1 : Int) (a1_2 : Int) (a1_3 : ByteArray) : Option (Bool) := (laws_szPartS.f k l0 1048576).bind fun t1087 => (if t1087 < 0 then (some true) else ((laws_szAlarm.f k l1_0 a1_1 a1_2 a1_3 t1087).bind fun t1088 => (if t1088 < 0 then (some true) else ((laws_toPartS.f k l0).bind fun t1089 => ((laws_toAlarm.f k l1_0 a1_1 a1_2 a1_3).bind fun bt1092 => ((spec_PutAlarm.f k t1089 bt1092.1 bt1092.2.1 bt1092.2.2.1 bt1092.2.2.2).bind fun bt1098 => ((laws_toPartS.f k l0).bind fun t1102 => ((laws_toAlarm.f k l1_0 a1_1 a1_2 a1_3).bind fun bt1105 => ((impl_PutAlarm.f k t1102 bt1105.1 bt1105.2.1 bt1105.2.2.1 bt1105.2.2.2).bind fun bt1112 => ((laws_eqPartS.f k bt1112.1 bt1098.1).bind fun t1116 => (if t1116 = true then (if (bt1112.2 != bt1098.2) = true then (none) else ((laws_toPartS.f k l0).bind fun t1117 => ((laws_eqPartS.f k t1102 t1117).bind fun t1120 => (if t1120 = true then ((laws_toAlarm.f k l1_0 a1_1 a1_2 a1_3).bind fun bt1121 => ((laws_eqAlarm.f k bt1105.1 bt1105.2.1 bt1105.2.2.1 bt1105.2.2.2 bt1121.1 bt1121.2.1 bt1121.2.2.1 bt1121.2.2.2).bind fun t1127 => (if t1127 = true then ((laws_markPartS.f k t1102 1).bind fun bt1128 => ((laws_markAlarm.f k bt1105.1 bt1105.2.1 bt1105.2.2.1 bt1105.2.2.2 bt1128.1).bind fun bt1130 => (if bt1130.1 < 0 then (none) else ((laws_eqPartS.f k bt1112.1 bt1098.1).bind fun t1132 => (if t1132 = true then ((laws_markPartS.f k bt1112.1 1).bind fun bt1133 => ((laws_heldPartS.f k bt1133.2 1).bind fun t1135 => (if t1135 < 0 then (none) else (if t1135 = bt1133.1 then ((laws_toPartS.f k l0).bind fun t1136 => ((laws_toAlarm.f k l1_0 a1_1 a1_2 a1_3).bind fun bt1139 => ((impl_PutAlarm.f k t1136 bt1139.1 bt1139.2.1 bt1139.2.2.1 bt1139.2.2.2).bind fun bt1145 => ((laws_eqPartS.f k bt1145.1 bt1098.1).bind fun t1149 => (if t1149 = true then (if (bt1145.2 != bt1098.2) = true then (none) else ((laws_heldPartS.f k bt1133.2 1).bind fun t1150 => (if t1150 < 0 then (none) else (if t1150 = bt1133.1 then (some true) else (none))))) else (none)))))) else (none))))) else (none)))))) else (none)))) else (none))))) else (none))))))))))))
theorem laws_FnExactPutAlarm.mono : ∀ a0 a1 a2 a3 a4 k, LeO (laws_FnExactPutAlarm.f k a0 a1 a2 a3 a4) (laws_FnExactPutAlarm.f (k + 1) a0 a1 a2 a3 a4) := by
 intro a0 a1 a2 a3 a4 k
 unfold laws_FnExactPutAlarm.f
 repeat' first | (with_reducible first | exact impl_PutAlarm.mono _ _ _ _ _ _ | exact laws_eqAlarm.mono _ _ _ _ _ _ _ _ _ | exact laws_eqPartS.mono _ _ _ | exact laws_heldPartS.mono _ _ _ | exact laws_markAlarm.mono _ _ _ _ _ _ | exact laws_markPartS.mono _ _ _ | exact laws_szAlarm.mono _ _ _ _ _ _ | exact laws_szPartS.mono _ _ _ | exact laws_toAlarm.mono _ _ _ _ _ | exact laws_toPartS.mono _ _ | exact spec_PutAlarm.mono _ _ _ _ _ _ | exact LeO.refl _ | exact LeO.none _ | refine LeO.ite ?_ ?_ | refine LeO.bind ?_ (fun _ => ?_)) | exact impl_PutAlarm.mono _ _ _ _ _ _ | exact laws_eqAlarm.mono _ _ _ _ _ _ _ _ _ | exact laws_eqPartS.mono _ _ _ | exact laws_heldPartS.mono _ _ _ | exact laws_markAlarm.mono _ _ _ _ _ _ | exact laws_markPartS.mono _ _ _ | exact laws_szAlarm.mono _ _ _ _ _ _ | exact laws_szPartS.mono _ _ _ | exact laws_toAlarm.mono _ _ _ _ _ | exact laws_toPartS.mono _ _ | exact spec_PutAlarm.mono _ _ _ _ _ _
def laws_FnExactPutAlarm.T8 : Bool × List (List Nat × List Nat) := (true, [([], []), ([0], [0]), ([], []), ([2, 1], [2]), ([1, 3, 3], [1, 3]), ([4], [4]), ([5], [5]), ([5], [5]), ([6, 4, 0, 1, 2, 3, 4, 5, 6], [6]), ([7, 8, 0, 1, 2, 3, 4, 5, 6, 7, 8], [7])])
def laws_FnExactPutAlarm.B8 : List Nat := [0, 1, 0, 7, 15, 31, 63, 63, 127, 511]
theorem laws_FnExactPutAlarm.tab8 : rtab .any (opsOf Try.f10 8) = laws_FnExactPutAlarm.T8 := by kernel_rfl
theorem laws_FnExactPutAlarm.bits8 : waitsOk laws_FnExactPutAlarm.T8.2 laws_FnExactPutAlarm.B8 = true := by kernel_rfl
def laws_FnExactPutAlarm.T31 : Bool × List (List Nat × List Nat) := (true, [([], []), ([0], [0]), ([], []), ([2, 1], [2]), ([1, 3, 3], [1, 3]), ([4], [4]), ([5], [5]), ([5], [5]), ([6, 4, 0, 1, 2, 3, 4, 5, 6], [6]), ([7, 8, 0, 1, 2, 3, 4, 5, 6, 7, 8], [7])])
def laws_FnExactPutAlarm.B31 : List Nat := [0, 1, 0, 7, 15, 31, 63, 63, 127, 511]
theorem laws_FnExactPutAlarm.tab31 : rtab .any (opsOf Try.f10 31) = laws_FnExactPutAlarm.T31 := by kernel_rfl
theorem laws_FnExactPutAlarm.bits31 : waitsOk laws_FnExactPutAlarm.T31.2 laws_FnExactPutAlarm.B31 = true := by kernel_rfl
theorem laws_FnExactPutAlarm.calls (k : Nat) (A0 : Option Addr) (c0 : Nat) (l0 : List (S52)) (A1_0 : Option Addr) (c1_0 : Nat) (l1_0 : List (S85)) (a1_1 : Int) (a1_2 : Int) (a1_3 : ByteArray) (r : Bool) (w : World) (hr0 : Kd.C k52 w A0 l0.length l0) (hc0 : l0.length ≤ c0) (hr1_0 : Kd.C k85 w A1_0 l1_0.length l1_0) (hc1_0 : l1_0.length ≤ c1_0) (h : laws_FnExactPutAlarm.f k l0 l1_0 a1_1 a1_2 a1_3 = some r) :
  Calls Try.prog 10 #[.slice A0 l0.length c0, .agg #[.slice A1_0 l1_0.length c1_0, .int .i64 a1_1, .int .i64 a1_2, .string a1_3]] w fun e w' => e = .returned (.bool r) ∧ Below w.heap.size w w' := by
 have hu35 := Try.underlying35
 have hu43 := Try.underlying43
 have HR0 := Aside0.mk hr0
 have HC0 := Aside0.mk hc0
 clear hr0 hc0
 have HR1_0 := Aside0.mk hr1_0
 have HC1_0 := Aside0.mk hc1_0
 clear hr1_0 hc1_0
 have HB := Aside0.mk (Below.refl w.heap.size w)
 have H : ((laws_szPartS.f k l0 1048576).bind fun t1087 => (if t1087 < 0 then (some true) else ((laws_szAlarm.f k l1_0 a1_1 a1_2 a1_3 t1087).bind fun t1088 => (if t1088 < 0 then (some true) else ((laws_toPartS.f k l0).bind fun t1089 => ((laws_toAlarm.f k l1_0 a1_1 a1_2 a1_3).bind fun bt1092 => ((spec_PutAlarm.f k t1089 bt1092.1 bt1092.2.1 bt1092.2.2.1 bt1092.2.2.2).bind fun bt1098 => ((laws_toPartS.f k l0).bind fun t1102 => ((laws_toAlarm.f k l1_0 a1_1 a1_2 a1_3).bind fun bt1105 => ((impl_PutAlarm.f k t1102 bt1105.1 bt1105.2.1 bt1105.2.2.1 bt1105.2.2.2).bind fun bt1112 => ((laws_eqPartS.f k bt1112.1 bt1098.1).bind fun t1116 => (if t1116 = true then (if (bt1112.2 != bt1098.2) = true then (none) else ((laws_toPartS.f k l0).bind fun t1117 => ((laws_eqPartS.f k t1102 t1117).bind fun t1120 => (if t1120 = true then ((laws_toAlarm.f k l1_0 a1_1 a1_2 a1_3).bind fun bt1121 => ((laws_eqAlarm.f k bt1105.1 bt1105.2.1 bt1105.2.2.1 bt1105.2.2.2 bt1121.1 bt1121.2.1 bt1121.2.2.1 bt1121.2.2.2).bind fun t1127 => (if t1127 = true then ((laws_markPartS.f k t1102 1).bind fun bt1128 => ((laws_markAlarm.f k bt1105.1 bt1105.2.1 bt1105.2.2.1 bt1105.2.2.2 bt1128.1).bind fun bt1130 => (if bt1130.1 < 0 then (none) else ((laws_eqPartS.f k bt1112.1 bt1098.1).bind fun t1132 => (if t1132 = true then ((laws_markPartS.f k bt1112.1 1).bind fun bt1133 => ((laws_heldPartS.f k bt1133.2 1).bind fun t1135 => (if t1135 < 0 then (none) else (if t1135 = bt1133.1 then ((laws_toPartS.f k l0).bind fun t1136 => ((laws_toAlarm.f k l1_0 a1_1 a1_2 a1_3).bind fun bt1139 => ((impl_PutAlarm.f k t1136 bt1139.1 bt1139.2.1 bt1139.2.2.1 bt1139.2.2.2).bind fun bt1145 => ((laws_eqPartS.f k bt1145.1 bt1098.1).bind fun t1149 => (if t1149 = true then (if (bt1145.2 != bt1098.2) = true then (none) else ((laws_heldPartS.f k bt1133.2 1).bind fun t1150 => (if t1150 < 0 then (none) else (if t1150 = bt1133.1 then (some true) else (none))))) else (none)))))) else (none))))) else (none)))))) else (none)))) else (none))))) else (none))))))))))))) = some r := h
 clear h
 replace H := Option.bind_eq_some_iff.mp H
 obtain ⟨t1087, A30, H⟩ := H
 have A3 := Aside0.mk A30
 clear A30
 by_cases c4 : t1087 < 0
 ·
  rw [if_pos c4] at H
  have c4b0 := decide_eq_true c4
  clear c4
  obtain rfl := Option.some.inj H
  go_enter Try.func10, Try.ntmps10
  go_wp2_with (first | ((with_reducible refine gd_ 3 rfl ?_); refine bv_ 3 #[.slice A1_0 l1_0.length c1_0, .int .i64 a1_1, .int .i64 a1_2, .string a1_3] 35 ?_; intro gb1086 hg w5 hbox hb; have BK1086 := Aside0.mk (hbox); have GW1086 := Aside0.mk ((gw_ hg (hs_ HB.out))); replace HB := st_ HB hb; have GE1086 := Ge_.mk GW1086.out; clear hb hbox hg) | ((with_reducible refine gate_callee (f := 12) rfl ?_); refine gl_ (some 19) Try.func12 #[.slice A0 l0.length c0, .int .i64 1048576] ?_; (with_reducible refine (laws_szPartS.calls k _ _ l0 1048576 t1087 _ ?side1 ?side2 A3.out).mono ?_); (case side1 => exact cp_ ((Kd.C_below HR0.out HB.out))); (case side2 => exact HC0.out); rintro e w6 ⟨rfl, hb⟩; refine ⟨_, rfl, ?_⟩; replace HB := st_ HB hb; (try clear hb); (try clear hk)))
  go_ret
  exact an_ (by exact hs_ HB.out)
 rw [if_neg c4] at H
 have c4b0 : decide (t1087 < 0) = false := decide_eq_false c4
 clear c4
 replace H := Option.bind_eq_some_iff.mp H
 obtain ⟨t1088, A70, H⟩ := H
 have A7 := Aside0.mk A70
 clear A70
 by_cases c8 : t1088 < 0
 ·
  rw [if_pos c8] at H
  have c8b0 := decide_eq_true c8
  clear c8
  obtain rfl := Option.some.inj H
  go_enter Try.func10, Try.ntmps10
  go_wp2_with (first | ((with_reducible refine gd_ 3 rfl ?_); refine bv_ 3 #[.slice A1_0 l1_0.length c1_0, .int .i64 a1_1, .int .i64 a1_2, .string a1_3] 35 ?_; intro gb1086 hg w9 hbox hb; have BK1086 := Aside0.mk (hbox); have GW1086 := Aside0.mk ((gw_ hg (hs_ HB.out))); replace HB := st_ HB hb; have GE1086 := Ge_.mk GW1086.out; clear hb hbox hg) | ((with_reducible refine gate_callee (f := 12) rfl ?_); refine gl_ (some 19) Try.func12 #[.slice A0 l0.length c0, .int .i64 1048576] ?_; (with_reducible refine (laws_szPartS.calls k _ _ l0 1048576 t1087 _ ?side1 ?side2 A3.out).mono ?_); (case side1 => exact cp_ ((Kd.C_below HR0.out HB.out))); (case side2 => exact HC0.out); rintro e w10 ⟨rfl, hb⟩; refine ⟨_, rfl, ?_⟩; replace BK1086 := bk2_ BK1086 hb; replace HB := st_ HB hb; (try clear hb); (try clear hk); obtain ⟨z11_0, z11_1, z11_2, z11_3, y11_0, y11_1, y11_2, y11_3⟩ := bc4_ BK1086.out) | ((with_reducible refine gate_callee (f := 42) rfl ?_); refine gl_ (some 24) Try.func42 #[.agg #[.slice A1_0 l1_0.length c1_0, .int .i64 a1_1, .int .i64 a1_2, .string a1_3], .int .i64 t1087] ?_; (with_reducible refine (laws_szAlarm.calls k _ _ l1_0 a1_1 a1_2 a1_3 t1087 t1088 _ ?side1 ?side2 A7.out).mono ?_); (case side1 => exact cp_ ((Kd.C_below HR1_0.out HB.out))); (case side2 => exact HC1_0.out); rintro e w12 ⟨rfl, hb⟩; refine ⟨_, rfl, ?_⟩; replace HB := st_ HB hb; (try clear hb); (try clear hk)))
  go_ret
  exact an_ (by exact hs_ HB.out)
 rw [if_neg c8] at H
 have c8b0 : decide (t1088 < 0) = false := decide_eq_false c8
 clear c8
 replace H := Option.bind_eq_some_iff.mp H
 obtain ⟨t1089, A130, H⟩ := H
 have A13 := Aside0.mk A130
 clear A130
 replace H := Option.bind_eq_some_iff.mp H
 obtain ⟨⟨t1092, t1095, t1096, t1097⟩, A140, H⟩ := H
 have A14 := Aside0.mk A140
 clear A140
 replace H := Option.bind_eq_some_iff.mp H
 obtain ⟨⟨t1098, t1101⟩, A150, H⟩ := H
 have A15 := Aside0.mk A150
 clear A150
 replace H := Option.bind_eq_some_iff.mp H
 obtain ⟨t1102, A160, H⟩ := H
 have A16 := Aside0.mk A160
 clear A160
 replace H := Option.bind_eq_some_iff.mp H
 obtain ⟨⟨t1105, t1108, t1109, t1110⟩, A170, H⟩ := H
 have A17 := Aside0.mk A170
 clear A170
 replace H := Option.bind_eq_some_iff.mp H
 obtain ⟨⟨t1112, t1115⟩, A180, H⟩ := H
 have A18 := Aside0.mk A180
 clear A180
 replace H := Option.bind_eq_some_iff.mp H
 obtain ⟨t1116, A190, H⟩ := H
 have A19 := Aside0.mk A190
 clear A190
 by_cases c20 : t1116 = true
 ·
  subst c20
  rw [if_pos rfl] at H
  by_cases c21 : (t1115 != t1101) = true
  ·
   rw [if_pos c21] at H
   exact absurd H (by simp)
  rw [if_neg c21] at H
  have c21b0 : (t1115 != t1101) = false := by simpa using c21
  (try (have c21b1 : decide (t1115 = t1101) = true := by simpa using c21))
  (try (have c21b2 : (t1115 == t1101) = true := by simpa using c21))
  clear c21
  replace H := Option.bind_eq_some_iff.mp H
  obtain ⟨t1117, A220, H⟩ := H
  have A22 := Aside0.mk A220
  clear A220
  replace H := Option.bind_eq_some_iff.mp H
  obtain ⟨t1120, A230, H⟩ := H
  have A23 := Aside0.mk A230
  clear A230
  by_cases c24 : t1120 = true
  ·
   subst c24
   rw [if_pos rfl] at H
   replace H := Option.bind_eq_some_iff.mp H
   obtain ⟨⟨t1121, t1124, t1125, t1126⟩, A250, H⟩ := H
   have A25 := Aside0.mk A250
   clear A250
   replace H := Option.bind_eq_some_iff.mp H
   obtain ⟨t1127, A260, H⟩ := H
   have A26 := Aside0.mk A260
   clear A260
   by_cases c27 : t1127 = true
   ·
    subst c27
    rw [if_pos rfl] at H
    replace H := Option.bind_eq_some_iff.mp H
    obtain ⟨⟨t1128, t1129⟩, A280, H⟩ := H
    have A28 := Aside0.mk A280
    clear A280
    replace H := Option.bind_eq_some_iff.mp H
    obtain ⟨⟨t1130, t1131⟩, A290, H⟩ := H
    have A29 := Aside0.mk A290
    clear A290
    by_cases c30 : t1130 < 0
    ·
     rw [if_pos c30] at H
     exact absurd H (by simp)
    rw [if_neg c30] at H
    have c30b0 : decide (t1130 < 0) = false := decide_eq_false c30
    clear c30
    replace H := Option.bind_eq_some_iff.mp H
    obtain ⟨t1132, A310, H⟩ := H
    have A31 := Aside0.mk A310
    clear A310
    by_cases c32 : t1132 = true
    ·
     subst c32
     rw [if_pos rfl] at H
     replace H := Option.bind_eq_some_iff.mp H
     obtain ⟨⟨t1133, t1134⟩, A330, H⟩ := H
     have A33 := Aside0.mk A330
     clear A330
     replace H := Option.bind_eq_some_iff.mp H
     obtain ⟨t1135, A340, H⟩ := H
     have A34 := Aside0.mk A340
     clear A340
     by_cases c35 : t1135 < 0
     ·
      rw [if_pos c35] at H
      exact absurd H (by simp)
     rw [if_neg c35] at H
     have c35b0 : decide (t1135 < 0) = false := decide_eq_false c35
     clear c35
     by_cases c36 : t1135 = t1133
     ·
      rw [if_pos c36] at H
      have c36b0 : (t1135 == t1133) = true := beq_iff_eq.mpr c36
      have c36b1 : (t1135 != t1133) = false := bne_eq_false_iff_eq.mpr c36
      clear c36
      replace H := Option.bind_eq_some_iff.mp H
      obtain ⟨t1136, A370, H⟩ := H
      have A37 := Aside0.mk A370
      clear A370
      replace H := Option.bind_eq_some_iff.mp H
      obtain ⟨⟨t1139, t1142, t1143, t1144⟩, A380, H⟩ := H
      have A38 := Aside0.mk A380
      clear A380
      replace H := Option.bind_eq_some_iff.mp H
      obtain ⟨⟨t1145, t1148⟩, A390, H⟩ := H
      have A39 := Aside0.mk A390
      clear A390
      replace H := Option.bind_eq_some_iff.mp H
      obtain ⟨t1149, A400, H⟩ := H
      have A40 := Aside0.mk A400
      clear A400
      by_cases c41 : t1149 = true
      ·
       subst c41
       rw [if_pos rfl] at H
       by_cases c42 : (t1148 != t1101) = true
       ·
        rw [if_pos c42] at H
        exact absurd H (by simp)
       rw [if_neg c42] at H
       have c42b0 : (t1148 != t1101) = false := by simpa using c42
       (try (have c42b1 : decide (t1148 = t1101) = true := by simpa using c42))
       (try (have c42b2 : (t1148 == t1101) = true := by simpa using c42))
       clear c42
       replace H := Option.bind_eq_some_iff.mp H
       obtain ⟨t1150, A430, H⟩ := H
       have A43 := Aside0.mk A430
       clear A430
       by_cases c44 : t1150 < 0
       ·
        rw [if_pos c44] at H
        exact absurd H (by simp)
       rw [if_neg c44] at H
       have c44b0 : decide (t1150 < 0) = false := decide_eq_false c44
       clear c44
       by_cases c45 : t1150 = t1133
       ·
        rw [if_pos c45] at H
        have c45b0 : (t1150 == t1133) = true := beq_iff_eq.mpr c45
        have c45b1 : (t1150 != t1133) = false := bne_eq_false_iff_eq.mpr c45
        clear c45
        obtain rfl := Option.some.inj H
        go_enter Try.func10, Try.ntmps10
        try go_wp2_with (first | ((with_reducible refine gd_ 3 rfl ?_); refine bv_ 3 #[.slice A1_0 l1_0.length c1_0, .int .i64 a1_1, .int .i64 a1_2, .string a1_3] 35 ?_; intro gb1086 hg w46 hbox hb; have BK1086 := Aside0.mk (hbox); have GW1086 := Aside0.mk ((gw_ hg (hs_ HB.out))); replace HB := st_ HB hb; have GE1086 := Ge_.mk GW1086.out; clear hb hbox hg) | ((with_reducible refine gate_callee (f := 12) rfl ?_); refine gl_ (some 19) Try.func12 #[.slice A0 l0.length c0, .int .i64 1048576] ?_; (with_reducible refine (laws_szPartS.calls k _ _ l0 1048576 t1087 _ ?side1 ?side2 A3.out).mono ?_); (case side1 => exact cp_ ((Kd.C_below HR0.out HB.out))); (case side2 => exact HC0.out); rintro e w47 ⟨rfl, hb⟩; refine ⟨_, rfl, ?_⟩; replace BK1086 := bk2_ BK1086 hb; replace HB := st_ HB hb; (try clear hb); (try clear hk); obtain ⟨z48_0, z48_1, z48_2, z48_3, y48_0, y48_1, y48_2, y48_3⟩ := bc4_ BK1086.out) | ((with_reducible refine gate_callee (f := 42) rfl ?_); refine gl_ (some 24) Try.func42 #[.agg #[.slice A1_0 l1_0.length c1_0, .int .i64 a1_1, .int .i64 a1_2, .string a1_3], .int .i64 t1087] ?_; (with_reducible refine (laws_szAlarm.calls k _ _ l1_0 a1_1 a1_2 a1_3 t1087 t1088 _ ?side1 ?side2 A7.out).mono ?_); (case side1 => exact cp_ ((Kd.C_below HR1_0.out HB.out))); (case side2 => exact HC1_0.out); rintro e w49 ⟨rfl, hb⟩; refine ⟨_, rfl, ?_⟩; replace BK1086 := bk2_ BK1086 hb; replace HB := st_ HB hb; (try clear hb); (try clear hk)))
        replace BK1086 := Aside0.mk (blk_drew BK1086.out)
        replace HB := Aside0.mk (bd_ HB.out)
        refine start_ (n := 10) (S := fun w' => w'.cell? ⟨gb1086, 0, none⟩ = some (.slice A1_0 l1_0.length c1_0) ∧ w'.cell? ⟨gb1086, 1, none⟩ = some (.int .i64 a1_1) ∧ w'.cell? ⟨gb1086, 2, none⟩ = some (.int .i64 a1_2) ∧ w'.cell? ⟨gb1086, 3, none⟩ = some (.string a1_3)) (ds := []) #[f_,f_,f_,f_,f_,f_,f_,f_,f_,f_] (by kernel_rfl) rfl rfl ⟨bx_ BK1086.out 0, bx_ BK1086.out 1, bx_ BK1086.out 2, bx_ BK1086.out 3⟩ (fun hHeld => ?_); refine with_tabW laws_FnExactPutAlarm.tab8 laws_FnExactPutAlarm.bits8 (fun HT_ HW_ => ?_)
        generalize w49.drew = w50 at BK1086 HB hHeld ⊢
        refine pw_ 0 28 (b_ 1 9) rfl rfl HT_.out ?_
        refine take_ (i := 2) (N := some 30) (v := ?_) (a' := ?_) #[t_,f_,t_,f_,f_,f_,f_,f_,f_,f_] rfl rfl (take_ofW HT_.out HW_.out (by kernel_rfl)) (fun _ _ _ h => h) (Or.inl ⟨by rfl, ?_⟩) hHeld ?_ ?_
        rotate_left
        ·
         rintro w' ⟨s0, s1, s2, s3⟩
         go_simp
         with_reducible rfl
        rotate_left
        ·
         simp only [fr_]
         rfl
        refine one_ (i := 1) (N := some 29) #[t_,t_,t_,f_,f_,f_,f_,f_,f_,f_] rfl rfl (one_of HT_.out (by kernel_rfl)) (by decide) (fun K hK => ?_)
        refine gs_ Try.func15 #[.slice A0 l0.length c0] ?_
        with_reducible refine (laws_toPartS.calls k _ _ l0 t1089 _ ?side1 ?side2 A13.out).mono ?_
        (case side1 => exact cp_ ((Kd.C_below HR0.out HB.out)))
        (case side2 => exact HC0.out)
        rintro e w51 ⟨v1090, rfl, ho0, hb⟩
        refine ⟨_, rfl, ?_⟩
        obtain ⟨gbz1090, hz1090⟩ := Kd.S_name ho0
        have HO1091 := Aside0.mk (Kd.S_lower (Kd.S_gez hz1090 ho0) (below_size (hs_ HB.out)))
        replace BK1086 := bk2_ BK1086 hb
        replace HB := st_ HB hb
        (try clear hb)
        (try clear hk)
        (try clear ho0)
        refine hK.out _ _ ⟨bx_ BK1086.out 0, bx_ BK1086.out 1, bx_ BK1086.out 2, bx_ BK1086.out 3⟩ (fun hHeld => ?_)
        clear hK K
        refine norm_ (a' := ?_) ?_ ?_
        rotate_left
        ·
         show Act.put _ (some 29) _ = _
         simp only [fr_]
         rfl
        refine one_ (i := 3) (N := some 31) #[t_,t_,t_,t_,f_,f_,f_,f_,f_,f_] rfl rfl (one_of HT_.out (by kernel_rfl)) (by decide) (fun K hK => ?_)
        refine gs_ Try.func44 #[.agg #[.slice A1_0 l1_0.length c1_0, .int .i64 a1_1, .int .i64 a1_2, .string a1_3]] ?_
        with_reducible refine (laws_toAlarm.calls k _ _ l1_0 a1_1 a1_2 a1_3 t1092 t1095 t1096 t1097 _ ?side1 ?side2 A14.out).mono ?_
        (case side1 => exact cp_ ((Kd.C_below HR1_0.out HB.out)))
        (case side2 => exact HC1_0.out)
        rintro e w52 ⟨v1093, rfl, ho0, hb⟩
        refine ⟨_, rfl, ?_⟩
        obtain ⟨gbz1093, hz1093⟩ := Kd.R_name ho0
        replace HO1091 := Aside0.mk (Kd.S_below (Kd.S_ltz hz1093 (sp_ HO1091.out)) hb)
        have HO1094 := Aside0.mk (Kd.R_lower (Kd.R_gez hz1093 ho0) (below_size (hs_ HB.out)))
        replace BK1086 := bk2_ BK1086 hb
        replace HB := st_ HB hb
        (try clear hb)
        (try clear hk)
        (try clear ho0)
        obtain ⟨Ao53, co53, eo53⟩ := Kd.S_slice HO1091.out
        (first | subst eo53 | (obtain ⟨rfl, rfl⟩ := si_ eo53))
        obtain ⟨Ao54, co54, eo54⟩ := Kd.R_slice HO1094.out
        (first | subst eo54 | (obtain ⟨rfl, rfl⟩ := si_ eo54))
        refine hK.out _ _ ⟨bx_ BK1086.out 0, bx_ BK1086.out 1, bx_ BK1086.out 2, bx_ BK1086.out 3⟩ (fun hHeld => ?_)
        clear hK K
        refine norm_ (a' := ?_) ?_ ?_
        rotate_left
        ·
         show Act.put _ (some 31) _ = _
         simp only [fr_]
         rfl
        refine one_ (i := 4) (N := some 32) #[t_,t_,t_,t_,t_,f_,f_,f_,f_,f_] rfl rfl (one_of HT_.out (by kernel_rfl)) (by decide) (fun K hK => ?_)
        refine gs_ Try.func47 #[.slice Ao53 t1089.length co53, .agg #[.slice Ao54 t1092.length co54, .int .i64 t1095, .int .i64 t1096, .string t1097]] ?_
        with_reducible refine (spec_PutAlarm.calls k _ _ t1089 _ _ t1092 t1095 t1096 t1097 t1098 t1101 _ ?side1 ?side2 ?side3 ?side4 A15.out).mono ?_
        (case side1 => exact cp_ ((Kd.S_reads' HO1091.out).2.2))
        (case side2 => exact (Kd.S_reads' HO1091.out).2.1)
        (case side3 => exact cp_ ((Kd.R_reads' HO1094.out).2.2))
        (case side4 => exact (Kd.R_reads' HO1094.out).2.1)
        rintro e w55 ⟨v1099, rfl, ho0, hb⟩
        refine ⟨_, rfl, ?_⟩
        obtain ⟨gbz1099, hz1099⟩ := Kd.S_name ho0
        replace HO1091 := Aside0.mk (Kd.S_below (Kd.S_ltz hz1099 (sp_ HO1091.out)) hb)
        replace HO1094 := Aside0.mk (Kd.R_below (Kd.R_ltz hz1099 (rp_ HO1094.out)) hb)
        have HO1100 := Aside0.mk (Kd.S_lower (Kd.S_gez hz1099 ho0) (below_size (hs_ HB.out)))
        replace BK1086 := bk2_ BK1086 hb
        replace HB := st_ HB hb
        (try clear hb)
        (try clear hk)
        (try clear ho0)
        refine hK.out _ _ ⟨bx_ BK1086.out 0, bx_ BK1086.out 1, bx_ BK1086.out 2, bx_ BK1086.out 3⟩ (fun hHeld => ?_)
        clear hK K
        refine norm_ (a' := ?_) ?_ ?_
        rotate_left
        ·
         show Act.put _ (some 32) _ = _
         simp only [fr_]
         rfl
        refine pw_ 5 27 (b_ 6 4) rfl rfl HT_.out ?_
        refine pw_ 6 33 (b_ 7 3) rfl rfl HT_.out ?_
        refine pw_ 7 34 (b_ 8 2) rfl rfl HT_.out ?_
        refine pw_ 8 6 (b_ 9 1) rfl rfl HT_.out ?_
        refine pw_ 9 7 (b_ 10 0) rfl rfl HT_.out ?_
        refine done_ (done_of HT_.out (by kernel_rfl)) ?_
        try go_wp2_with (first | ((with_reducible refine gate_callee (f := 15) rfl ?_); refine gl_ (some 36) Try.func15 #[.slice A0 l0.length c0] ?_; (with_reducible refine (laws_toPartS.calls k _ _ l0 t1102 _ ?side1 ?side2 A16.out).mono ?_); (case side1 => exact cp_ ((Kd.C_below HR0.out HB.out))); (case side2 => exact HC0.out); rintro e w56 ⟨v1103, rfl, ho0, hb⟩; refine ⟨_, rfl, ?_⟩; obtain ⟨gbz1103, hz1103⟩ := Kd.S_name ho0; replace HO1100 := Aside0.mk (Kd.S_below (Kd.S_ltz hz1103 (sp_ HO1100.out)) hb); have HO1104 := Aside0.mk (Kd.S_lower (Kd.S_gez hz1103 ho0) (below_size (hs_ HB.out))); replace BK1086 := bk2_ BK1086 hb; replace HB := st_ HB hb; (try clear hb); (try clear hk); (try clear ho0); obtain ⟨z57_0, z57_1, z57_2, z57_3, y57_0, y57_1, y57_2, y57_3⟩ := bc4_ BK1086.out) | ((with_reducible refine gate_callee (f := 44) rfl ?_); refine gl_ (some 38) Try.func44 #[.agg #[.slice A1_0 l1_0.length c1_0, .int .i64 a1_1, .int .i64 a1_2, .string a1_3]] ?_; (with_reducible refine (laws_toAlarm.calls k _ _ l1_0 a1_1 a1_2 a1_3 t1105 t1108 t1109 t1110 _ ?side1 ?side2 A17.out).mono ?_); (case side1 => exact cp_ ((Kd.C_below HR1_0.out HB.out))); (case side2 => exact HC1_0.out); rintro e w58 ⟨v1106, rfl, ho0, hb⟩; refine ⟨_, rfl, ?_⟩; obtain ⟨gbz1106, hz1106⟩ := Kd.R_name ho0; replace HO1100 := Aside0.mk (Kd.S_below (Kd.S_ltz hz1106 (sp_ HO1100.out)) hb); replace HO1104 := Aside0.mk (Kd.S_below (Kd.S_ltz hz1106 (sp_ HO1104.out)) hb); have HO1107 := Aside0.mk (Kd.R_lower (Kd.R_gez hz1106 ho0) (below_size (hs_ HB.out))); replace BK1086 := bk2_ BK1086 hb; replace HB := st_ HB hb; (try clear hb); (try clear hk); (try clear ho0)) | ((with_reducible refine gd_ 9 rfl ?_); refine bv_ 9 #[.slice none 0 0, .int .i64 0, .int .i64 0, .string (⟨#[]⟩ : ByteArray)] 43 ?_; intro gb1111 hg w59 hbox hb; replace HO1100 := Aside0.mk (Kd.S_below (Kd.S_elderB (sp_ HO1100.out) gb1111 (Nat.le_of_eq hg.symm)) hb); replace HO1104 := Aside0.mk (Kd.S_below (Kd.S_elderB (sp_ HO1104.out) gb1111 (Nat.le_of_eq hg.symm)) hb); replace HO1107 := Aside0.mk (Kd.R_below (rp_ HO1107.out) hb); have BK1111 := Aside0.mk (hbox); have GW1111 := Aside0.mk ((gw_ hg (hs_ HB.out))); replace HB := st_ HB hb; have GE1111 := Ge_.mk GW1111.out; have NB1086_1111 := Ne_.mk (nl_ BK1086.out hg); replace BK1086 := bk2_ BK1086 hb; have NB1111_1086 := Ne_.mk (NB1086_1111.out.symm); clear hb hbox hg; obtain ⟨Ao60, co60, eo60⟩ := Kd.R_slice HO1107.out; subst eo60; have hnb61 := NB1111_1086.out; have hnc61 := NB1086_1111.out; obtain ⟨z62_0, z62_1, z62_2, z62_3, y62_0, y62_1, y62_2, y62_3⟩ := bc4_ BK1111.out; obtain ⟨Ao63, co63, eo63⟩ := Kd.S_slice HO1104.out; subst eo63) | ((with_reducible refine gate_callee (f := 48) rfl ?_); refine gl_ (some 42) Try.func48 #[.slice Ao63 t1102.length co63, .agg #[.slice Ao60 t1105.length co60, .int .i64 t1108, .int .i64 t1109, .string t1110]] ?_; (with_reducible refine (impl_PutAlarm.calls k _ _ t1102 _ _ t1105 t1108 t1109 t1110 t1112 t1115 _ ?side1 ?side2 ?side3 ?side4 A18.out).mono ?_); (case side1 => refine (Kd.S_reads' (e := 57) (base := w.heap.size) (ok := fun k_ => (((True ∧ gbz1103 ≤ k_) ∧ k_ < gbz1106) ∧ k_ ≠ gb1111)) (n := t1102.length) (c := co63) ?_).2.2; exact (by (with_reducible repeat (first | apply Kd.S_alloc | apply Kd.S_drewN | apply Kd.S_drew)); exact (Kd.S_mono (sf_ gb1111 (Kd.S_mono HO1104.out (fun k_ hk => (⟨hk, hk.2⟩ : _ ∧ k_ ≠ gb1111))) (fun _ hk => hk.2)) (fun _ h_ => h_.1)))); (case side2 => exact (Kd.S_reads' HO1104.out).2.1); (case side3 => refine (Kd.R_reads' (e := 88) (base := w.heap.size) (ok := fun k_ => (True ∧ gbz1106 ≤ k_)) (n := t1105.length) (c := co60) ?_).2.2; exact (by (with_reducible repeat (first | apply Kd.R_alloc | apply Kd.R_drewN | apply Kd.R_drew)); exact (Kd.R_mono (rf_ gb1111 (Kd.R_types HO1107.out BK1111.out (by decide)) (fun _ hk => hk.2)) (fun _ h_ => h_.1)))); (case side4 => exact (Kd.R_reads' HO1107.out).2.1); rintro e w64 ⟨v1113, rfl, ho0, hb⟩; refine ⟨_, rfl, ?_⟩; obtain ⟨gbz1113, hz1113⟩ := Kd.S_name ho0; replace HO1100 := Aside0.mk (Kd.S_below (Kd.S_ltz hz1113 (by (with_reducible repeat (first | apply Kd.S_alloc | apply Kd.S_drewN | apply Kd.S_drew)); exact (Kd.S_mono (sf_ gb1111 (Kd.S_mono HO1100.out (fun k_ hk => (⟨hk, hk.2⟩ : _ ∧ k_ ≠ gb1111))) (fun _ hk => hk.2)) (fun _ h_ => h_.1)))) hb); replace HO1104 := Aside0.mk (Kd.S_below (Kd.S_ltz hz1113 (by (with_reducible repeat (first | apply Kd.S_alloc | apply Kd.S_drewN | apply Kd.S_drew)); exact (Kd.S_mono (sf_ gb1111 (Kd.S_mono HO1104.out (fun k_ hk => (⟨hk, hk.2⟩ : _ ∧ k_ ≠ gb1111))) (fun _ hk => hk.2)) (fun _ h_ => h_.1)))) hb); replace HO1107 := Aside0.mk (Kd.R_below (Kd.R_ltz hz1113 (by (with_reducible repeat (first | apply Kd.R_alloc | apply Kd.R_drewN | apply Kd.R_drew)); exact (Kd.R_mono (rf_ gb1111 (Kd.R_types HO1107.out BK1111.out (by decide)) (fun _ hk => hk.2)) (fun _ h_ => h_.1)))) hb); have HO1114 := Aside0.mk (Kd.S_lower (Kd.S_newB (Kd.S_gez hz1113 ho0) (g := gb1111) (o := .cells #[.slice Ao60 t1105.length co60, .int .i64 t1108, .int .i64 t1109, .string t1110] 43 (0, 0)) (bp_ BK1111.out)) (below_size (hs_ HB.out))); replace BK1086 := bk2_ BK1086 hb; replace BK1111 := Aside0.mk (blk_below (g := gb1111) (o := .cells #[.slice Ao60 t1105.length co60, .int .i64 t1108, .int .i64 t1109, .string t1110] 43 (0, 0)) (bp_ BK1111.out) hb); replace HB := st_ HB hb; (try clear hb); (try clear hk); (try clear ho0); obtain ⟨Ao65, co65, eo65⟩ := Kd.S_slice HO1114.out; subst eo65; obtain ⟨Ao66, co66, eo66⟩ := Kd.S_slice HO1100.out; subst eo66) | ((with_reducible refine gate_callee (f := 18) rfl ?_); refine gl_ (some 47) Try.func18 #[.slice Ao65 t1112.length co65, .slice Ao66 t1098.length co66] ?_; (with_reducible refine (laws_eqPartS.calls k _ _ t1112 _ _ t1098 true _ ?side1 ?side2 ?side3 ?side4 A19.out).mono ?_); (case side1 => exact cp_ ((Kd.S_reads' HO1114.out).2.2)); (case side2 => exact (Kd.S_reads' HO1114.out).2.1); (case side3 => exact cp_ ((Kd.S_reads' HO1100.out).2.2)); (case side4 => exact (Kd.S_reads' HO1100.out).2.1); rintro e w67 ⟨rfl, hb⟩; refine ⟨_, rfl, ?_⟩; replace HO1100 := Aside0.mk (Kd.S_below (sp_ HO1100.out) hb); replace HO1104 := Aside0.mk (Kd.S_below (sp_ HO1104.out) hb); replace HO1107 := Aside0.mk (Kd.R_below (rp_ HO1107.out) hb); replace HO1114 := Aside0.mk (Kd.S_below (sp_ HO1114.out) hb); replace BK1086 := bk2_ BK1086 hb; replace BK1111 := bk2_ BK1111 hb; replace HB := st_ HB hb; (try clear hb); (try clear hk)) | ((with_reducible refine gate_callee (f := 15) rfl ?_); refine gl_ (some 56) Try.func15 #[.slice A0 l0.length c0] ?_; (with_reducible refine (laws_toPartS.calls k _ _ l0 t1117 _ ?side1 ?side2 A22.out).mono ?_); (case side1 => exact cp_ ((Kd.C_below HR0.out HB.out))); (case side2 => exact HC0.out); rintro e w68 ⟨v1118, rfl, ho0, hb⟩; refine ⟨_, rfl, ?_⟩; obtain ⟨gbz1118, hz1118⟩ := Kd.S_name ho0; replace HO1100 := Aside0.mk (Kd.S_below (Kd.S_ltz hz1118 (sp_ HO1100.out)) hb); replace HO1104 := Aside0.mk (Kd.S_below (Kd.S_ltz hz1118 (sp_ HO1104.out)) hb); replace HO1107 := Aside0.mk (Kd.R_below (Kd.R_ltz hz1118 (rp_ HO1107.out)) hb); replace HO1114 := Aside0.mk (Kd.S_below (Kd.S_ltz hz1118 (sp_ HO1114.out)) hb); have HO1119 := Aside0.mk (Kd.S_lower (Kd.S_newB (Kd.S_gez hz1118 ho0) (g := gb1111) (o := .cells #[.slice Ao60 t1105.length co60, .int .i64 t1108, .int .i64 t1109, .string t1110] 43 (0, 0)) (pb_ BK1111.out)) (below_size (hs_ HB.out))); replace BK1086 := bk2_ BK1086 hb; replace BK1111 := bk2_ BK1111 hb; replace HB := st_ HB hb; (try clear hb); (try clear hk); (try clear ho0); obtain ⟨Ao69, co69, eo69⟩ := Kd.S_slice HO1119.out; subst eo69) | ((with_reducible refine gate_callee (f := 18) rfl ?_); refine gl_ (some 57) Try.func18 #[.slice Ao63 t1102.length co63, .slice Ao69 t1117.length co69] ?_; (with_reducible refine (laws_eqPartS.calls k _ _ t1102 _ _ t1117 true _ ?side1 ?side2 ?side3 ?side4 A23.out).mono ?_); (case side1 => exact cp_ ((Kd.S_reads' HO1104.out).2.2)); (case side2 => exact (Kd.S_reads' HO1104.out).2.1); (case side3 => exact cp_ ((Kd.S_reads' HO1119.out).2.2)); (case side4 => exact (Kd.S_reads' HO1119.out).2.1); rintro e w70 ⟨rfl, hb⟩; refine ⟨_, rfl, ?_⟩; replace HO1100 := Aside0.mk (Kd.S_below (sp_ HO1100.out) hb); replace HO1104 := Aside0.mk (Kd.S_below (sp_ HO1104.out) hb); replace HO1107 := Aside0.mk (Kd.R_below (rp_ HO1107.out) hb); replace HO1114 := Aside0.mk (Kd.S_below (sp_ HO1114.out) hb); replace HO1119 := Aside0.mk (Kd.S_below (sp_ HO1119.out) hb); replace BK1086 := bk2_ BK1086 hb; replace BK1111 := bk2_ BK1111 hb; replace HB := st_ HB hb; (try clear hb); (try clear hk)))
        replace HO1100 := Aside0.mk (Kd.S_drew HO1100.out)
        replace HO1104 := Aside0.mk (Kd.S_drew HO1104.out)
        replace HO1107 := Aside0.mk (Kd.R_drew HO1107.out)
        replace HO1114 := Aside0.mk (Kd.S_drew HO1114.out)
        replace BK1086 := Aside0.mk (blk_drew BK1086.out)
        replace BK1111 := Aside0.mk (blk_drew BK1111.out)
        replace HB := Aside0.mk (bd_ HB.out)
        refine start_ (n := 5) (S := fun w' => w'.cell? ⟨gb1111, 0, none⟩ = some (.slice Ao60 t1105.length co60) ∧ w'.cell? ⟨gb1111, 1, none⟩ = some (.int .i64 t1108) ∧ w'.cell? ⟨gb1111, 2, none⟩ = some (.int .i64 t1109) ∧ w'.cell? ⟨gb1111, 3, none⟩ = some (.string t1110) ∧ w'.cell? ⟨gb1086, 0, none⟩ = some (.slice A1_0 l1_0.length c1_0) ∧ w'.cell? ⟨gb1086, 1, none⟩ = some (.int .i64 a1_1) ∧ w'.cell? ⟨gb1086, 2, none⟩ = some (.int .i64 a1_2) ∧ w'.cell? ⟨gb1086, 3, none⟩ = some (.string a1_3)) (ds := []) #[f_,f_,f_,f_,f_] (by kernel_rfl) rfl rfl ⟨bx_ BK1111.out 0, bx_ BK1111.out 1, bx_ BK1111.out 2, bx_ BK1111.out 3, bx_ BK1086.out 0, bx_ BK1086.out 1, bx_ BK1086.out 2, bx_ BK1086.out 3⟩ (fun hHeld => ?_)
        generalize w70.drew = w71 at HO1100 HO1104 HO1107 HO1114 BK1086 BK1111 HB hHeld ⊢
        refine take_ (i := 0) (N := some 59) (v := ?_) (a' := ?_) #[t_,f_,f_,f_,f_] rfl rfl (by kernel_rfl) (fun _ _ _ h => h) (Or.inl ⟨by rfl, ?_⟩) hHeld ?_ ?_
        rotate_left
        ·
         rintro w' ⟨s0, s1, s2, s3, s4, s5, s6, s7⟩
         go_simp
         with_reducible rfl
        rotate_left
        ·
         simp only [fr_]
         rfl
        refine take_ (i := 1) (N := some 60) (v := ?_) (a' := ?_) #[t_,t_,f_,f_,f_] rfl rfl (by kernel_rfl) (fun _ _ _ h => h) (Or.inl ⟨by rfl, ?_⟩) hHeld ?_ ?_
        rotate_left
        ·
         rintro w' ⟨s0, s1, s2, s3, s4, s5, s6, s7⟩
         go_simp
         with_reducible rfl
        rotate_left
        ·
         simp only [fr_]
         rfl
        refine one_ (i := 2) (N := some 61) #[t_,t_,t_,f_,f_] rfl rfl (by kernel_rfl) (by decide) (fun K hK => ?_)
        refine gs_ Try.func44 #[.agg #[.slice A1_0 l1_0.length c1_0, .int .i64 a1_1, .int .i64 a1_2, .string a1_3]] ?_
        with_reducible refine (laws_toAlarm.calls k _ _ l1_0 a1_1 a1_2 a1_3 t1121 t1124 t1125 t1126 _ ?side1 ?side2 A25.out).mono ?_
        (case side1 => exact cp_ ((Kd.C_below HR1_0.out HB.out)))
        (case side2 => exact HC1_0.out)
        rintro e w72 ⟨v1122, rfl, ho0, hb⟩
        refine ⟨_, rfl, ?_⟩
        obtain ⟨gbz1122, hz1122⟩ := Kd.R_name ho0
        replace HO1100 := Aside0.mk (Kd.S_below (Kd.S_ltz hz1122 (sp_ HO1100.out)) hb)
        replace HO1104 := Aside0.mk (Kd.S_below (Kd.S_ltz hz1122 (sp_ HO1104.out)) hb)
        replace HO1107 := Aside0.mk (Kd.R_below (Kd.R_ltz hz1122 (rp_ HO1107.out)) hb)
        replace HO1114 := Aside0.mk (Kd.S_below (Kd.S_ltz hz1122 (sp_ HO1114.out)) hb)
        have HO1123 := Aside0.mk (Kd.R_lower (Kd.R_gez hz1122 ho0) (below_size (hs_ HB.out)))
        replace BK1086 := bk2_ BK1086 hb
        replace BK1111 := bk2_ BK1111 hb
        replace HB := st_ HB hb
        (try clear hb)
        (try clear hk)
        (try clear ho0)
        obtain ⟨Ao73, co73, eo73⟩ := Kd.R_slice HO1123.out
        (first | subst eo73 | (obtain ⟨rfl, rfl⟩ := si_ eo73))
        refine hK.out _ _ ⟨bx_ BK1111.out 0, bx_ BK1111.out 1, bx_ BK1111.out 2, bx_ BK1111.out 3, bx_ BK1086.out 0, bx_ BK1086.out 1, bx_ BK1086.out 2, bx_ BK1086.out 3⟩ (fun hHeld => ?_)
        clear hK K
        refine norm_ (a' := ?_) ?_ ?_
        rotate_left
        ·
         show Act.put _ (some 61) _ = _
         simp only [fr_]
         rfl
        refine one_ (i := 3) (N := some 62) #[t_,t_,t_,t_,f_] rfl rfl (by kernel_rfl) (by decide) (fun K hK => ?_)
        refine gs_ Try.func34 #[.agg #[.slice Ao60 t1105.length co60, .int .i64 t1108, .int .i64 t1109, .string t1110], .agg #[.slice Ao73 t1121.length co73, .int .i64 t1124, .int .i64 t1125, .string t1126]] ?_
        with_reducible refine (laws_eqAlarm.calls k _ _ t1105 t1108 t1109 t1110 _ _ t1121 t1124 t1125 t1126 true _ ?side1 ?side2 ?side3 ?side4 A26.out).mono ?_
        (case side1 => exact cp_ ((Kd.R_reads' HO1107.out).2.2))
        (case side2 => exact (Kd.R_reads' HO1107.out).2.1)
        (case side3 => exact cp_ ((Kd.R_reads' HO1123.out).2.2))
        (case side4 => exact (Kd.R_reads' HO1123.out).2.1)
        rintro e w74 ⟨rfl, hb⟩
        refine ⟨_, rfl, ?_⟩
        replace HO1100 := Aside0.mk (Kd.S_below (sp_ HO1100.out) hb)
        replace HO1104 := Aside0.mk (Kd.S_below (sp_ HO1104.out) hb)
        replace HO1107 := Aside0.mk (Kd.R_below (rp_ HO1107.out) hb)
        replace HO1114 := Aside0.mk (Kd.S_below (sp_ HO1114.out) hb)
        replace HO1123 := Aside0.mk (Kd.R_below (rp_ HO1123.out) hb)
        replace BK1086 := bk2_ BK1086 hb
        replace BK1111 := bk2_ BK1111 hb
        replace HB := st_ HB hb
        (try clear hb)
        (try clear hk)
        refine hK.out _ _ ⟨bx_ BK1111.out 0, bx_ BK1111.out 1, bx_ BK1111.out 2, bx_ BK1111.out 3, bx_ BK1086.out 0, bx_ BK1086.out 1, bx_ BK1086.out 2, bx_ BK1086.out 3⟩ (fun hHeld => ?_)
        clear hK K
        refine norm_ (a' := ?_) ?_ ?_
        rotate_left
        ·
         show Act.put _ (some 62) _ = _
         simp only [fr_]
         rfl
        refine pure_ (i := 4) (N := some 63) (v := ?_) (a' := ?_) #[t_,t_,t_,t_,t_] rfl rfl (by kernel_rfl) (fun _ _ _ h => h) (Or.inl ⟨by rfl, ?_⟩) ?_ ?_
        rotate_left
        ·
         intro w'
         go_simp
         with_reducible rfl
        rotate_left
        ·
         simp only [fr_]
         rfl
        refine done_ (by kernel_rfl) ?_
        obtain ⟨PXP75, hPXP75, hPlP75⟩ := Kd.S_fp HO1104.out
        try go_wp2_with (first | ((with_reducible refine gate_callee (f := 41) rfl ?_); refine gl_ (some 66) Try.func41 #[.slice Ao63 t1102.length co63, .int .i64 1] ?_; (with_reducible refine (laws_markPartS.calls k PXP75 (.slice Ao63 t1102.length co63) t1102 1 t1128 t1129 w _ ?side1 ?side2 A28.out).mono ?_); (case side1 => exact hs_ HB.out); (case side2 => exact hPXP75); rintro e w76 ⟨rfl, hy0, hb, hkp⟩; refine ⟨_, rfl, ?_⟩; replace BK1086 := Aside0.mk (blk_kept (pb_ BK1086.out) hkp (fun hs_ => (fun e_ => no_blk (pb_ BK1086.out) (by decide) (hPlP75 _ e_).2.2) hs_)); replace HO1100 := Aside0.mk (Kd.S_mono (ok' := fun k_ => k_ ≠ gb1111 ∧ gbz1099 ≤ k_ ∧ k_ < gbz1103 ∧ k_ < gbz1106 ∧ k_ < gbz1113 ∧ k_ < gbz1118 ∧ k_ < gbz1122) (Kd.S_keptB (HO1100.out) hkp (fun k_ hk_ hs_ => (fun e_ => Nat.lt_irrefl _ (Nat.lt_of_lt_of_le hk_.1.1.1.1.1.2 (hPlP75 _ e_).1.1.1.1.1.1.2)) hs_)) (fun k_ hk_ => ⟨hk_.1.1.1.1.2, hk_.1.1.1.1.1.1.1.2, hk_.1.1.1.1.1.1.2, hk_.1.1.1.1.1.2, hk_.1.1.1.2, hk_.1.1.2, hk_.1.2⟩)); replace HO1104 := Aside0.mk (Kd.S_mono hy0 (fun k_ hk_ => (hPlP75 k_ hk_).1)); replace HO1107 := Aside0.mk (Kd.R_mono (ok' := fun k_ => gbz1106 ≤ k_ ∧ k_ < gbz1113 ∧ k_ < gbz1118 ∧ k_ < gbz1122) (Kd.R_keptB (HO1107.out) hkp (fun k_ hk_ hs_ => (fun e_ => Nat.lt_irrefl _ (Nat.lt_of_lt_of_le (hPlP75 _ e_).1.1.1.1.1.2 hk_.1.1.1.2)) hs_)) (fun k_ hk_ => ⟨hk_.1.1.1.1.2, hk_.1.1.1.2, hk_.1.1.2, hk_.1.2⟩)); replace BK1111 := Aside0.mk (blk_kept (pb_ BK1111.out) hkp (fun hs_ => (fun e_ => ((hPlP75 _ e_).1.1.1.1.2) rfl) hs_)); replace HO1114 := Aside0.mk (Kd.S_mono (ok' := fun k_ => k_ ≠ gb1111 ∧ gbz1113 ≤ k_ ∧ k_ < gbz1118 ∧ k_ < gbz1122) (Kd.S_keptB (HO1114.out) hkp (fun k_ hk_ hs_ => (fun e_ => Nat.lt_irrefl _ (Nat.lt_of_lt_of_le (hPlP75 _ e_).1.1.1.2 hk_.1.1.1.2)) hs_)) (fun k_ hk_ => ⟨hk_.1.1.1.2, hk_.1.1.1.1.2, hk_.1.1.2, hk_.1.2⟩)); replace HB := Aside0.mk (hb); (try clear hb); (try clear hkp); (try clear hy0); obtain ⟨z77_0, z77_1, z77_2, z77_3, y77_0, y77_1, y77_2, y77_3⟩ := bc4_ BK1111.out; obtain ⟨PXP78, hPXP78, hPlP78⟩ := Kd.R_fpt rfl HO1107.out) | ((with_reducible refine gate_callee (f := 37) rfl ?_); refine gl_ (some 69) Try.func37 #[.agg #[.slice Ao60 t1105.length co60, .int .i64 t1108, .int .i64 t1109, .string t1110], .int .i64 t1128] ?_; (with_reducible refine (laws_markAlarm.calls k PXP78 (.slice Ao60 t1105.length co60) t1105 t1108 t1109 t1110 t1128 t1130 t1131 w _ ?side1 ?side2 A29.out).mono ?_); (case side1 => exact hs_ HB.out); (case side2 => exact hPXP78); rintro e w79 ⟨rfl, hy0, hb, hkp⟩; refine ⟨_, rfl, ?_⟩; replace BK1086 := Aside0.mk (blk_kept (pb_ BK1086.out) hkp (fun hs_ => (fun e_ => no_blk (pb_ BK1086.out) (by decide) (hPlP78 _ e_).2.2) hs_)); replace HO1100 := Aside0.mk (Kd.S_mono (ok' := fun k_ => k_ ≠ gb1111 ∧ gbz1099 ≤ k_ ∧ k_ < gbz1103 ∧ k_ < gbz1106 ∧ k_ < gbz1113 ∧ k_ < gbz1118 ∧ k_ < gbz1122) (Kd.S_keptB (HO1100.out) hkp (fun k_ hk_ hs_ => (fun e_ => Nat.lt_irrefl _ (Nat.lt_of_lt_of_le hk_.2.2.2.1 (hPlP78 _ e_).1.1.1)) hs_)) (fun k_ hk_ => ⟨hk_.1.1, hk_.1.2.1, hk_.1.2.2.1, hk_.1.2.2.2.1, hk_.1.2.2.2.2.1, hk_.1.2.2.2.2.2.1, hk_.1.2.2.2.2.2.2⟩)); replace HO1107 := Aside0.mk (Kd.R_reok rfl hy0 (fun k_ e_ => HO1107.out.1 k_ e_)); replace BK1111 := Aside0.mk (blk_kept (pb_ BK1111.out) hkp (fun hs_ => (fun e_ => no_blk (pb_ BK1111.out) (by decide) (hPlP78 _ e_).2.2) hs_)); replace HO1114 := Aside0.mk (Kd.S_mono (ok' := fun k_ => k_ ≠ gb1111 ∧ gbz1113 ≤ k_ ∧ k_ < gbz1118 ∧ k_ < gbz1122) (Kd.S_keptB (HO1114.out) hkp (fun k_ hk_ hs_ => (fun e_ => Nat.lt_irrefl _ (Nat.lt_of_lt_of_le (hPlP78 _ e_).1.1.2.1 hk_.2.1)) hs_)) (fun k_ hk_ => ⟨hk_.1.1, hk_.1.2.1, hk_.1.2.2.1, hk_.1.2.2.2⟩)); replace HB := Aside0.mk (hb); (try clear hb); (try clear hkp); (try clear hy0)) | (go_at_call 18; (with_reducible refine (laws_eqPartS.calls k _ _ t1112 _ _ t1098 true _ ?side1 ?side2 ?side3 ?side4 A31.out).mono ?_); (case side1 => exact cp_ ((Kd.S_reads' HO1114.out).2.2)); (case side2 => exact (Kd.S_reads' HO1114.out).2.1); (case side3 => exact cp_ ((Kd.S_reads' HO1100.out).2.2)); (case side4 => exact (Kd.S_reads' HO1100.out).2.1); rintro e w80 ⟨rfl, hb⟩; replace HO1100 := Aside0.mk (Kd.S_below (sp_ HO1100.out) hb); replace HO1114 := Aside0.mk (Kd.S_below (sp_ HO1114.out) hb); replace BK1086 := bk2_ BK1086 hb; replace BK1111 := bk2_ BK1111 hb; replace HB := st_ HB hb; (try clear hb); (try clear hk); obtain ⟨PXP81, hPXP81, hPlP81⟩ := Kd.S_fp HO1114.out) | ((with_reducible refine gate_callee (f := 41) rfl ?_); refine gl_ (some 85) Try.func41 #[.slice Ao65 t1112.length co65, .int .i64 1] ?_; (with_reducible refine (laws_markPartS.calls k PXP81 (.slice Ao65 t1112.length co65) t1112 1 t1133 t1134 w _ ?side1 ?side2 A33.out).mono ?_); (case side1 => exact hs_ HB.out); (case side2 => exact hPXP81); rintro e w82 ⟨rfl, hy0, hb, hkp⟩; refine ⟨_, rfl, ?_⟩; replace BK1086 := Aside0.mk (blk_kept (pb_ BK1086.out) hkp (fun hs_ => (fun e_ => no_blk (pb_ BK1086.out) (by decide) (hPlP81 _ e_).2.2) hs_)); replace HO1100 := Aside0.mk (Kd.S_mono (ok' := fun k_ => k_ ≠ gb1111 ∧ gbz1099 ≤ k_ ∧ k_ < gbz1103 ∧ k_ < gbz1106 ∧ k_ < gbz1113 ∧ k_ < gbz1118 ∧ k_ < gbz1122) (Kd.S_keptB (HO1100.out) hkp (fun k_ hk_ hs_ => (fun e_ => Nat.lt_irrefl _ (Nat.lt_of_lt_of_le hk_.2.2.2.2.1 (hPlP81 _ e_).1.2.1)) hs_)) (fun k_ hk_ => ⟨hk_.1.1, hk_.1.2.1, hk_.1.2.2.1, hk_.1.2.2.2.1, hk_.1.2.2.2.2.1, hk_.1.2.2.2.2.2.1, hk_.1.2.2.2.2.2.2⟩)); replace BK1111 := Aside0.mk (blk_kept (pb_ BK1111.out) hkp (fun hs_ => (fun e_ => ((hPlP81 _ e_).1.1) rfl) hs_)); replace HO1114 := Aside0.mk (Kd.S_mono hy0 (fun k_ hk_ => (hPlP81 k_ hk_).1)); replace HB := Aside0.mk (hb); (try clear hb); (try clear hkp); (try clear hy0)) | ((with_reducible refine gate_callee (f := 49) rfl ?_); refine goesL_ (some 88) rfl rfl Try.func49 (by kernel_rfl) rfl #[.slice Ao65 t1134.length co65, .int .i64 1] rfl (by (try simp only [mp_]); first | done | (rw [show t1134.length = t1112.length from (Kd.S_reads' HO1114.out).1.symm] <;> rfl) | rfl | (simp only [List.length_drop, List.length_take]; rfl)) ?_; (with_reducible refine (laws_heldPartS.calls k _ _ t1134 1 t1135 _ ?side1 ?side2 A34.out).mono ?_); (case side1 => exact cp_ ((Kd.S_reads' HO1114.out).2.2)); (case side2 => rw [show t1134.length = t1112.length from (Kd.S_reads' HO1114.out).1.symm]; exact (Kd.S_reads' HO1114.out).2.1); rintro e w83 ⟨rfl, hb⟩; refine ⟨_, rfl, ?_⟩; replace HO1100 := Aside0.mk (Kd.S_below (sp_ HO1100.out) hb); replace HO1114 := Aside0.mk (Kd.S_below (sp_ HO1114.out) hb); replace BK1086 := bk2_ BK1086 hb; replace BK1111 := bk2_ BK1111 hb; replace HB := st_ HB hb; (try clear hb); (try clear hk)))
        replace HO1100 := Aside0.mk (Kd.S_drew HO1100.out)
        replace HO1114 := Aside0.mk (Kd.S_drew HO1114.out)
        replace BK1086 := Aside0.mk (blk_drew BK1086.out)
        replace BK1111 := Aside0.mk (blk_drew BK1111.out)
        replace HB := Aside0.mk (bd_ HB.out)
        refine start_ (n := 10) (S := fun w' => w'.cell? ⟨gb1086, 0, none⟩ = some (.slice A1_0 l1_0.length c1_0) ∧ w'.cell? ⟨gb1086, 1, none⟩ = some (.int .i64 a1_1) ∧ w'.cell? ⟨gb1086, 2, none⟩ = some (.int .i64 a1_2) ∧ w'.cell? ⟨gb1086, 3, none⟩ = some (.string a1_3)) (ds := []) #[f_,f_,f_,f_,f_,f_,f_,f_,f_,f_] (by kernel_rfl) rfl rfl ⟨bx_ BK1086.out 0, bx_ BK1086.out 1, bx_ BK1086.out 2, bx_ BK1086.out 3⟩ (fun hHeld => ?_); refine with_tabW laws_FnExactPutAlarm.tab31 laws_FnExactPutAlarm.bits31 (fun HT_ HW_ => ?_)
        generalize w83.drew = w84 at HO1100 HO1114 BK1086 BK1111 HB hHeld ⊢
        refine pw_ 0 95 (b_ 1 9) rfl rfl HT_.out ?_
        refine take_ (i := 2) (N := some 97) (v := ?_) (a' := ?_) #[t_,f_,t_,f_,f_,f_,f_,f_,f_,f_] rfl rfl (take_ofW HT_.out HW_.out (by kernel_rfl)) (fun _ _ _ h => h) (Or.inl ⟨by rfl, ?_⟩) hHeld ?_ ?_
        rotate_left
        ·
         rintro w' ⟨s0, s1, s2, s3⟩
         go_simp
         with_reducible rfl
        rotate_left
        ·
         simp only [fr_]
         rfl
        refine one_ (i := 1) (N := some 96) #[t_,t_,t_,f_,f_,f_,f_,f_,f_,f_] rfl rfl (one_of HT_.out (by kernel_rfl)) (by decide) (fun K hK => ?_)
        refine gs_ Try.func15 #[.slice A0 l0.length c0] ?_
        with_reducible refine (laws_toPartS.calls k _ _ l0 t1136 _ ?side1 ?side2 A37.out).mono ?_
        (case side1 => exact cp_ ((Kd.C_below HR0.out HB.out)))
        (case side2 => exact HC0.out)
        rintro e w85 ⟨v1137, rfl, ho0, hb⟩
        refine ⟨_, rfl, ?_⟩
        obtain ⟨gbz1137, hz1137⟩ := Kd.S_name ho0
        replace HO1100 := Aside0.mk (Kd.S_below (Kd.S_ltz hz1137 (sp_ HO1100.out)) hb)
        replace HO1114 := Aside0.mk (Kd.S_below (Kd.S_ltz hz1137 (sp_ HO1114.out)) hb)
        have HO1138 := Aside0.mk (Kd.S_lower (Kd.S_newB (Kd.S_gez hz1137 ho0) (g := gb1111) (o := .cells #[.slice Ao60 t1105.length co60, .int .i64 t1108, .int .i64 t1109, .string t1110] 43 (0, 0)) (pb_ BK1111.out)) (below_size (hs_ HB.out)))
        replace BK1086 := bk2_ BK1086 hb
        replace BK1111 := bk2_ BK1111 hb
        replace HB := st_ HB hb
        (try clear hb)
        (try clear hk)
        (try clear ho0)
        refine hK.out _ _ ⟨bx_ BK1086.out 0, bx_ BK1086.out 1, bx_ BK1086.out 2, bx_ BK1086.out 3⟩ (fun hHeld => ?_)
        clear hK K
        refine norm_ (a' := ?_) ?_ ?_
        rotate_left
        ·
         show Act.put _ (some 96) _ = _
         simp only [fr_]
         rfl
        refine one_ (i := 3) (N := some 98) #[t_,t_,t_,t_,f_,f_,f_,f_,f_,f_] rfl rfl (one_of HT_.out (by kernel_rfl)) (by decide) (fun K hK => ?_)
        refine gs_ Try.func44 #[.agg #[.slice A1_0 l1_0.length c1_0, .int .i64 a1_1, .int .i64 a1_2, .string a1_3]] ?_
        with_reducible refine (laws_toAlarm.calls k _ _ l1_0 a1_1 a1_2 a1_3 t1139 t1142 t1143 t1144 _ ?side1 ?side2 A38.out).mono ?_
        (case side1 => exact cp_ ((Kd.C_below HR1_0.out HB.out)))
        (case side2 => exact HC1_0.out)
        rintro e w86 ⟨v1140, rfl, ho0, hb⟩
        refine ⟨_, rfl, ?_⟩
        obtain ⟨gbz1140, hz1140⟩ := Kd.R_name ho0
        replace HO1100 := Aside0.mk (Kd.S_below (Kd.S_ltz hz1140 (sp_ HO1100.out)) hb)
        replace HO1114 := Aside0.mk (Kd.S_below (Kd.S_ltz hz1140 (sp_ HO1114.out)) hb)
        replace HO1138 := Aside0.mk (Kd.S_below (Kd.S_ltz hz1140 (sp_ HO1138.out)) hb)
        have HO1141 := Aside0.mk (Kd.R_lower (Kd.R_gez hz1140 ho0) (below_size (hs_ HB.out)))
        replace BK1086 := bk2_ BK1086 hb
        replace BK1111 := bk2_ BK1111 hb
        replace HB := st_ HB hb
        (try clear hb)
        (try clear hk)
        (try clear ho0)
        obtain ⟨Ao87, co87, eo87⟩ := Kd.S_slice HO1138.out
        (first | subst eo87 | (obtain ⟨rfl, rfl⟩ := si_ eo87))
        obtain ⟨Ao88, co88, eo88⟩ := Kd.R_slice HO1141.out
        (first | subst eo88 | (obtain ⟨rfl, rfl⟩ := si_ eo88))
        refine hK.out _ _ ⟨bx_ BK1086.out 0, bx_ BK1086.out 1, bx_ BK1086.out 2, bx_ BK1086.out 3⟩ (fun hHeld => ?_)
        clear hK K
        refine norm_ (a' := ?_) ?_ ?_
        rotate_left
        ·
         show Act.put _ (some 98) _ = _
         simp only [fr_]
         rfl
        refine one_ (i := 4) (N := some 99) #[t_,t_,t_,t_,t_,f_,f_,f_,f_,f_] rfl rfl (one_of HT_.out (by kernel_rfl)) (by decide) (fun K hK => ?_)
        refine gs_ Try.func48 #[.slice Ao87 t1136.length co87, .agg #[.slice Ao88 t1139.length co88, .int .i64 t1142, .int .i64 t1143, .string t1144]] ?_
        with_reducible refine (impl_PutAlarm.calls k _ _ t1136 _ _ t1139 t1142 t1143 t1144 t1145 t1148 _ ?side1 ?side2 ?side3 ?side4 A39.out).mono ?_
        (case side1 => exact cp_ ((Kd.S_reads' HO1138.out).2.2))
        (case side2 => exact (Kd.S_reads' HO1138.out).2.1)
        (case side3 => exact cp_ ((Kd.R_reads' HO1141.out).2.2))
        (case side4 => exact (Kd.R_reads' HO1141.out).2.1)
        rintro e w89 ⟨v1146, rfl, ho0, hb⟩
        refine ⟨_, rfl, ?_⟩
        obtain ⟨gbz1146, hz1146⟩ := Kd.S_name ho0
        replace HO1100 := Aside0.mk (Kd.S_below (Kd.S_ltz hz1146 (sp_ HO1100.out)) hb)
        replace HO1114 := Aside0.mk (Kd.S_below (Kd.S_ltz hz1146 (sp_ HO1114.out)) hb)
        replace HO1138 := Aside0.mk (Kd.S_below (Kd.S_ltz hz1146 (sp_ HO1138.out)) hb)
        replace HO1141 := Aside0.mk (Kd.R_below (Kd.R_ltz hz1146 (rp_ HO1141.out)) hb)
        have HO1147 := Aside0.mk (Kd.S_lower (Kd.S_newB (Kd.S_gez hz1146 ho0) (g := gb1111) (o := .cells #[.slice Ao60 t1105.length co60, .int .i64 t1108, .int .i64 t1109, .string t1110] 43 (0, 0)) (pb_ BK1111.out)) (below_size (hs_ HB.out)))
        replace BK1086 := bk2_ BK1086 hb
        replace BK1111 := bk2_ BK1111 hb
        replace HB := st_ HB hb
        (try clear hb)
        (try clear hk)
        (try clear ho0)
        refine hK.out _ _ ⟨bx_ BK1086.out 0, bx_ BK1086.out 1, bx_ BK1086.out 2, bx_ BK1086.out 3⟩ (fun hHeld => ?_)
        clear hK K
        refine norm_ (a' := ?_) ?_ ?_
        rotate_left
        ·
         show Act.put _ (some 99) _ = _
         simp only [fr_]
         rfl
        refine pw_ 5 94 (b_ 6 4) rfl rfl HT_.out ?_
        refine pw_ 6 100 (b_ 7 3) rfl rfl HT_.out ?_
        refine pw_ 7 101 (b_ 8 2) rfl rfl HT_.out ?_
        refine pw_ 8 15 (b_ 9 1) rfl rfl HT_.out ?_
        refine pw_ 9 16 (b_ 10 0) rfl rfl HT_.out ?_
        refine done_ (done_of HT_.out (by kernel_rfl)) ?_
        obtain ⟨Ao90, co90, eo90⟩ := Kd.S_slice HO1147.out
        subst eo90
        try go_wp2_with (first | ((with_reducible refine gate_callee (f := 18) rfl ?_); refine gl_ (some 104) Try.func18 #[.slice Ao90 t1145.length co90, .slice Ao66 t1098.length co66] ?_; (with_reducible refine (laws_eqPartS.calls k _ _ t1145 _ _ t1098 true _ ?side1 ?side2 ?side3 ?side4 A40.out).mono ?_); (case side1 => exact cp_ ((Kd.S_reads' HO1147.out).2.2)); (case side2 => exact (Kd.S_reads' HO1147.out).2.1); (case side3 => exact cp_ ((Kd.S_reads' HO1100.out).2.2)); (case side4 => exact (Kd.S_reads' HO1100.out).2.1); rintro e w91 ⟨rfl, hb⟩; refine ⟨_, rfl, ?_⟩; replace HO1100 := Aside0.mk (Kd.S_below (sp_ HO1100.out) hb); replace HO1114 := Aside0.mk (Kd.S_below (sp_ HO1114.out) hb); replace HO1147 := Aside0.mk (Kd.S_below (sp_ HO1147.out) hb); replace BK1111 := bk2_ BK1111 hb; replace HB := st_ HB hb; (try clear hb); (try clear hk)) | ((with_reducible refine gate_callee (f := 49) rfl ?_); refine goesL_ (some 113) rfl rfl Try.func49 (by kernel_rfl) rfl #[.slice Ao65 t1134.length co65, .int .i64 1] rfl (by (try simp only [mp_]); first | done | (rw [show t1134.length = t1112.length from (Kd.S_reads' HO1114.out).1.symm] <;> rfl) | rfl | (simp only [List.length_drop, List.length_take]; rfl)) ?_; (with_reducible refine (laws_heldPartS.calls k _ _ t1134 1 t1150 _ ?side1 ?side2 A43.out).mono ?_); (case side1 => exact cp_ ((Kd.S_reads' HO1114.out).2.2)); (case side2 => rw [show t1134.length = t1112.length from (Kd.S_reads' HO1114.out).1.symm]; exact (Kd.S_reads' HO1114.out).2.1); rintro e w92 ⟨rfl, hb⟩; refine ⟨_, rfl, ?_⟩; replace HO1114 := Aside0.mk (Kd.S_below (sp_ HO1114.out) hb); replace BK1111 := bk2_ BK1111 hb; replace HB := st_ HB hb; (try clear hb); (try clear hk)))
        go_ret
        exact an_ (by exact hs_ HB.out)
       rw [if_neg c45] at H
       exact absurd H (by simp)
      replace c41 := Bool.eq_false_iff.mpr c41
      subst c41
      rw [if_neg (show ¬ (false = true) by decide)] at H
      exact absurd H (by simp)
     rw [if_neg c36] at H
     exact absurd H (by simp)
    replace c32 := Bool.eq_false_iff.mpr c32
    subst c32
    rw [if_neg (show ¬ (false = true) by decide)] at H
    exact absurd H (by simp)
   replace c27 := Bool.eq_false_iff.mpr c27
   subst c27
   rw [if_neg (show ¬ (false = true) by decide)] at H
   exact absurd H (by simp)
  replace c24 := Bool.eq_false_iff.mpr c24
  subst c24
  rw [if_neg (show ¬ (false = true) by decide)] at H
  exact absurd H (by simp)
 replace c20 := Bool.eq_false_iff.mpr c20
 subst c20
 rw [if_neg (show ¬ (false = true) by decide)] at H
 exact absurd H (by simp)
end Go.Proofs.Yticgekgojgkbgaa.Print
end
section
namespace Go.Proofs.Yticgekgojgkbgaa.Print
open Go.RowKit Go.Proofs.YticgekgojgkbgaaV.PrintWords Go.Proofs.YticgekgojgkbgaaV.PrintLast Go.Proofs.YticgekgojgkbgaaV.PrintMore
set_option linter.unusedVariables false
/-- The pure statement of laws_FnExactPutAlarm. -/
def laws_FnExactPutAlarm.Pure : Prop := ∀ (l0 : List (S52)) (l1_0 : List (S85)) (a1_1 : Int) (a1_2 : Int) (a1_3 : ByteArray), (l0.length ≤ maxLen ∧ ∀ y ∈ l0, B52 y) → (l1_0.length ≤ maxLen ∧ ∀ y ∈ l1_0, B85 y) → (Lit.int .i64 a1_1).wf = true → (Lit.int .i64 a1_2).wf = true → a1_3.size ≤ maxLen → ∃ k, laws_FnExactPutAlarm.f k l0 l1_0 a1_1 a1_2 a1_3 = some true
end Go.Proofs.Yticgekgojgkbgaa.Print
end
section
namespace Go.Proofs.Yticgekgojgkbgaa.Print
open Go.RowKit Go.Proofs.YticgekgojgkbgaaV.PrintWords Go.Proofs.YticgekgojgkbgaaV.PrintLast Go.Proofs.YticgekgojgkbgaaV.PrintMore
set_option linter.unusedVariables false
set_option linter.unusedSimpArgs false
theorem wrap_id {x : Int} (h1 : -9223372036854775808 ≤ x) (h2 : x ≤ 9223372036854775807) : wrap64 x = x := by unfold wrap64; omega
theorem wrap_up (n : Nat) (h : n < 9223372036854775807) : wrap64 ((n : Int) + 1) = ((n + 1 : Nat) : Int) := by unfold wrap64; omega
theorem set_mid {α : Type} (pre suf : List α) (y v : α) : (pre ++ y :: suf).set pre.length v = pre ++ v :: suf := by simp
theorem lt_mid {α : Type} (pre suf : List α) (y : α) : (pre.length : Int) < ((pre ++ y :: suf).length : Int) := by simp only [List.length_append, List.length_cons]; omega
theorem not_lt_end {α : Type} (pre : List α) : ¬ ((pre.length : Int) < ((pre ++ []).length : Int)) := by simp
theorem nn (n : Nat) : (0 : Int) ≤ (n : Int) := by omega
theorem mid_assoc {α : Type} (pre suf : List α) (y : α) : pre ++ y :: suf = (pre ++ [y]) ++ suf := by simp
def cvLabel (x : S85) : S88 := ⟨x.f0, x.f1⟩
def WLabel (x : S85) : Prop := x.f0.size ≤ 1048576 ∧ x.f1.size ≤ 1048576
def WiLabel (x : S88) : Prop := x.f0.size ≤ 4000000 ∧ x.f1.size ≤ 4000000
theorem Wi_cvLabel {x : S85} (h : WLabel x) : WiLabel (cvLabel x) := ⟨Nat.le_trans h.1 (by decide), Nat.le_trans h.2 (by decide)⟩
theorem szLabel_ev (x : S85) (hB : B85 x) (n : Int) (h0 : 0 ≤ n) (h1 : n ≤ 1048576) : ∃ r, Ev (fun k => laws_szLabel.f x.f0 x.f1 n) r ∧ r ≤ n ∧ (0 ≤ r → WLabel x) := by
  have q1 : x.f0.size ≤ 9223372036854775807 := hB.1
  have e1 : wrap64 (n - (x.f0.size : Int)) = n - (x.f0.size : Int) := wrap_id (by omega) (by omega)
  by_cases c1 : n - (x.f0.size : Int) < 0
  · exact ⟨-1, ⟨0, fun k hk => by simp [laws_szLabel.f, e1, c1]⟩, by omega, by omega⟩
  have q2 : x.f1.size ≤ 9223372036854775807 := hB.2
  have e2 : wrap64 ((n - (x.f0.size : Int)) - (x.f1.size : Int)) = (n - (x.f0.size : Int)) - (x.f1.size : Int) := wrap_id (by omega) (by omega)
  by_cases c2 : (n - (x.f0.size : Int)) - (x.f1.size : Int) < 0
  · exact ⟨-1, ⟨0, fun k hk => by simp [laws_szLabel.f, e1, c1, e2, c2]⟩, by omega, by omega⟩
  exact ⟨((n - (x.f0.size : Int)) - (x.f1.size : Int)), ⟨0, fun k hk => by simp [laws_szLabel.f, e1, c1, e2, c2]⟩, by omega, fun _ => ⟨(by omega), (by omega)⟩⟩
theorem toLabel_ev (x : S85) (h : WLabel x) : Ev (fun k => laws_toLabel.f x.f0 x.f1) ((cvLabel x).f0, (cvLabel x).f1) := by
  exact ⟨0, fun k hk => by simp [laws_toLabel.f, cvLabel]⟩
theorem eqLabel_ev (x : S88) (h : WiLabel x) : Ev (fun k => laws_eqLabel.f x.f0 x.f1 x.f0 x.f1) true := by
  exact ⟨0, fun k hk => by simp [laws_eqLabel.f]⟩
theorem rdmidLabell (pre suf : List S85) (y : S85) : rd_T85 (pre ++ y :: suf) (pre.length : Int) = y := by unfold rd_T85; simp
theorem rdmidLabeli (pre suf : List S88) (y : S88) : rd_T88 (pre ++ y :: suf) (pre.length : Int) = y := by unfold rd_T88; simp
theorem szLabelS_l0 : ∀ (suf pre : List S85) (n : Int), 0 ≤ n → n ≤ 1048576 → (∀ y ∈ suf, B85 y) → (pre ++ suf).length < 4611686018427387904 → ∃ r, Ev (fun k => laws_szLabelS.l0 k (pre ++ suf) n (pre.length : Int)) r ∧ r ≤ n ∧ (0 ≤ r → ∀ y ∈ suf, WLabel y)
  | [], pre, n, h0, h1, hB, h => by
    refine ⟨n, Ev.step (f := fun _ => some n) (fun k => ?_) (Ev.now _), Int.le_refl _, fun _ y hy => by cases hy⟩
    simp only [laws_szLabelS.l0]
    rw [if_neg (not_lt_end pre)]
  | y :: suf, pre, n, h0, h1, hB, h => by
    have hp : pre.length < 4611686018427387904 := by simp at h; omega
    have hy := hB y List.mem_cons_self
    obtain ⟨r1, g1, l1, w1⟩ := szLabel_ev y hy n h0 h1
    by_cases c : r1 < 0
    · refine ⟨-1, Ev.step (f := fun k => (laws_szLabel.f y.f0 y.f1 n).bind fun t => if t < 0 then some (-1) else laws_szLabelS.l0 k (pre ++ y :: suf) t (wrap64 ((pre.length : Int) + 1))) (fun k => ?_) (Ev.bind g1 ?_), by omega, by omega⟩
      · simp only [laws_szLabelS.l0]
        rw [if_pos (lt_mid pre suf y), if_pos (nn _), rdmidLabell]
      · simp only [if_pos c]
        exact Ev.now _
    · obtain ⟨r, g, hl, hw⟩ := szLabelS_l0 suf (pre ++ [y]) r1 (by omega) (by omega) (fun z hz => hB z (List.mem_cons_of_mem _ hz)) (by simpa using h)
      refine ⟨r, Ev.step (f := fun k => (laws_szLabel.f y.f0 y.f1 n).bind fun t => if t < 0 then some (-1) else laws_szLabelS.l0 k ((pre ++ [y]) ++ suf) t ((pre ++ [y]).length : Int)) (fun k => ?_) (Ev.bind g1 ?_), by omega, fun hr z hz => ?_⟩
      · simp only [laws_szLabelS.l0]
        rw [if_pos (lt_mid pre suf y), if_pos (nn _), rdmidLabell, wrap_up _ (by omega)]
        simp
      · simp only [if_neg c]
        exact g
      · rcases List.mem_cons.1 hz with rfl | hz
        · exact w1 (by omega)
        · exact hw hr z hz
theorem szLabelS_ev (l : List S85) (hB : l.length ≤ maxLen ∧ ∀ y ∈ l, B85 y) (n : Int) (h0 : 0 ≤ n) (h1 : n ≤ 1048576) : ∃ r, Ev (fun k => laws_szLabelS.f k l n) r ∧ r ≤ n ∧ (0 ≤ r → l.length ≤ 1048576 ∧ ∀ y ∈ l, WLabel y) := by
  have q : l.length ≤ 9223372036854775807 := hB.1
  have e : wrap64 (n - (l.length : Int)) = n - (l.length : Int) := wrap_id (by omega) (by omega)
  by_cases c : n - (l.length : Int) < 0
  · exact ⟨-1, ⟨0, fun k _ => by simp [laws_szLabelS.f, e, c]⟩, by omega, by omega⟩
  · obtain ⟨r, g, hl, hw⟩ := szLabelS_l0 l [] (n - (l.length : Int)) (by omega) (by omega) hB.2 (by simp; omega)
    refine ⟨r, Ev.congr (fun k => ?_) g, by omega, fun hr => ⟨by omega, hw hr⟩⟩
    unfold laws_szLabelS.f
    rw [e, if_neg c]
    rfl
theorem toLabelS_l0 : ∀ (suf pre : List S85), (pre ++ suf).length < 4611686018427387904 → (∀ y ∈ suf, WLabel y) → Ev (fun k => laws_toLabelS.l0 k (pre ++ suf) ((pre.map cvLabel) ++ List.replicate suf.length z88) (pre.length : Int)) ((pre ++ suf).map cvLabel)
  | [], pre, h, hW => by
    refine Ev.step (f := fun _ => some ((pre ++ []).map cvLabel)) (fun k => ?_) (Ev.now _)
    simp only [laws_toLabelS.l0]
    rw [if_neg (not_lt_end pre)]
    simp
  | y :: suf, pre, h, hW => by
    have hp : pre.length < 4611686018427387904 := by simp at h; omega
    have ih := toLabelS_l0 suf (pre ++ [y]) (by simpa using h) (fun z hz => hW z (List.mem_cons_of_mem _ hz))
    have g := toLabel_ev y (hW y List.mem_cons_self)
    refine Ev.step (f := fun k => (laws_toLabel.f y.f0 y.f1).bind fun t => laws_toLabelS.l0 k ((pre ++ [y]) ++ suf) ((pre.map cvLabel) ++ (⟨t.1, t.2⟩ : S88) :: List.replicate suf.length z88) ((pre ++ [y]).length : Int)) (fun k => ?_) (Ev.bind g ?_)
    · simp only [laws_toLabelS.l0]
      rw [if_pos (lt_mid pre suf y), if_pos (nn _), rdmidLabell, wrap_up _ (by omega)]
      congr 1
      funext t
      rw [if_pos (by simp; omega)]
      congr 1
      · simp
      · simp [List.replicate_succ]
      · simp
    · rw [mid_assoc pre suf y]
      have e : (pre.map cvLabel) ++ (cvLabel y) :: List.replicate suf.length z88 = ((pre ++ [y]).map cvLabel) ++ List.replicate suf.length z88 := by simp
      rw [← e] at ih
      exact ih
theorem toLabelS_ev (l : List S85) (h : l.length ≤ 1048576 ∧ ∀ y ∈ l, WLabel y) : Ev (fun k => laws_toLabelS.f k l) (l.map cvLabel) := by
  have h1 := h.1
  refine Ev.congr (fun k => ?_) (toLabelS_l0 l [] (by simp; omega) h.2)
  unfold laws_toLabelS.f
  rw [if_pos (nn l.length), Int.toNat_natCast, if_pos (by omega)]
  rfl
theorem eqLabelS_l0 : ∀ (suf pre : List S88), (pre ++ suf).length < 4611686018427387904 → (∀ y ∈ suf, WiLabel y) → Ev (fun k => laws_eqLabelS.l0 k (pre ++ suf) (pre ++ suf) (pre.length : Int)) true
  | [], pre, h, hW => by
    refine Ev.step (f := fun _ => some true) (fun k => ?_) (Ev.now _)
    simp only [laws_eqLabelS.l0]
    rw [if_neg (not_lt_end pre)]
  | y :: suf, pre, h, hW => by
    have hp : pre.length < 4611686018427387904 := by simp at h; omega
    have ih := eqLabelS_l0 suf (pre ++ [y]) (by simpa using h) (fun z hz => hW z (List.mem_cons_of_mem _ hz))
    have g := eqLabel_ev y (hW y List.mem_cons_self)
    refine Ev.step (f := fun k => (laws_eqLabel.f y.f0 y.f1 y.f0 y.f1).bind fun t => if t = true then laws_eqLabelS.l0 k ((pre ++ [y]) ++ suf) ((pre ++ [y]) ++ suf) ((pre ++ [y]).length : Int) else none) (fun k => ?_) (Ev.bind g ?_)
    · simp only [laws_eqLabelS.l0]
      rw [if_pos (lt_mid pre suf y), if_pos (nn _), if_pos (lt_mid pre suf y), rdmidLabeli, wrap_up _ (by omega)]
      simp
    · simp only [if_true]
      exact ih
theorem eqLabelS_ev (l : List S88) (h : l.length ≤ 4000000 ∧ ∀ y ∈ l, WiLabel y) : Ev (fun k => laws_eqLabelS.f k l l) true := by
  have h1 := h.1
  refine Ev.congr (fun k => ?_) (eqLabelS_l0 l [] (by simp; omega) h.2)
  unfold laws_eqLabelS.f
  rw [if_pos rfl]
  rfl
def cvAlarm (x : S35) : S43 := ⟨(x.f0.map cvLabel), x.f1, x.f2, x.f3⟩
def WAlarm (x : S35) : Prop := (x.f0.length ≤ 1048576 ∧ ∀ y ∈ x.f0, WLabel y) ∧ True ∧ True ∧ x.f3.size ≤ 1048576
def WiAlarm (x : S43) : Prop := (x.f0.length ≤ 4000000 ∧ ∀ y ∈ x.f0, WiLabel y) ∧ True ∧ True ∧ x.f3.size ≤ 4000000
theorem Wi_cvAlarm {x : S35} (h : WAlarm x) : WiAlarm (cvAlarm x) := ⟨⟨by show (List.map cvLabel x.f0).length ≤ 4000000; rw [List.length_map]; exact Nat.le_trans h.1.1 (by decide), fun y hy => by obtain ⟨z, hz, rfl⟩ := List.mem_map.1 hy; exact Wi_cvLabel (h.1.2 z hz)⟩, trivial, trivial, Nat.le_trans h.2.2.2 (by decide)⟩
theorem szAlarm_ev (x : S35) (hB : B35 x) (n : Int) (h0 : 0 ≤ n) (h1 : n ≤ 1048576) : ∃ r, Ev (fun k => laws_szAlarm.f k x.f0 x.f1 x.f2 x.f3 n) r ∧ r ≤ n ∧ (0 ≤ r → WAlarm x) := by
  obtain ⟨r1, ⟨K1, g1⟩, l1, w1⟩ := szLabelS_ev x.f0 hB.1 n (by omega) (by omega)
  by_cases c1 : r1 < 0
  · exact ⟨-1, ⟨K1, fun k hk => by simp [laws_szAlarm.f, g1 k (by omega), c1]⟩, by omega, by omega⟩
  have q2 : x.f3.size ≤ 9223372036854775807 := hB.2.2.2
  have e2 : wrap64 (r1 - (x.f3.size : Int)) = r1 - (x.f3.size : Int) := wrap_id (by omega) (by omega)
  by_cases c2 : r1 - (x.f3.size : Int) < 0
  · exact ⟨-1, ⟨K1, fun k hk => by simp [laws_szAlarm.f, g1 k (by omega), c1, e2, c2]⟩, by omega, by omega⟩
  exact ⟨(r1 - (x.f3.size : Int)), ⟨K1, fun k hk => by simp [laws_szAlarm.f, g1 k (by omega), c1, e2, c2]⟩, by omega, fun _ => ⟨(w1 (by omega)), trivial, trivial, (by omega)⟩⟩
theorem toAlarm_ev (x : S35) (h : WAlarm x) : Ev (fun k => laws_toAlarm.f k x.f0 x.f1 x.f2 x.f3) ((cvAlarm x).f0, (cvAlarm x).f1, (cvAlarm x).f2, (cvAlarm x).f3) := by
  obtain ⟨K0, g0⟩ := toLabelS_ev x.f0 h.1
  exact ⟨K0, fun k hk => by simp [laws_toAlarm.f, cvAlarm, g0 k (by omega)]⟩
theorem eqAlarm_ev (x : S43) (h : WiAlarm x) : Ev (fun k => laws_eqAlarm.f k x.f0 x.f1 x.f2 x.f3 x.f0 x.f1 x.f2 x.f3) true := by
  obtain ⟨K0, g0⟩ := eqLabelS_ev x.f0 h.1
  exact ⟨K0, fun k hk => by simp [laws_eqAlarm.f, g0 k (by omega)]⟩
theorem markText_l0 : ∀ (n : Nat) (x : Int) (acc : ByteArray), 0 ≤ x → x.toNat = n → acc.size + n < 4611686018427387904 → ∃ s, Ev (fun k => laws_markText.l0 k x acc) s := by
  intro n
  induction n using Nat.strongRecOn with
  | _ n ih =>
    intro x acc h0 hx hs
    by_cases c : x > 0
    · have e : wrap64 (Int.tdiv x 10) = x / 10 := by rw [Int.tdiv_eq_ediv_of_nonneg h0]; exact wrap_id (by omega) (by omega)
      have hz : (strOfNums [(wrap64 (48 + (Int.tmod x 10))) % 256]).size = 1 := by rw [strOfNums_size]; rfl
      have hsz : ((strOfNums [(wrap64 (48 + (Int.tmod x 10))) % 256]) ++ acc).size = 1 + acc.size := by rw [ByteArray.size_append, hz]
      obtain ⟨s, g⟩ := ih (x / 10).toNat (by omega) (x / 10) ((strOfNums [(wrap64 (48 + (Int.tmod x 10))) % 256]) ++ acc) (by omega) rfl (by rw [hsz]; omega)
      refine ⟨s, Ev.step (fun k => ?_) g⟩
      simp only [laws_markText.l0]
      rw [if_pos c, Option.bind_some, if_pos (by rw [hz]; omega), e]
    · refine ⟨(⟨#[109]⟩ : ByteArray) ++ acc, Ev.step (f := fun _ => some ((⟨#[109]⟩ : ByteArray) ++ acc)) (fun k => ?_) (Ev.now _)⟩
      simp only [laws_markText.l0]
      rw [if_neg c, if_pos (by omega)]
theorem markText_some (x : Int) (h0 : 0 ≤ x) (h1 : x < 4611686018427387904) : ∃ s, Ev (fun k => laws_markText.f k x) s := by
  by_cases c : x ≤ 0
  · exact ⟨⟨#[109, 48]⟩, 0, fun k _ => by show laws_markText.f k x = _; unfold laws_markText.f; exact if_pos c⟩
  · obtain ⟨s, g⟩ := markText_l0 x.toNat x ⟨#[]⟩ h0 rfl (by have : (⟨#[]⟩ : ByteArray).size = 0 := rfl; omega)
    exact ⟨s, Ev.congr (fun k => by show laws_markText.f k x = laws_markText.l0 k x ⟨#[]⟩; unfold laws_markText.f; exact if_neg c) g⟩
open Classical in
noncomputable def mkText (x : Int) : ByteArray := if h : ∃ s, Ev (fun k => laws_markText.f k x) s then h.choose else ⟨#[]⟩
theorem markText_ev (x : Int) (h0 : 0 ≤ x) (h1 : x < 4611686018427387904) : Ev (fun k => laws_markText.f k x) (mkText x) := by
  have h := markText_some x h0 h1
  unfold mkText
  rw [dif_pos h]
  exact h.choose_spec
def cnLabels : List S88 → Nat
  | [] => 0
  | _ :: ys => 2 + cnLabels ys
noncomputable def mkLabels : Int → List S88 → List S88
  | _, [] => []
  | k0, _ :: ys => ⟨mkText k0, mkText (k0 + 1)⟩ :: mkLabels (k0 + 2) ys
theorem cnLabels_le : ∀ (l : List S88), l.length ≤ cnLabels l
  | [] => Nat.le_refl _
  | y :: ys => by have := cnLabels_le ys; simp only [cnLabels, List.length_cons]; omega
theorem rdmmLabel (pre suf : List S88) (y : S88) : rd_T88 (pre ++ y :: suf) (pre.length : Int) = y := by unfold rd_T88; simp
theorem markLabelS_l0 : ∀ (suf pre : List S88) (k0 : Int), 0 ≤ k0 → k0 + (cnLabels suf : Int) < 4611686018427387904 → (pre ++ suf).length < 4611686018427387904 → Ev (fun k => laws_markLabelS.l0 k (pre ++ suf) k0 (pre.length : Int)) (k0 + (cnLabels suf : Int), pre ++ mkLabels k0 suf)
  | [], pre, k0, h0, h1, h => by
    refine Ev.step (f := fun _ => some (k0, pre ++ [])) (fun k => ?_) (by rw [show (k0 + (cnLabels [] : Int), pre ++ mkLabels k0 []) = (k0, pre ++ []) from by simp [cnLabels, mkLabels]]; exact Ev.now _)
    simp only [laws_markLabelS.l0]
    rw [if_neg (not_lt_end pre)]
  | y :: suf, pre, k0, h0, h1, h => by
    have hp : pre.length < 4611686018427387904 := by simp at h; omega
    have hc : cnLabels (y :: suf) = 2 + cnLabels suf := rfl
    rw [hc] at h1 ⊢
    obtain ⟨K, g⟩ := markLabelS_l0 suf (pre ++ [(⟨mkText k0, mkText (k0 + 1)⟩ : S88)]) (k0 + 2) (by omega) (by omega) (by simpa using h)
    obtain ⟨K0, g0⟩ := markText_ev k0 (by omega) (by omega)
    obtain ⟨K1, g1⟩ := markText_ev (k0 + 1) (by omega) (by omega)
    refine ⟨K + K0 + K1 + 1, fun k hk => ?_⟩
    obtain ⟨k, rfl⟩ : ∃ m, k = m + 1 := ⟨k - 1, by omega⟩
    have G := g k (by omega)
    have G0 := g0 k (by omega)
    have G1 := g1 k (by omega)
    dsimp only at G G0 G1
    have w0 : wrap64 (k0 + 1) = (k0 + 1) := (wrap_id (by omega) (by omega)).trans (by omega)
    have w1 : wrap64 ((k0 + 1) + 1) = (k0 + 2) := (wrap_id (by omega) (by omega)).trans (by omega)
    simp only [laws_markLabelS.l0]
    rw [if_pos (lt_mid pre suf y)]
    simp only [nn, if_true, rdmmLabel, Option.bind_some, Int.toNat_natCast, set_mid, wrap_up pre.length (by omega), G0, G1, w0, w1]
    have eL : pre ++ (⟨mkText k0, mkText (k0 + 1)⟩ : S88) :: suf = (pre ++ [(⟨mkText k0, mkText (k0 + 1)⟩ : S88)]) ++ suf := by simp
    have eN : ((pre.length + 1 : Nat) : Int) = ((pre ++ [(⟨mkText k0, mkText (k0 + 1)⟩ : S88)]).length : Int) := by simp
    rw [eL, eN, G]
    refine congrArg some (Prod.ext ?_ ?_)
    · simp only []; push_cast; omega
    · simp [mkLabels]
theorem markLabelS_ev (l : List S88) (k0 : Int) (h0 : 0 ≤ k0) (h1 : k0 + (cnLabels l : Int) < 4611686018427387904) : Ev (fun k => laws_markLabelS.f k l k0) (k0 + (cnLabels l : Int), mkLabels k0 l) := by
  have := cnLabels_le l
  exact Ev.congr (fun k => by unfold laws_markLabelS.f; rfl) (markLabelS_l0 l [] k0 h0 h1 (by simp; omega))
theorem heldLabelS_l0 : ∀ (suf pre : List S88) (k0 : Int), 0 ≤ k0 → k0 + (cnLabels suf : Int) < 4611686018427387904 → (pre ++ suf).length < 4611686018427387904 → Ev (fun k => laws_heldLabelS.l0 k (pre ++ mkLabels k0 suf) k0 (pre.length : Int)) (k0 + (cnLabels suf : Int))
  | [], pre, k0, h0, h1, h => by
    refine Ev.step (f := fun _ => some k0) (fun k => ?_) (by simpa [cnLabels] using Ev.now k0)
    rw [show mkLabels k0 [] = [] from rfl]
    simp only [laws_heldLabelS.l0]
    rw [if_neg (not_lt_end pre)]
  | y :: suf, pre, k0, h0, h1, h => by
    have hp : pre.length < 4611686018427387904 := by simp at h; omega
    have hc : cnLabels (y :: suf) = 2 + cnLabels suf := rfl
    rw [hc] at h1 ⊢
    obtain ⟨K, g⟩ := heldLabelS_l0 suf (pre ++ [(⟨mkText k0, mkText (k0 + 1)⟩ : S88)]) (k0 + 2) (by omega) (by omega) (by simpa using h)
    obtain ⟨K0, g0⟩ := markText_ev k0 (by omega) (by omega)
    obtain ⟨K1, g1⟩ := markText_ev (k0 + 1) (by omega) (by omega)
    refine ⟨K + K0 + K1 + 1, fun k hk => ?_⟩
    obtain ⟨k, rfl⟩ : ∃ m, k = m + 1 := ⟨k - 1, by omega⟩
    have G := g k (by omega)
    have G0 := g0 k (by omega)
    have G1 := g1 k (by omega)
    dsimp only at G G0 G1
    have w0 : wrap64 (k0 + 1) = (k0 + 1) := (wrap_id (by omega) (by omega)).trans (by omega)
    have w1 : wrap64 ((k0 + 1) + 1) = (k0 + 2) := (wrap_id (by omega) (by omega)).trans (by omega)
    rw [show mkLabels k0 (y :: suf) = ⟨mkText k0, mkText (k0 + 1)⟩ :: mkLabels (k0 + 2) suf from rfl]
    simp only [laws_heldLabelS.l0]
    rw [if_pos (lt_mid pre _ _)]
    simp only [nn, if_true, if_false, rdmmLabel, Option.bind_some, wrap_up pre.length (by omega), G0, G1, w0, w1, bne_self_eq_false, Bool.false_eq_true]
    have eL : pre ++ (⟨mkText k0, mkText (k0 + 1)⟩ : S88) :: mkLabels (k0 + 2) suf = (pre ++ [(⟨mkText k0, mkText (k0 + 1)⟩ : S88)]) ++ mkLabels (k0 + 2) suf := by simp
    have eN : ((pre.length + 1 : Nat) : Int) = ((pre ++ [(⟨mkText k0, mkText (k0 + 1)⟩ : S88)]).length : Int) := by simp
    rw [eL, eN, G]
    refine congrArg some ?_
    push_cast; omega
theorem heldLabelS_ev (l : List S88) (k0 : Int) (h0 : 0 ≤ k0) (h1 : k0 + (cnLabels l : Int) < 4611686018427387904) : Ev (fun k => laws_heldLabelS.f k (mkLabels k0 l) k0) (k0 + (cnLabels l : Int)) := by
  have := cnLabels_le l
  exact Ev.congr (fun k => by unfold laws_heldLabelS.f; rfl) (heldLabelS_l0 l [] k0 h0 h1 (by simp; omega))
theorem rdmidAlarml (pre suf : List S35) (y : S35) : rd_T35 (pre ++ y :: suf) (pre.length : Int) = y := by unfold rd_T35; simp
theorem rdmidAlarmi (pre suf : List S43) (y : S43) : rd_T43 (pre ++ y :: suf) (pre.length : Int) = y := by unfold rd_T43; simp
theorem szAlarmS_l0 : ∀ (suf pre : List S35) (n : Int), 0 ≤ n → n ≤ 1048576 → (∀ y ∈ suf, B35 y) → (pre ++ suf).length < 4611686018427387904 → ∃ r, Ev (fun k => laws_szAlarmS.l0 k (pre ++ suf) n (pre.length : Int)) r ∧ r ≤ n ∧ (0 ≤ r → ∀ y ∈ suf, WAlarm y)
  | [], pre, n, h0, h1, hB, h => by
    refine ⟨n, Ev.step (f := fun _ => some n) (fun k => ?_) (Ev.now _), Int.le_refl _, fun _ y hy => by cases hy⟩
    simp only [laws_szAlarmS.l0]
    rw [if_neg (not_lt_end pre)]
  | y :: suf, pre, n, h0, h1, hB, h => by
    have hp : pre.length < 4611686018427387904 := by simp at h; omega
    have hy := hB y List.mem_cons_self
    obtain ⟨r1, g1, l1, w1⟩ := szAlarm_ev y hy n h0 h1
    by_cases c : r1 < 0
    · refine ⟨-1, Ev.step (f := fun k => (laws_szAlarm.f k y.f0 y.f1 y.f2 y.f3 n).bind fun t => if t < 0 then some (-1) else laws_szAlarmS.l0 k (pre ++ y :: suf) t (wrap64 ((pre.length : Int) + 1))) (fun k => ?_) (Ev.bind g1 ?_), by omega, by omega⟩
      · simp only [laws_szAlarmS.l0]
        rw [if_pos (lt_mid pre suf y), if_pos (nn _), rdmidAlarml]
      · simp only [if_pos c]
        exact Ev.now _
    · obtain ⟨r, g, hl, hw⟩ := szAlarmS_l0 suf (pre ++ [y]) r1 (by omega) (by omega) (fun z hz => hB z (List.mem_cons_of_mem _ hz)) (by simpa using h)
      refine ⟨r, Ev.step (f := fun k => (laws_szAlarm.f k y.f0 y.f1 y.f2 y.f3 n).bind fun t => if t < 0 then some (-1) else laws_szAlarmS.l0 k ((pre ++ [y]) ++ suf) t ((pre ++ [y]).length : Int)) (fun k => ?_) (Ev.bind g1 ?_), by omega, fun hr z hz => ?_⟩
      · simp only [laws_szAlarmS.l0]
        rw [if_pos (lt_mid pre suf y), if_pos (nn _), rdmidAlarml, wrap_up _ (by omega)]
        simp
      · simp only [if_neg c]
        exact g
      · rcases List.mem_cons.1 hz with rfl | hz
        · exact w1 (by omega)
        · exact hw hr z hz
theorem szAlarmS_ev (l : List S35) (hB : l.length ≤ maxLen ∧ ∀ y ∈ l, B35 y) (n : Int) (h0 : 0 ≤ n) (h1 : n ≤ 1048576) : ∃ r, Ev (fun k => laws_szAlarmS.f k l n) r ∧ r ≤ n ∧ (0 ≤ r → l.length ≤ 1048576 ∧ ∀ y ∈ l, WAlarm y) := by
  have q : l.length ≤ 9223372036854775807 := hB.1
  have e : wrap64 (n - (l.length : Int)) = n - (l.length : Int) := wrap_id (by omega) (by omega)
  by_cases c : n - (l.length : Int) < 0
  · exact ⟨-1, ⟨0, fun k _ => by simp [laws_szAlarmS.f, e, c]⟩, by omega, by omega⟩
  · obtain ⟨r, g, hl, hw⟩ := szAlarmS_l0 l [] (n - (l.length : Int)) (by omega) (by omega) hB.2 (by simp; omega)
    refine ⟨r, Ev.congr (fun k => ?_) g, by omega, fun hr => ⟨by omega, hw hr⟩⟩
    unfold laws_szAlarmS.f
    rw [e, if_neg c]
    rfl
theorem toAlarmS_l0 : ∀ (suf pre : List S35), (pre ++ suf).length < 4611686018427387904 → (∀ y ∈ suf, WAlarm y) → Ev (fun k => laws_toAlarmS.l0 k (pre ++ suf) ((pre.map cvAlarm) ++ List.replicate suf.length z43) (pre.length : Int)) ((pre ++ suf).map cvAlarm)
  | [], pre, h, hW => by
    refine Ev.step (f := fun _ => some ((pre ++ []).map cvAlarm)) (fun k => ?_) (Ev.now _)
    simp only [laws_toAlarmS.l0]
    rw [if_neg (not_lt_end pre)]
    simp
  | y :: suf, pre, h, hW => by
    have hp : pre.length < 4611686018427387904 := by simp at h; omega
    have ih := toAlarmS_l0 suf (pre ++ [y]) (by simpa using h) (fun z hz => hW z (List.mem_cons_of_mem _ hz))
    have g := toAlarm_ev y (hW y List.mem_cons_self)
    refine Ev.step (f := fun k => (laws_toAlarm.f k y.f0 y.f1 y.f2 y.f3).bind fun t => laws_toAlarmS.l0 k ((pre ++ [y]) ++ suf) ((pre.map cvAlarm) ++ (⟨t.1, t.2.1, t.2.2.1, t.2.2.2⟩ : S43) :: List.replicate suf.length z43) ((pre ++ [y]).length : Int)) (fun k => ?_) (Ev.bind g ?_)
    · simp only [laws_toAlarmS.l0]
      rw [if_pos (lt_mid pre suf y), if_pos (nn _), rdmidAlarml, wrap_up _ (by omega)]
      congr 1
      funext t
      rw [if_pos (by simp; omega)]
      congr 1
      · simp
      · simp [List.replicate_succ]
      · simp
    · rw [mid_assoc pre suf y]
      have e : (pre.map cvAlarm) ++ (cvAlarm y) :: List.replicate suf.length z43 = ((pre ++ [y]).map cvAlarm) ++ List.replicate suf.length z43 := by simp
      rw [← e] at ih
      exact ih
theorem toAlarmS_ev (l : List S35) (h : l.length ≤ 1048576 ∧ ∀ y ∈ l, WAlarm y) : Ev (fun k => laws_toAlarmS.f k l) (l.map cvAlarm) := by
  have h1 := h.1
  refine Ev.congr (fun k => ?_) (toAlarmS_l0 l [] (by simp; omega) h.2)
  unfold laws_toAlarmS.f
  rw [if_pos (nn l.length), Int.toNat_natCast, if_pos (by omega)]
  rfl
theorem eqAlarmS_l0 : ∀ (suf pre : List S43), (pre ++ suf).length < 4611686018427387904 → (∀ y ∈ suf, WiAlarm y) → Ev (fun k => laws_eqAlarmS.l0 k (pre ++ suf) (pre ++ suf) (pre.length : Int)) true
  | [], pre, h, hW => by
    refine Ev.step (f := fun _ => some true) (fun k => ?_) (Ev.now _)
    simp only [laws_eqAlarmS.l0]
    rw [if_neg (not_lt_end pre)]
  | y :: suf, pre, h, hW => by
    have hp : pre.length < 4611686018427387904 := by simp at h; omega
    have ih := eqAlarmS_l0 suf (pre ++ [y]) (by simpa using h) (fun z hz => hW z (List.mem_cons_of_mem _ hz))
    have g := eqAlarm_ev y (hW y List.mem_cons_self)
    refine Ev.step (f := fun k => (laws_eqAlarm.f k y.f0 y.f1 y.f2 y.f3 y.f0 y.f1 y.f2 y.f3).bind fun t => if t = true then laws_eqAlarmS.l0 k ((pre ++ [y]) ++ suf) ((pre ++ [y]) ++ suf) ((pre ++ [y]).length : Int) else none) (fun k => ?_) (Ev.bind g ?_)
    · simp only [laws_eqAlarmS.l0]
      rw [if_pos (lt_mid pre suf y), if_pos (nn _), if_pos (lt_mid pre suf y), rdmidAlarmi, wrap_up _ (by omega)]
      simp
    · simp only [if_true]
      exact ih
theorem eqAlarmS_ev (l : List S43) (h : l.length ≤ 4000000 ∧ ∀ y ∈ l, WiAlarm y) : Ev (fun k => laws_eqAlarmS.f k l l) true := by
  have h1 := h.1
  refine Ev.congr (fun k => ?_) (eqAlarmS_l0 l [] (by simp; omega) h.2)
  unfold laws_eqAlarmS.f
  rw [if_pos rfl]
  rfl
def cvChain (x : S119) : S100 := ⟨x.f0, (x.f1.map cvAlarm)⟩
def WChain (x : S119) : Prop := True ∧ (x.f1.length ≤ 1048576 ∧ ∀ y ∈ x.f1, WAlarm y)
def WiChain (x : S100) : Prop := True ∧ (x.f1.length ≤ 4000000 ∧ ∀ y ∈ x.f1, WiAlarm y)
theorem Wi_cvChain {x : S119} (h : WChain x) : WiChain (cvChain x) := ⟨trivial, ⟨by show (List.map cvAlarm x.f1).length ≤ 4000000; rw [List.length_map]; exact Nat.le_trans h.2.1 (by decide), fun y hy => by obtain ⟨z, hz, rfl⟩ := List.mem_map.1 hy; exact Wi_cvAlarm (h.2.2 z hz)⟩⟩
theorem szChain_ev (x : S119) (hB : B119 x) (n : Int) (h0 : 0 ≤ n) (h1 : n ≤ 1048576) : ∃ r, Ev (fun k => laws_szChain.f k x.f0 x.f1 n) r ∧ r ≤ n ∧ (0 ≤ r → WChain x) := by
  obtain ⟨r1, ⟨K1, g1⟩, l1, w1⟩ := szAlarmS_ev x.f1 hB.2 n (by omega) (by omega)
  by_cases c1 : r1 < 0
  · exact ⟨-1, ⟨K1, fun k hk => by simp [laws_szChain.f, g1 k (by omega), c1]⟩, by omega, by omega⟩
  exact ⟨r1, ⟨K1, fun k hk => by simp [laws_szChain.f, g1 k (by omega), c1]⟩, by omega, fun _ => ⟨trivial, (w1 (by omega))⟩⟩
theorem toChain_ev (x : S119) (h : WChain x) : Ev (fun k => laws_toChain.f k x.f0 x.f1) ((cvChain x).f0, (cvChain x).f1) := by
  obtain ⟨K1, g1⟩ := toAlarmS_ev x.f1 h.2
  exact ⟨K1, fun k hk => by simp [laws_toChain.f, cvChain, g1 k (by omega)]⟩
theorem eqChain_ev (x : S100) (h : WiChain x) : Ev (fun k => laws_eqChain.f k x.f0 x.f1 x.f0 x.f1) true := by
  obtain ⟨K1, g1⟩ := eqAlarmS_ev x.f1 h.2
  exact ⟨K1, fun k hk => by simp [laws_eqChain.f, g1 k (by omega)]⟩
theorem rdmidChainl (pre suf : List S119) (y : S119) : rd_T119 (pre ++ y :: suf) (pre.length : Int) = y := by unfold rd_T119; simp
theorem rdmidChaini (pre suf : List S100) (y : S100) : rd_T100 (pre ++ y :: suf) (pre.length : Int) = y := by unfold rd_T100; simp
theorem szChainS_l0 : ∀ (suf pre : List S119) (n : Int), 0 ≤ n → n ≤ 1048576 → (∀ y ∈ suf, B119 y) → (pre ++ suf).length < 4611686018427387904 → ∃ r, Ev (fun k => laws_szChainS.l0 k (pre ++ suf) n (pre.length : Int)) r ∧ r ≤ n ∧ (0 ≤ r → ∀ y ∈ suf, WChain y)
  | [], pre, n, h0, h1, hB, h => by
    refine ⟨n, Ev.step (f := fun _ => some n) (fun k => ?_) (Ev.now _), Int.le_refl _, fun _ y hy => by cases hy⟩
    simp only [laws_szChainS.l0]
    rw [if_neg (not_lt_end pre)]
  | y :: suf, pre, n, h0, h1, hB, h => by
    have hp : pre.length < 4611686018427387904 := by simp at h; omega
    have hy := hB y List.mem_cons_self
    obtain ⟨r1, g1, l1, w1⟩ := szChain_ev y hy n h0 h1
    by_cases c : r1 < 0
    · refine ⟨-1, Ev.step (f := fun k => (laws_szChain.f k y.f0 y.f1 n).bind fun t => if t < 0 then some (-1) else laws_szChainS.l0 k (pre ++ y :: suf) t (wrap64 ((pre.length : Int) + 1))) (fun k => ?_) (Ev.bind g1 ?_), by omega, by omega⟩
      · simp only [laws_szChainS.l0]
        rw [if_pos (lt_mid pre suf y), if_pos (nn _), rdmidChainl]
      · simp only [if_pos c]
        exact Ev.now _
    · obtain ⟨r, g, hl, hw⟩ := szChainS_l0 suf (pre ++ [y]) r1 (by omega) (by omega) (fun z hz => hB z (List.mem_cons_of_mem _ hz)) (by simpa using h)
      refine ⟨r, Ev.step (f := fun k => (laws_szChain.f k y.f0 y.f1 n).bind fun t => if t < 0 then some (-1) else laws_szChainS.l0 k ((pre ++ [y]) ++ suf) t ((pre ++ [y]).length : Int)) (fun k => ?_) (Ev.bind g1 ?_), by omega, fun hr z hz => ?_⟩
      · simp only [laws_szChainS.l0]
        rw [if_pos (lt_mid pre suf y), if_pos (nn _), rdmidChainl, wrap_up _ (by omega)]
        simp
      · simp only [if_neg c]
        exact g
      · rcases List.mem_cons.1 hz with rfl | hz
        · exact w1 (by omega)
        · exact hw hr z hz
theorem szChainS_ev (l : List S119) (hB : l.length ≤ maxLen ∧ ∀ y ∈ l, B119 y) (n : Int) (h0 : 0 ≤ n) (h1 : n ≤ 1048576) : ∃ r, Ev (fun k => laws_szChainS.f k l n) r ∧ r ≤ n ∧ (0 ≤ r → l.length ≤ 1048576 ∧ ∀ y ∈ l, WChain y) := by
  have q : l.length ≤ 9223372036854775807 := hB.1
  have e : wrap64 (n - (l.length : Int)) = n - (l.length : Int) := wrap_id (by omega) (by omega)
  by_cases c : n - (l.length : Int) < 0
  · exact ⟨-1, ⟨0, fun k _ => by simp [laws_szChainS.f, e, c]⟩, by omega, by omega⟩
  · obtain ⟨r, g, hl, hw⟩ := szChainS_l0 l [] (n - (l.length : Int)) (by omega) (by omega) hB.2 (by simp; omega)
    refine ⟨r, Ev.congr (fun k => ?_) g, by omega, fun hr => ⟨by omega, hw hr⟩⟩
    unfold laws_szChainS.f
    rw [e, if_neg c]
    rfl
theorem toChainS_l0 : ∀ (suf pre : List S119), (pre ++ suf).length < 4611686018427387904 → (∀ y ∈ suf, WChain y) → Ev (fun k => laws_toChainS.l0 k (pre ++ suf) ((pre.map cvChain) ++ List.replicate suf.length z100) (pre.length : Int)) ((pre ++ suf).map cvChain)
  | [], pre, h, hW => by
    refine Ev.step (f := fun _ => some ((pre ++ []).map cvChain)) (fun k => ?_) (Ev.now _)
    simp only [laws_toChainS.l0]
    rw [if_neg (not_lt_end pre)]
    simp
  | y :: suf, pre, h, hW => by
    have hp : pre.length < 4611686018427387904 := by simp at h; omega
    have ih := toChainS_l0 suf (pre ++ [y]) (by simpa using h) (fun z hz => hW z (List.mem_cons_of_mem _ hz))
    have g := toChain_ev y (hW y List.mem_cons_self)
    refine Ev.step (f := fun k => (laws_toChain.f k y.f0 y.f1).bind fun t => laws_toChainS.l0 k ((pre ++ [y]) ++ suf) ((pre.map cvChain) ++ (⟨t.1, t.2⟩ : S100) :: List.replicate suf.length z100) ((pre ++ [y]).length : Int)) (fun k => ?_) (Ev.bind g ?_)
    · simp only [laws_toChainS.l0]
      rw [if_pos (lt_mid pre suf y), if_pos (nn _), rdmidChainl, wrap_up _ (by omega)]
      congr 1
      funext t
      rw [if_pos (by simp; omega)]
      congr 1
      · simp
      · simp [List.replicate_succ]
      · simp
    · rw [mid_assoc pre suf y]
      have e : (pre.map cvChain) ++ (cvChain y) :: List.replicate suf.length z100 = ((pre ++ [y]).map cvChain) ++ List.replicate suf.length z100 := by simp
      rw [← e] at ih
      exact ih
theorem toChainS_ev (l : List S119) (h : l.length ≤ 1048576 ∧ ∀ y ∈ l, WChain y) : Ev (fun k => laws_toChainS.f k l) (l.map cvChain) := by
  have h1 := h.1
  refine Ev.congr (fun k => ?_) (toChainS_l0 l [] (by simp; omega) h.2)
  unfold laws_toChainS.f
  rw [if_pos (nn l.length), Int.toNat_natCast, if_pos (by omega)]
  rfl
theorem eqChainS_l0 : ∀ (suf pre : List S100), (pre ++ suf).length < 4611686018427387904 → (∀ y ∈ suf, WiChain y) → Ev (fun k => laws_eqChainS.l0 k (pre ++ suf) (pre ++ suf) (pre.length : Int)) true
  | [], pre, h, hW => by
    refine Ev.step (f := fun _ => some true) (fun k => ?_) (Ev.now _)
    simp only [laws_eqChainS.l0]
    rw [if_neg (not_lt_end pre)]
  | y :: suf, pre, h, hW => by
    have hp : pre.length < 4611686018427387904 := by simp at h; omega
    have ih := eqChainS_l0 suf (pre ++ [y]) (by simpa using h) (fun z hz => hW z (List.mem_cons_of_mem _ hz))
    have g := eqChain_ev y (hW y List.mem_cons_self)
    refine Ev.step (f := fun k => (laws_eqChain.f k y.f0 y.f1 y.f0 y.f1).bind fun t => if t = true then laws_eqChainS.l0 k ((pre ++ [y]) ++ suf) ((pre ++ [y]) ++ suf) ((pre ++ [y]).length : Int) else none) (fun k => ?_) (Ev.bind g ?_)
    · simp only [laws_eqChainS.l0]
      rw [if_pos (lt_mid pre suf y), if_pos (nn _), if_pos (lt_mid pre suf y), rdmidChaini, wrap_up _ (by omega)]
      simp
    · simp only [if_true]
      exact ih
theorem eqChainS_ev (l : List S100) (h : l.length ≤ 4000000 ∧ ∀ y ∈ l, WiChain y) : Ev (fun k => laws_eqChainS.f k l l) true := by
  have h1 := h.1
  refine Ev.congr (fun k => ?_) (eqChainS_l0 l [] (by simp; omega) h.2)
  unfold laws_eqChainS.f
  rw [if_pos rfl]
  rfl
def cvPart (x : S52) : S57 := ⟨x.f0, x.f1, (x.f2.map cvChain)⟩
def WPart (x : S52) : Prop := True ∧ True ∧ (x.f2.length ≤ 1048576 ∧ ∀ y ∈ x.f2, WChain y)
def WiPart (x : S57) : Prop := True ∧ True ∧ (x.f2.length ≤ 4000000 ∧ ∀ y ∈ x.f2, WiChain y)
theorem Wi_cvPart {x : S52} (h : WPart x) : WiPart (cvPart x) := ⟨trivial, trivial, ⟨by show (List.map cvChain x.f2).length ≤ 4000000; rw [List.length_map]; exact Nat.le_trans h.2.2.1 (by decide), fun y hy => by obtain ⟨z, hz, rfl⟩ := List.mem_map.1 hy; exact Wi_cvChain (h.2.2.2 z hz)⟩⟩
theorem szPart_ev (x : S52) (hB : B52 x) (n : Int) (h0 : 0 ≤ n) (h1 : n ≤ 1048576) : ∃ r, Ev (fun k => laws_szPart.f k x.f0 x.f1 x.f2 n) r ∧ r ≤ n ∧ (0 ≤ r → WPart x) := by
  obtain ⟨r1, ⟨K1, g1⟩, l1, w1⟩ := szChainS_ev x.f2 hB.2.2 n (by omega) (by omega)
  by_cases c1 : r1 < 0
  · exact ⟨-1, ⟨K1, fun k hk => by simp [laws_szPart.f, g1 k (by omega), c1]⟩, by omega, by omega⟩
  exact ⟨r1, ⟨K1, fun k hk => by simp [laws_szPart.f, g1 k (by omega), c1]⟩, by omega, fun _ => ⟨trivial, trivial, (w1 (by omega))⟩⟩
theorem toPart_ev (x : S52) (h : WPart x) : Ev (fun k => laws_toPart.f k x.f0 x.f1 x.f2) ((cvPart x).f0, (cvPart x).f1, (cvPart x).f2) := by
  obtain ⟨K2, g2⟩ := toChainS_ev x.f2 h.2.2
  exact ⟨K2, fun k hk => by simp [laws_toPart.f, cvPart, g2 k (by omega)]⟩
theorem eqPart_ev (x : S57) (h : WiPart x) : Ev (fun k => laws_eqPart.f k x.f0 x.f1 x.f2 x.f0 x.f1 x.f2) true := by
  obtain ⟨K2, g2⟩ := eqChainS_ev x.f2 h.2.2
  exact ⟨K2, fun k hk => by simp [laws_eqPart.f, g2 k (by omega)]⟩
theorem rdmidPartl (pre suf : List S52) (y : S52) : rd_T52 (pre ++ y :: suf) (pre.length : Int) = y := by unfold rd_T52; simp
theorem rdmidParti (pre suf : List S57) (y : S57) : rd_T57 (pre ++ y :: suf) (pre.length : Int) = y := by unfold rd_T57; simp
theorem szPartS_l0 : ∀ (suf pre : List S52) (n : Int), 0 ≤ n → n ≤ 1048576 → (∀ y ∈ suf, B52 y) → (pre ++ suf).length < 4611686018427387904 → ∃ r, Ev (fun k => laws_szPartS.l0 k (pre ++ suf) n (pre.length : Int)) r ∧ r ≤ n ∧ (0 ≤ r → ∀ y ∈ suf, WPart y)
  | [], pre, n, h0, h1, hB, h => by
    refine ⟨n, Ev.step (f := fun _ => some n) (fun k => ?_) (Ev.now _), Int.le_refl _, fun _ y hy => by cases hy⟩
    simp only [laws_szPartS.l0]
    rw [if_neg (not_lt_end pre)]
  | y :: suf, pre, n, h0, h1, hB, h => by
    have hp : pre.length < 4611686018427387904 := by simp at h; omega
    have hy := hB y List.mem_cons_self
    obtain ⟨r1, g1, l1, w1⟩ := szPart_ev y hy n h0 h1
    by_cases c : r1 < 0
    · refine ⟨-1, Ev.step (f := fun k => (laws_szPart.f k y.f0 y.f1 y.f2 n).bind fun t => if t < 0 then some (-1) else laws_szPartS.l0 k (pre ++ y :: suf) t (wrap64 ((pre.length : Int) + 1))) (fun k => ?_) (Ev.bind g1 ?_), by omega, by omega⟩
      · simp only [laws_szPartS.l0]
        rw [if_pos (lt_mid pre suf y), if_pos (nn _), rdmidPartl]
      · simp only [if_pos c]
        exact Ev.now _
    · obtain ⟨r, g, hl, hw⟩ := szPartS_l0 suf (pre ++ [y]) r1 (by omega) (by omega) (fun z hz => hB z (List.mem_cons_of_mem _ hz)) (by simpa using h)
      refine ⟨r, Ev.step (f := fun k => (laws_szPart.f k y.f0 y.f1 y.f2 n).bind fun t => if t < 0 then some (-1) else laws_szPartS.l0 k ((pre ++ [y]) ++ suf) t ((pre ++ [y]).length : Int)) (fun k => ?_) (Ev.bind g1 ?_), by omega, fun hr z hz => ?_⟩
      · simp only [laws_szPartS.l0]
        rw [if_pos (lt_mid pre suf y), if_pos (nn _), rdmidPartl, wrap_up _ (by omega)]
        simp
      · simp only [if_neg c]
        exact g
      · rcases List.mem_cons.1 hz with rfl | hz
        · exact w1 (by omega)
        · exact hw hr z hz
theorem szPartS_ev (l : List S52) (hB : l.length ≤ maxLen ∧ ∀ y ∈ l, B52 y) (n : Int) (h0 : 0 ≤ n) (h1 : n ≤ 1048576) : ∃ r, Ev (fun k => laws_szPartS.f k l n) r ∧ r ≤ n ∧ (0 ≤ r → l.length ≤ 1048576 ∧ ∀ y ∈ l, WPart y) := by
  have q : l.length ≤ 9223372036854775807 := hB.1
  have e : wrap64 (n - (l.length : Int)) = n - (l.length : Int) := wrap_id (by omega) (by omega)
  by_cases c : n - (l.length : Int) < 0
  · exact ⟨-1, ⟨0, fun k _ => by simp [laws_szPartS.f, e, c]⟩, by omega, by omega⟩
  · obtain ⟨r, g, hl, hw⟩ := szPartS_l0 l [] (n - (l.length : Int)) (by omega) (by omega) hB.2 (by simp; omega)
    refine ⟨r, Ev.congr (fun k => ?_) g, by omega, fun hr => ⟨by omega, hw hr⟩⟩
    unfold laws_szPartS.f
    rw [e, if_neg c]
    rfl
theorem toPartS_l0 : ∀ (suf pre : List S52), (pre ++ suf).length < 4611686018427387904 → (∀ y ∈ suf, WPart y) → Ev (fun k => laws_toPartS.l0 k (pre ++ suf) ((pre.map cvPart) ++ List.replicate suf.length z57) (pre.length : Int)) ((pre ++ suf).map cvPart)
  | [], pre, h, hW => by
    refine Ev.step (f := fun _ => some ((pre ++ []).map cvPart)) (fun k => ?_) (Ev.now _)
    simp only [laws_toPartS.l0]
    rw [if_neg (not_lt_end pre)]
    simp
  | y :: suf, pre, h, hW => by
    have hp : pre.length < 4611686018427387904 := by simp at h; omega
    have ih := toPartS_l0 suf (pre ++ [y]) (by simpa using h) (fun z hz => hW z (List.mem_cons_of_mem _ hz))
    have g := toPart_ev y (hW y List.mem_cons_self)
    refine Ev.step (f := fun k => (laws_toPart.f k y.f0 y.f1 y.f2).bind fun t => laws_toPartS.l0 k ((pre ++ [y]) ++ suf) ((pre.map cvPart) ++ (⟨t.1, t.2.1, t.2.2⟩ : S57) :: List.replicate suf.length z57) ((pre ++ [y]).length : Int)) (fun k => ?_) (Ev.bind g ?_)
    · simp only [laws_toPartS.l0]
      rw [if_pos (lt_mid pre suf y), if_pos (nn _), rdmidPartl, wrap_up _ (by omega)]
      congr 1
      funext t
      rw [if_pos (by simp; omega)]
      congr 1
      · simp
      · simp [List.replicate_succ]
      · simp
    · rw [mid_assoc pre suf y]
      have e : (pre.map cvPart) ++ (cvPart y) :: List.replicate suf.length z57 = ((pre ++ [y]).map cvPart) ++ List.replicate suf.length z57 := by simp
      rw [← e] at ih
      exact ih
theorem toPartS_ev (l : List S52) (h : l.length ≤ 1048576 ∧ ∀ y ∈ l, WPart y) : Ev (fun k => laws_toPartS.f k l) (l.map cvPart) := by
  have h1 := h.1
  refine Ev.congr (fun k => ?_) (toPartS_l0 l [] (by simp; omega) h.2)
  unfold laws_toPartS.f
  rw [if_pos (nn l.length), Int.toNat_natCast, if_pos (by omega)]
  rfl
theorem eqPartS_l0 : ∀ (suf pre : List S57), (pre ++ suf).length < 4611686018427387904 → (∀ y ∈ suf, WiPart y) → Ev (fun k => laws_eqPartS.l0 k (pre ++ suf) (pre ++ suf) (pre.length : Int)) true
  | [], pre, h, hW => by
    refine Ev.step (f := fun _ => some true) (fun k => ?_) (Ev.now _)
    simp only [laws_eqPartS.l0]
    rw [if_neg (not_lt_end pre)]
  | y :: suf, pre, h, hW => by
    have hp : pre.length < 4611686018427387904 := by simp at h; omega
    have ih := eqPartS_l0 suf (pre ++ [y]) (by simpa using h) (fun z hz => hW z (List.mem_cons_of_mem _ hz))
    have g := eqPart_ev y (hW y List.mem_cons_self)
    refine Ev.step (f := fun k => (laws_eqPart.f k y.f0 y.f1 y.f2 y.f0 y.f1 y.f2).bind fun t => if t = true then laws_eqPartS.l0 k ((pre ++ [y]) ++ suf) ((pre ++ [y]) ++ suf) ((pre ++ [y]).length : Int) else none) (fun k => ?_) (Ev.bind g ?_)
    · simp only [laws_eqPartS.l0]
      rw [if_pos (lt_mid pre suf y), if_pos (nn _), if_pos (lt_mid pre suf y), rdmidParti, wrap_up _ (by omega)]
      simp
    · simp only [if_true]
      exact ih
theorem eqPartS_ev (l : List S57) (h : l.length ≤ 4000000 ∧ ∀ y ∈ l, WiPart y) : Ev (fun k => laws_eqPartS.f k l l) true := by
  have h1 := h.1
  refine Ev.congr (fun k => ?_) (eqPartS_l0 l [] (by simp; omega) h.2)
  unfold laws_eqPartS.f
  rw [if_pos rfl]
  rfl
theorem Wi_mapPart {l : List S52} (h : l.length ≤ 1048576 ∧ ∀ y ∈ l, WPart y) : (l.map cvPart).length ≤ 4000000 ∧ ∀ y ∈ l.map cvPart, WiPart y :=
  ⟨by rw [List.length_map]; exact Nat.le_trans h.1 (by decide), fun y hy => by obtain ⟨z, hz, rfl⟩ := List.mem_map.1 hy; exact Wi_cvPart (h.2 z hz)⟩
def cnAlarms : List S43 → Nat
  | [] => 0
  | y :: ys => cnLabels y.f0 + 3 + cnAlarms ys
noncomputable def mkAlarms : Int → List S43 → List S43
  | _, [] => []
  | k0, y :: ys => ⟨mkLabels k0 y.f0, (k0 + (cnLabels y.f0 : Int)), (k0 + (cnLabels y.f0 : Int) + 1), mkText (k0 + (cnLabels y.f0 : Int) + 2)⟩ :: mkAlarms (k0 + (cnLabels y.f0 : Int) + 3) ys
theorem cnAlarms_le : ∀ (l : List S43), l.length ≤ cnAlarms l
  | [] => Nat.le_refl _
  | y :: ys => by have := cnAlarms_le ys; simp only [cnAlarms, List.length_cons]; omega
theorem rdmmAlarm (pre suf : List S43) (y : S43) : rd_T43 (pre ++ y :: suf) (pre.length : Int) = y := by unfold rd_T43; simp
theorem markAlarmS_l0 : ∀ (suf pre : List S43) (k0 : Int), 0 ≤ k0 → k0 + (cnAlarms suf : Int) < 4611686018427387904 → (pre ++ suf).length < 4611686018427387904 → Ev (fun k => laws_markAlarmS.l0 k (pre ++ suf) k0 (pre.length : Int)) (k0 + (cnAlarms suf : Int), pre ++ mkAlarms k0 suf)
  | [], pre, k0, h0, h1, h => by
    refine Ev.step (f := fun _ => some (k0, pre ++ [])) (fun k => ?_) (by rw [show (k0 + (cnAlarms [] : Int), pre ++ mkAlarms k0 []) = (k0, pre ++ []) from by simp [cnAlarms, mkAlarms]]; exact Ev.now _)
    simp only [laws_markAlarmS.l0]
    rw [if_neg (not_lt_end pre)]
  | y :: suf, pre, k0, h0, h1, h => by
    have hp : pre.length < 4611686018427387904 := by simp at h; omega
    have hc : cnAlarms (y :: suf) = cnLabels y.f0 + 3 + cnAlarms suf := rfl
    rw [hc] at h1 ⊢
    obtain ⟨K, g⟩ := markAlarmS_l0 suf (pre ++ [(⟨mkLabels k0 y.f0, (k0 + (cnLabels y.f0 : Int)), (k0 + (cnLabels y.f0 : Int) + 1), mkText (k0 + (cnLabels y.f0 : Int) + 2)⟩ : S43)]) (k0 + (cnLabels y.f0 : Int) + 3) (by omega) (by omega) (by simpa using h)
    obtain ⟨K0, g0⟩ := markLabelS_ev y.f0 k0 (by omega) (by omega)
    obtain ⟨K1, g1⟩ := markText_ev (k0 + (cnLabels y.f0 : Int) + 2) (by omega) (by omega)
    refine ⟨K + K0 + K1 + 1, fun k hk => ?_⟩
    obtain ⟨k, rfl⟩ : ∃ m, k = m + 1 := ⟨k - 1, by omega⟩
    have G := g k (by omega)
    have G0 := g0 k (by omega)
    have G1 := g1 k (by omega)
    dsimp only at G G0 G1
    have w1 : wrap64 ((k0 + (cnLabels y.f0 : Int)) + 1) = (k0 + (cnLabels y.f0 : Int) + 1) := (wrap_id (by omega) (by omega)).trans (by omega)
    have w2 : wrap64 ((k0 + (cnLabels y.f0 : Int) + 1) + 1) = (k0 + (cnLabels y.f0 : Int) + 2) := (wrap_id (by omega) (by omega)).trans (by omega)
    have w3 : wrap64 ((k0 + (cnLabels y.f0 : Int) + 2) + 1) = (k0 + (cnLabels y.f0 : Int) + 3) := (wrap_id (by omega) (by omega)).trans (by omega)
    simp only [laws_markAlarmS.l0]
    rw [if_pos (lt_mid pre suf y)]
    simp only [nn, if_true, rdmmAlarm, Option.bind_some, Int.toNat_natCast, set_mid, wrap_up pre.length (by omega), G0, G1, w1, w2, w3]
    have eL : pre ++ (⟨mkLabels k0 y.f0, (k0 + (cnLabels y.f0 : Int)), (k0 + (cnLabels y.f0 : Int) + 1), mkText (k0 + (cnLabels y.f0 : Int) + 2)⟩ : S43) :: suf = (pre ++ [(⟨mkLabels k0 y.f0, (k0 + (cnLabels y.f0 : Int)), (k0 + (cnLabels y.f0 : Int) + 1), mkText (k0 + (cnLabels y.f0 : Int) + 2)⟩ : S43)]) ++ suf := by simp
    have eN : ((pre.length + 1 : Nat) : Int) = ((pre ++ [(⟨mkLabels k0 y.f0, (k0 + (cnLabels y.f0 : Int)), (k0 + (cnLabels y.f0 : Int) + 1), mkText (k0 + (cnLabels y.f0 : Int) + 2)⟩ : S43)]).length : Int) := by simp
    rw [eL, eN, G]
    refine congrArg some (Prod.ext ?_ ?_)
    · simp only []; push_cast; omega
    · simp [mkAlarms]
theorem markAlarmS_ev (l : List S43) (k0 : Int) (h0 : 0 ≤ k0) (h1 : k0 + (cnAlarms l : Int) < 4611686018427387904) : Ev (fun k => laws_markAlarmS.f k l k0) (k0 + (cnAlarms l : Int), mkAlarms k0 l) := by
  have := cnAlarms_le l
  exact Ev.congr (fun k => by unfold laws_markAlarmS.f; rfl) (markAlarmS_l0 l [] k0 h0 h1 (by simp; omega))
theorem heldAlarmS_l0 : ∀ (suf pre : List S43) (k0 : Int), 0 ≤ k0 → k0 + (cnAlarms suf : Int) < 4611686018427387904 → (pre ++ suf).length < 4611686018427387904 → Ev (fun k => laws_heldAlarmS.l0 k (pre ++ mkAlarms k0 suf) k0 (pre.length : Int)) (k0 + (cnAlarms suf : Int))
  | [], pre, k0, h0, h1, h => by
    refine Ev.step (f := fun _ => some k0) (fun k => ?_) (by simpa [cnAlarms] using Ev.now k0)
    rw [show mkAlarms k0 [] = [] from rfl]
    simp only [laws_heldAlarmS.l0]
    rw [if_neg (not_lt_end pre)]
  | y :: suf, pre, k0, h0, h1, h => by
    have hp : pre.length < 4611686018427387904 := by simp at h; omega
    have hc : cnAlarms (y :: suf) = cnLabels y.f0 + 3 + cnAlarms suf := rfl
    rw [hc] at h1 ⊢
    obtain ⟨K, g⟩ := heldAlarmS_l0 suf (pre ++ [(⟨mkLabels k0 y.f0, (k0 + (cnLabels y.f0 : Int)), (k0 + (cnLabels y.f0 : Int) + 1), mkText (k0 + (cnLabels y.f0 : Int) + 2)⟩ : S43)]) (k0 + (cnLabels y.f0 : Int) + 3) (by omega) (by omega) (by simpa using h)
    obtain ⟨K0, g0⟩ := heldLabelS_ev y.f0 k0 (by omega) (by omega)
    obtain ⟨K1, g1⟩ := markText_ev (k0 + (cnLabels y.f0 : Int) + 2) (by omega) (by omega)
    refine ⟨K + K0 + K1 + 1, fun k hk => ?_⟩
    obtain ⟨k, rfl⟩ : ∃ m, k = m + 1 := ⟨k - 1, by omega⟩
    have G := g k (by omega)
    have G0 := g0 k (by omega)
    have G1 := g1 k (by omega)
    dsimp only at G G0 G1
    have w1 : wrap64 ((k0 + (cnLabels y.f0 : Int)) + 1) = (k0 + (cnLabels y.f0 : Int) + 1) := (wrap_id (by omega) (by omega)).trans (by omega)
    have w2 : wrap64 ((k0 + (cnLabels y.f0 : Int) + 1) + 1) = (k0 + (cnLabels y.f0 : Int) + 2) := (wrap_id (by omega) (by omega)).trans (by omega)
    have w3 : wrap64 ((k0 + (cnLabels y.f0 : Int) + 2) + 1) = (k0 + (cnLabels y.f0 : Int) + 3) := (wrap_id (by omega) (by omega)).trans (by omega)
    have n0 : ¬ (k0 + (cnLabels y.f0 : Int) < 0) := by omega
    rw [show mkAlarms k0 (y :: suf) = ⟨mkLabels k0 y.f0, (k0 + (cnLabels y.f0 : Int)), (k0 + (cnLabels y.f0 : Int) + 1), mkText (k0 + (cnLabels y.f0 : Int) + 2)⟩ :: mkAlarms (k0 + (cnLabels y.f0 : Int) + 3) suf from rfl]
    simp only [laws_heldAlarmS.l0]
    rw [if_pos (lt_mid pre _ _)]
    simp only [nn, if_true, if_false, rdmmAlarm, Option.bind_some, wrap_up pre.length (by omega), G0, G1, w1, w2, w3, n0, bne_self_eq_false, Bool.false_eq_true]
    have eL : pre ++ (⟨mkLabels k0 y.f0, (k0 + (cnLabels y.f0 : Int)), (k0 + (cnLabels y.f0 : Int) + 1), mkText (k0 + (cnLabels y.f0 : Int) + 2)⟩ : S43) :: mkAlarms (k0 + (cnLabels y.f0 : Int) + 3) suf = (pre ++ [(⟨mkLabels k0 y.f0, (k0 + (cnLabels y.f0 : Int)), (k0 + (cnLabels y.f0 : Int) + 1), mkText (k0 + (cnLabels y.f0 : Int) + 2)⟩ : S43)]) ++ mkAlarms (k0 + (cnLabels y.f0 : Int) + 3) suf := by simp
    have eN : ((pre.length + 1 : Nat) : Int) = ((pre ++ [(⟨mkLabels k0 y.f0, (k0 + (cnLabels y.f0 : Int)), (k0 + (cnLabels y.f0 : Int) + 1), mkText (k0 + (cnLabels y.f0 : Int) + 2)⟩ : S43)]).length : Int) := by simp
    rw [eL, eN, G]
    refine congrArg some ?_
    push_cast; omega
theorem heldAlarmS_ev (l : List S43) (k0 : Int) (h0 : 0 ≤ k0) (h1 : k0 + (cnAlarms l : Int) < 4611686018427387904) : Ev (fun k => laws_heldAlarmS.f k (mkAlarms k0 l) k0) (k0 + (cnAlarms l : Int)) := by
  have := cnAlarms_le l
  exact Ev.congr (fun k => by unfold laws_heldAlarmS.f; rfl) (heldAlarmS_l0 l [] k0 h0 h1 (by simp; omega))
def cnChains : List S100 → Nat
  | [] => 0
  | y :: ys => cnAlarms y.f1 + 1 + cnChains ys
noncomputable def mkChains : Int → List S100 → List S100
  | _, [] => []
  | k0, y :: ys => ⟨k0, mkAlarms (k0 + 1) y.f1⟩ :: mkChains (k0 + 1 + (cnAlarms y.f1 : Int)) ys
theorem cnChains_le : ∀ (l : List S100), l.length ≤ cnChains l
  | [] => Nat.le_refl _
  | y :: ys => by have := cnChains_le ys; simp only [cnChains, List.length_cons]; omega
theorem rdmmChain (pre suf : List S100) (y : S100) : rd_T100 (pre ++ y :: suf) (pre.length : Int) = y := by unfold rd_T100; simp
theorem markChainS_l0 : ∀ (suf pre : List S100) (k0 : Int), 0 ≤ k0 → k0 + (cnChains suf : Int) < 4611686018427387904 → (pre ++ suf).length < 4611686018427387904 → Ev (fun k => laws_markChainS.l0 k (pre ++ suf) k0 (pre.length : Int)) (k0 + (cnChains suf : Int), pre ++ mkChains k0 suf)
  | [], pre, k0, h0, h1, h => by
    refine Ev.step (f := fun _ => some (k0, pre ++ [])) (fun k => ?_) (by rw [show (k0 + (cnChains [] : Int), pre ++ mkChains k0 []) = (k0, pre ++ []) from by simp [cnChains, mkChains]]; exact Ev.now _)
    simp only [laws_markChainS.l0]
    rw [if_neg (not_lt_end pre)]
  | y :: suf, pre, k0, h0, h1, h => by
    have hp : pre.length < 4611686018427387904 := by simp at h; omega
    have hc : cnChains (y :: suf) = cnAlarms y.f1 + 1 + cnChains suf := rfl
    rw [hc] at h1 ⊢
    obtain ⟨K, g⟩ := markChainS_l0 suf (pre ++ [(⟨k0, mkAlarms (k0 + 1) y.f1⟩ : S100)]) (k0 + 1 + (cnAlarms y.f1 : Int)) (by omega) (by omega) (by simpa using h)
    obtain ⟨K0, g0⟩ := markAlarmS_ev y.f1 (k0 + 1) (by omega) (by omega)
    refine ⟨K + K0 + 1, fun k hk => ?_⟩
    obtain ⟨k, rfl⟩ : ∃ m, k = m + 1 := ⟨k - 1, by omega⟩
    have G := g k (by omega)
    have G0 := g0 k (by omega)
    dsimp only at G G0
    have w0 : wrap64 (k0 + 1) = (k0 + 1) := (wrap_id (by omega) (by omega)).trans (by omega)
    simp only [laws_markChainS.l0]
    rw [if_pos (lt_mid pre suf y)]
    simp only [nn, if_true, rdmmChain, Option.bind_some, Int.toNat_natCast, set_mid, wrap_up pre.length (by omega), G0, w0]
    have eL : pre ++ (⟨k0, mkAlarms (k0 + 1) y.f1⟩ : S100) :: suf = (pre ++ [(⟨k0, mkAlarms (k0 + 1) y.f1⟩ : S100)]) ++ suf := by simp
    have eN : ((pre.length + 1 : Nat) : Int) = ((pre ++ [(⟨k0, mkAlarms (k0 + 1) y.f1⟩ : S100)]).length : Int) := by simp
    rw [eL, eN, G]
    refine congrArg some (Prod.ext ?_ ?_)
    · simp only []; push_cast; omega
    · simp [mkChains]
theorem markChainS_ev (l : List S100) (k0 : Int) (h0 : 0 ≤ k0) (h1 : k0 + (cnChains l : Int) < 4611686018427387904) : Ev (fun k => laws_markChainS.f k l k0) (k0 + (cnChains l : Int), mkChains k0 l) := by
  have := cnChains_le l
  exact Ev.congr (fun k => by unfold laws_markChainS.f; rfl) (markChainS_l0 l [] k0 h0 h1 (by simp; omega))
theorem heldChainS_l0 : ∀ (suf pre : List S100) (k0 : Int), 0 ≤ k0 → k0 + (cnChains suf : Int) < 4611686018427387904 → (pre ++ suf).length < 4611686018427387904 → Ev (fun k => laws_heldChainS.l0 k (pre ++ mkChains k0 suf) k0 (pre.length : Int)) (k0 + (cnChains suf : Int))
  | [], pre, k0, h0, h1, h => by
    refine Ev.step (f := fun _ => some k0) (fun k => ?_) (by simpa [cnChains] using Ev.now k0)
    rw [show mkChains k0 [] = [] from rfl]
    simp only [laws_heldChainS.l0]
    rw [if_neg (not_lt_end pre)]
  | y :: suf, pre, k0, h0, h1, h => by
    have hp : pre.length < 4611686018427387904 := by simp at h; omega
    have hc : cnChains (y :: suf) = cnAlarms y.f1 + 1 + cnChains suf := rfl
    rw [hc] at h1 ⊢
    obtain ⟨K, g⟩ := heldChainS_l0 suf (pre ++ [(⟨k0, mkAlarms (k0 + 1) y.f1⟩ : S100)]) (k0 + 1 + (cnAlarms y.f1 : Int)) (by omega) (by omega) (by simpa using h)
    obtain ⟨K0, g0⟩ := heldAlarmS_ev y.f1 (k0 + 1) (by omega) (by omega)
    refine ⟨K + K0 + 1, fun k hk => ?_⟩
    obtain ⟨k, rfl⟩ : ∃ m, k = m + 1 := ⟨k - 1, by omega⟩
    have G := g k (by omega)
    have G0 := g0 k (by omega)
    dsimp only at G G0
    have w0 : wrap64 (k0 + 1) = (k0 + 1) := (wrap_id (by omega) (by omega)).trans (by omega)
    have n1 : ¬ ((k0 + 1) + (cnAlarms y.f1 : Int) < 0) := by omega
    rw [show mkChains k0 (y :: suf) = ⟨k0, mkAlarms (k0 + 1) y.f1⟩ :: mkChains (k0 + 1 + (cnAlarms y.f1 : Int)) suf from rfl]
    simp only [laws_heldChainS.l0]
    rw [if_pos (lt_mid pre _ _)]
    simp only [nn, if_true, if_false, rdmmChain, Option.bind_some, wrap_up pre.length (by omega), G0, w0, n1, bne_self_eq_false, Bool.false_eq_true]
    have eL : pre ++ (⟨k0, mkAlarms (k0 + 1) y.f1⟩ : S100) :: mkChains (k0 + 1 + (cnAlarms y.f1 : Int)) suf = (pre ++ [(⟨k0, mkAlarms (k0 + 1) y.f1⟩ : S100)]) ++ mkChains (k0 + 1 + (cnAlarms y.f1 : Int)) suf := by simp
    have eN : ((pre.length + 1 : Nat) : Int) = ((pre ++ [(⟨k0, mkAlarms (k0 + 1) y.f1⟩ : S100)]).length : Int) := by simp
    rw [eL, eN, G]
    refine congrArg some ?_
    push_cast; omega
theorem heldChainS_ev (l : List S100) (k0 : Int) (h0 : 0 ≤ k0) (h1 : k0 + (cnChains l : Int) < 4611686018427387904) : Ev (fun k => laws_heldChainS.f k (mkChains k0 l) k0) (k0 + (cnChains l : Int)) := by
  have := cnChains_le l
  exact Ev.congr (fun k => by unfold laws_heldChainS.f; rfl) (heldChainS_l0 l [] k0 h0 h1 (by simp; omega))
def cnParts : List S57 → Nat
  | [] => 0
  | y :: ys => cnChains y.f2 + 2 + cnParts ys
noncomputable def mkParts : Int → List S57 → List S57
  | _, [] => []
  | k0, y :: ys => ⟨k0, (k0 + 1), mkChains (k0 + 2) y.f2⟩ :: mkParts (k0 + 2 + (cnChains y.f2 : Int)) ys
theorem cnParts_le : ∀ (l : List S57), l.length ≤ cnParts l
  | [] => Nat.le_refl _
  | y :: ys => by have := cnParts_le ys; simp only [cnParts, List.length_cons]; omega
theorem rdmmPart (pre suf : List S57) (y : S57) : rd_T57 (pre ++ y :: suf) (pre.length : Int) = y := by unfold rd_T57; simp
theorem markPartS_l0 : ∀ (suf pre : List S57) (k0 : Int), 0 ≤ k0 → k0 + (cnParts suf : Int) < 4611686018427387904 → (pre ++ suf).length < 4611686018427387904 → Ev (fun k => laws_markPartS.l0 k (pre ++ suf) k0 (pre.length : Int)) (k0 + (cnParts suf : Int), pre ++ mkParts k0 suf)
  | [], pre, k0, h0, h1, h => by
    refine Ev.step (f := fun _ => some (k0, pre ++ [])) (fun k => ?_) (by rw [show (k0 + (cnParts [] : Int), pre ++ mkParts k0 []) = (k0, pre ++ []) from by simp [cnParts, mkParts]]; exact Ev.now _)
    simp only [laws_markPartS.l0]
    rw [if_neg (not_lt_end pre)]
  | y :: suf, pre, k0, h0, h1, h => by
    have hp : pre.length < 4611686018427387904 := by simp at h; omega
    have hc : cnParts (y :: suf) = cnChains y.f2 + 2 + cnParts suf := rfl
    rw [hc] at h1 ⊢
    obtain ⟨K, g⟩ := markPartS_l0 suf (pre ++ [(⟨k0, (k0 + 1), mkChains (k0 + 2) y.f2⟩ : S57)]) (k0 + 2 + (cnChains y.f2 : Int)) (by omega) (by omega) (by simpa using h)
    obtain ⟨K0, g0⟩ := markChainS_ev y.f2 (k0 + 2) (by omega) (by omega)
    refine ⟨K + K0 + 1, fun k hk => ?_⟩
    obtain ⟨k, rfl⟩ : ∃ m, k = m + 1 := ⟨k - 1, by omega⟩
    have G := g k (by omega)
    have G0 := g0 k (by omega)
    dsimp only at G G0
    have w0 : wrap64 (k0 + 1) = (k0 + 1) := (wrap_id (by omega) (by omega)).trans (by omega)
    have w1 : wrap64 ((k0 + 1) + 1) = (k0 + 2) := (wrap_id (by omega) (by omega)).trans (by omega)
    simp only [laws_markPartS.l0]
    rw [if_pos (lt_mid pre suf y)]
    simp only [nn, if_true, rdmmPart, Option.bind_some, Int.toNat_natCast, set_mid, wrap_up pre.length (by omega), G0, w0, w1]
    have eL : pre ++ (⟨k0, (k0 + 1), mkChains (k0 + 2) y.f2⟩ : S57) :: suf = (pre ++ [(⟨k0, (k0 + 1), mkChains (k0 + 2) y.f2⟩ : S57)]) ++ suf := by simp
    have eN : ((pre.length + 1 : Nat) : Int) = ((pre ++ [(⟨k0, (k0 + 1), mkChains (k0 + 2) y.f2⟩ : S57)]).length : Int) := by simp
    rw [eL, eN, G]
    refine congrArg some (Prod.ext ?_ ?_)
    · simp only []; push_cast; omega
    · simp [mkParts]
theorem markPartS_ev (l : List S57) (k0 : Int) (h0 : 0 ≤ k0) (h1 : k0 + (cnParts l : Int) < 4611686018427387904) : Ev (fun k => laws_markPartS.f k l k0) (k0 + (cnParts l : Int), mkParts k0 l) := by
  have := cnParts_le l
  exact Ev.congr (fun k => by unfold laws_markPartS.f; rfl) (markPartS_l0 l [] k0 h0 h1 (by simp; omega))
theorem heldPartS_l0 : ∀ (suf pre : List S57) (k0 : Int), 0 ≤ k0 → k0 + (cnParts suf : Int) < 4611686018427387904 → (pre ++ suf).length < 4611686018427387904 → Ev (fun k => laws_heldPartS.l0 k (pre ++ mkParts k0 suf) k0 (pre.length : Int)) (k0 + (cnParts suf : Int))
  | [], pre, k0, h0, h1, h => by
    refine Ev.step (f := fun _ => some k0) (fun k => ?_) (by simpa [cnParts] using Ev.now k0)
    rw [show mkParts k0 [] = [] from rfl]
    simp only [laws_heldPartS.l0]
    rw [if_neg (not_lt_end pre)]
  | y :: suf, pre, k0, h0, h1, h => by
    have hp : pre.length < 4611686018427387904 := by simp at h; omega
    have hc : cnParts (y :: suf) = cnChains y.f2 + 2 + cnParts suf := rfl
    rw [hc] at h1 ⊢
    obtain ⟨K, g⟩ := heldPartS_l0 suf (pre ++ [(⟨k0, (k0 + 1), mkChains (k0 + 2) y.f2⟩ : S57)]) (k0 + 2 + (cnChains y.f2 : Int)) (by omega) (by omega) (by simpa using h)
    obtain ⟨K0, g0⟩ := heldChainS_ev y.f2 (k0 + 2) (by omega) (by omega)
    refine ⟨K + K0 + 1, fun k hk => ?_⟩
    obtain ⟨k, rfl⟩ : ∃ m, k = m + 1 := ⟨k - 1, by omega⟩
    have G := g k (by omega)
    have G0 := g0 k (by omega)
    dsimp only at G G0
    have w0 : wrap64 (k0 + 1) = (k0 + 1) := (wrap_id (by omega) (by omega)).trans (by omega)
    have w1 : wrap64 ((k0 + 1) + 1) = (k0 + 2) := (wrap_id (by omega) (by omega)).trans (by omega)
    have n2 : ¬ ((k0 + 2) + (cnChains y.f2 : Int) < 0) := by omega
    rw [show mkParts k0 (y :: suf) = ⟨k0, (k0 + 1), mkChains (k0 + 2) y.f2⟩ :: mkParts (k0 + 2 + (cnChains y.f2 : Int)) suf from rfl]
    simp only [laws_heldPartS.l0]
    rw [if_pos (lt_mid pre _ _)]
    simp only [nn, if_true, if_false, rdmmPart, Option.bind_some, wrap_up pre.length (by omega), G0, w0, w1, n2, bne_self_eq_false, Bool.false_eq_true]
    have eL : pre ++ (⟨k0, (k0 + 1), mkChains (k0 + 2) y.f2⟩ : S57) :: mkParts (k0 + 2 + (cnChains y.f2 : Int)) suf = (pre ++ [(⟨k0, (k0 + 1), mkChains (k0 + 2) y.f2⟩ : S57)]) ++ mkParts (k0 + 2 + (cnChains y.f2 : Int)) suf := by simp
    have eN : ((pre.length + 1 : Nat) : Int) = ((pre ++ [(⟨k0, (k0 + 1), mkChains (k0 + 2) y.f2⟩ : S57)]).length : Int) := by simp
    rw [eL, eN, G]
    refine congrArg some ?_
    push_cast; omega
theorem heldPartS_ev (l : List S57) (k0 : Int) (h0 : 0 ≤ k0) (h1 : k0 + (cnParts l : Int) < 4611686018427387904) : Ev (fun k => laws_heldPartS.f k (mkParts k0 l) k0) (k0 + (cnParts l : Int)) := by
  have := cnParts_le l
  exact Ev.congr (fun k => by unfold laws_heldPartS.f; rfl) (heldPartS_l0 l [] k0 h0 h1 (by simp; omega))
theorem cnLabels_eq : ∀ l : List S88, cnLabels l = 2 * l.length
  | [] => rfl
  | y :: ys => by have := cnLabels_eq ys; simp only [cnLabels, List.length_cons]; omega
theorem cnLabels_wi {l : List S88} (h : l.length ≤ 4000000 ∧ ∀ y ∈ l, WiLabel y) : cnLabels l ≤ 8000000 := by have := h.1; rw [cnLabels_eq]; omega
/-- A loop that goes on or stops with an answer. -/
def scan {ρ : Type} (step : Nat → Option ρ) (fin : ρ) : Nat → Nat → ρ
  | 0, _ => fin
  | d + 1, i => match step i with
    | some r => r
    | none => scan step fin d (i + 1)
/-- What one round does. -/
def goOn {ρ : Type} (o : Option ρ) (next : Option ρ) : Option ρ := match o with
  | some r => some r
  | none => next
theorem scan_ev2 {ρ : Type} {F : Nat → Int → Option ρ} {n : Nat} {step : Nat → Option ρ} {fin : ρ} (hend : ∃ K, ∀ k, K ≤ k → F (k + 1) (n : Int) = some fin)
    (hstep : ∀ i, i < n → ∃ K, ∀ k, K ≤ k → F (k + 1) (i : Int) = goOn (step i) (F k ((i + 1 : Nat) : Int))) : ∀ d i, d + i = n → Ev (fun k => F k (i : Int)) (scan step fin d i)
  | 0, i, h => by
    obtain rfl : i = n := by omega
    obtain ⟨K, hK⟩ := hend
    refine ⟨K + 1, fun k hk => ?_⟩
    obtain ⟨m, rfl⟩ : ∃ m, k = m + 1 := ⟨k - 1, by omega⟩
    exact hK m (by omega)
  | d + 1, i, h => by
    obtain ⟨K, hK⟩ := hstep i (by omega)
    unfold scan
    cases hs : step i with
    | some r =>
      refine ⟨K + 1, fun k hk => ?_⟩
      obtain ⟨m, rfl⟩ : ∃ m, k = m + 1 := ⟨k - 1, by omega⟩
      have := hK m (by omega)
      rw [hs] at this
      exact this
    | none =>
      obtain ⟨K', hK'⟩ := scan_ev2 hend hstep d (i + 1) (by omega)
      refine ⟨max K K' + 1, fun k hk => ?_⟩
      obtain ⟨m, rfl⟩ : ∃ m, k = m + 1 := ⟨k - 1, by omega⟩
      have := hK m (by omega)
      rw [hs] at this
      exact this.trans (hK' m (by omega))
theorem scan_ev {ρ : Type} {F : Nat → Int → Option ρ} {n : Nat} {step : Nat → Option ρ} {fin : ρ} (hend : ∀ k, F (k + 1) (n : Int) = some fin)
    (hstep : ∀ i, i < n → ∃ K, ∀ k, K ≤ k → F (k + 1) (i : Int) = goOn (step i) (F k ((i + 1 : Nat) : Int))) : ∀ d i, d + i = n → Ev (fun k => F k (i : Int)) (scan step fin d i) := scan_ev2 ⟨0, fun k _ => hend k⟩ hstep
theorem scan_congr {ρ : Type} {s s' : Nat → Option ρ} {f : ρ} : ∀ d i, (∀ j, i ≤ j → j < i + d → s j = s' j) → scan s f d i = scan s' f d i
  | 0, _, _ => rfl
  | d + 1, i, h => by
    unfold scan
    rw [h i (Nat.le_refl _) (by omega)]
    cases s' i with
    | some r => rfl
    | none => exact scan_congr d (i + 1) (fun j h1 h2 => h j (by omega) (by omega))
/-- Two lists of one length, element by element. -/
theorem scan_same {α β : Type} [DecidableEq β] (f : α → β) (z : α) : ∀ (a b pa pb : List α), a.length = b.length → pa.length = pb.length →
    scan (fun i => if f ((pa ++ a).getD i z) = f ((pb ++ b).getD i z) then none else some false) true a.length pa.length = decide (a.map f = b.map f)
  | [], [], pa, pb, _, _ => by simp [scan]
  | [], _ :: _, _, _, h, _ => by simp at h
  | _ :: _, [], _, _, h, _ => by simp at h
  | x :: a, y :: b, pa, pb, h, h2 => by
    have ih := scan_same f z a b (pa ++ [x]) (pb ++ [y]) (by simpa using h) (by simp [h2])
    simp only [List.append_assoc, List.singleton_append, List.length_append, List.length_singleton] at ih
    simp only [List.length_cons, scan]
    rw [show (pa ++ x :: a).getD pa.length z = x by simp, show (pb ++ y :: b).getD pa.length z = y by rw [h2]; simp]
    by_cases he : f x = f y
    · simp only [if_pos he]; rw [ih]; simp [he]
    · simp [he]
theorem scan_same0 {α β : Type} [DecidableEq β] (f : α → β) (z : α) (a b : List α) (h : a.length = b.length) : scan (fun i => if f (a.getD i z) = f (b.getD i z) then none else some false) true a.length 0 = decide (a.map f = b.map f) := scan_same f z a b [] [] h rfl
/-- The place of the first that is so, or -1. -/
def place {α : Type} (p : α → Bool) : List α → Nat → Int
  | [], _ => -1
  | x :: l, i => if p x = true then (i : Int) else place p l (i + 1)
theorem scan_place {α : Type} (p : α → Bool) (z : α) : ∀ (suf pre : List α), scan (fun i => if p ((pre ++ suf).getD i z) = true then some (i : Int) else none) (-1) suf.length pre.length = place p suf pre.length
  | [], pre => by simp [scan, place]
  | y :: suf, pre => by
    have ih := scan_place p z suf (pre ++ [y])
    simp only [List.append_assoc, List.singleton_append, List.length_append, List.length_singleton] at ih
    simp only [List.length_cons, scan, place]
    rw [show (pre ++ y :: suf).getD pre.length z = y by simp]
    by_cases hp : p y = true
    · simp [hp]
    · simp only [if_neg hp]; exact ih
theorem scan_place0 {α : Type} (p : α → Bool) (z : α) (l : List α) : scan (fun i => if p (l.getD i z) = true then some (i : Int) else none) (-1) l.length 0 = place p l 0 := scan_place p z l []
theorem getD_eq {α : Type} (l : List α) (i : Nat) (z : α) (h : i < l.length) : l.getD i z = l[i] := by simp [List.getD_eq_getElem?_getD, List.getElem?_eq_getElem h]
theorem getD_mem {α : Type} (l : List α) (i : Nat) (z : α) (h : i < l.length) : l.getD i z ∈ l := by rw [getD_eq l i z h]; exact List.getElem_mem h
theorem place_ge {α : Type} (p : α → Bool) : ∀ (l : List α) (i : Nat), (0 ≤ place p l i) ↔ l.any p = true
  | [], i => by simp [place]
  | x :: l, i => by
    unfold place
    by_cases h : p x = true
    · rw [if_pos h]; simp [h]
    · rw [if_neg h, place_ge p l (i + 1)]; simp [h]
theorem rdnLabel (l : List S88) (i : Nat) : rd_T88 l (i : Int) = l.getD i z88 := by unfold rd_T88; simp
theorem rdnAlarm (l : List S43) (i : Nat) : rd_T43 l (i : Int) = l.getD i z43 := by unfold rd_T43; simp
/-- A label as two lists of bytes; an alarm as what it holds. -/
def lab (x : S88) : List UInt8 × List UInt8 := (x.f0.toList, x.f1.toList)
def sameSet (a b : List S88) : Bool := decide (a.map lab = b.map lab)
theorem map_ne_of_length {α β : Type} {f : α → β} {a b : List α} (h : ¬ a.length = b.length) : ¬ (a.map f = b.map f) := fun e => h (by simpa using congrArg List.length e)
theorem labNe (x y : S88) : ((!(x.f0.toList == y.f0.toList) || (!(x.f1.toList == y.f1.toList))) = true) ↔ ¬ lab x = lab y := by
  unfold lab
  simp only [Prod.mk.injEq, Bool.or_eq_true, Bool.not_eq_true', beq_eq_false_iff_ne]
  constructor
  · rintro (h | h) ⟨h1, h2⟩
    · exact h h1
    · exact h h2
  · intro h
    by_cases h1 : x.f0.toList = y.f0.toList
    · exact .inr fun h2 => h ⟨h1, h2⟩
    · exact .inl h1
theorem implSameSet_ev (a b : List S88) (h : a.length < 4611686018427387904) : Ev (fun k => impl_SameSet.f k a b) (sameSet a b) := by
  unfold impl_SameSet.f sameSet
  by_cases hl : a.length = b.length
  · simp only [if_pos (show (a.length : Int) = (b.length : Int) by omega)]
    rw [← scan_same0 lab z88 a b hl]
    refine scan_ev (F := fun k i => impl_SameSet.l0 k a b (a.length : Int) i) (n := a.length) (fun k => ?_) (fun i hi => ⟨0, fun k _ => ?_⟩) a.length 0 (by omega)
    · simp only [impl_SameSet.l0]; rw [if_neg (by omega)]
    · simp only [impl_SameSet.l0]
      rw [if_pos (by omega), if_pos (by omega), if_pos (by omega), if_pos (by omega), rdnLabel, rdnLabel, wrap_up i (by omega)]
      by_cases hc : lab (a.getD i z88) = lab (b.getD i z88)
      · rw [if_neg (fun e => (labNe _ _).1 e hc), if_pos hc]; rfl
      · rw [if_pos ((labNe _ _).2 hc), if_neg hc]; rfl
  · simp only [if_neg (show ¬ (a.length : Int) = (b.length : Int) by omega), decide_eq_false (map_ne_of_length hl)]
    exact Ev.now _
theorem specSameSet_ev (a b : List S88) (h : a.length < 4611686018427387904) : Ev (fun k => spec_SameSet.f k a b) (sameSet a b) := by
  unfold spec_SameSet.f sameSet
  by_cases hl : a.length = b.length
  · simp only [if_pos (show (a.length : Int) = (b.length : Int) by omega)]
    rw [← scan_same0 lab z88 a b hl]
    refine scan_ev (F := fun k i => spec_SameSet.l0 k a b i) (n := a.length) (fun k => ?_) (fun i hi => ⟨0, fun k _ => ?_⟩) a.length 0 (by omega)
    · simp only [spec_SameSet.l0]; rw [if_neg (by omega)]
    · simp only [spec_SameSet.l0]
      rw [if_pos (by omega), if_pos (by omega), if_pos (by omega), rdnLabel, rdnLabel, wrap_up i (by omega)]
      by_cases hc : lab (a.getD i z88) = lab (b.getD i z88)
      · rw [if_neg (fun e => (labNe _ _).1 e hc), if_pos hc]; rfl
      · rw [if_pos ((labNe _ _).2 hc), if_neg hc]; rfl
  · simp only [if_neg (show ¬ (a.length : Int) = (b.length : Int) by omega), decide_eq_false (map_ne_of_length hl)]
    exact Ev.now _
def labelsAt (l : List S43) (s : List S88) : Int := place (fun a => sameSet a.f0 s) l 0
theorem implLabelsAt_ev (l : List S43) (s : List S88) (h : l.length ≤ 4000000 ∧ ∀ y ∈ l, WiAlarm y) : Ev (fun k => impl_labelsAt.f k l s) (labelsAt l s) := by
  have h1 := h.1
  unfold impl_labelsAt.f labelsAt
  rw [← scan_place0 (fun a : S43 => sameSet a.f0 s) z43 l]
  refine scan_ev (F := fun k i => impl_labelsAt.l0 k s l (l.length : Int) i) (n := l.length) (fun k => ?_) (fun i hi => ?_) l.length 0 (by omega)
  · simp only [impl_labelsAt.l0]; rw [if_neg (by omega)]
  · have hw := (h.2 _ (getD_mem l i z43 hi)).1.1
    obtain ⟨K, g⟩ := implSameSet_ev (l.getD i z43).f0 s (by omega)
    refine ⟨K, fun k hk => ?_⟩
    have e := g k hk
    simp only at e
    simp only [impl_labelsAt.l0]
    rw [if_pos (by omega), if_pos (by omega), if_pos (by omega), rdnAlarm, e, Option.bind_some, wrap_up i (by omega)]
    cases sameSet (l.getD i z43).f0 s <;> simp [goOn]
theorem inEq (a b c : Int) : impl_in.f a b c = some (decide (b ≤ a) && decide (a ≤ c)) := by
  unfold impl_in.f
  by_cases h : a ≥ b
  · rw [if_pos h]; simp [show b ≤ a from h]
  · rw [if_neg h]; simp [show ¬ b ≤ a from h]
theorem l1InEq (a b c : Int) : spec_l1In.f a b c = some (decide (b ≤ a) && decide (a ≤ c)) := by
  unfold spec_l1In.f
  by_cases h : a ≥ b
  · rw [if_pos h]; simp [show b ≤ a from h]
  · rw [if_neg h]; simp [show ¬ b ≤ a from h]
/-- Each byte of a name. -/
def nameStep {ρ : Type} (no : ρ) (s : ByteArray) (i : Nat) : Option ρ := if (bt s (i : Int)) < 97 then some no else if (bt s (i : Int)) > 122 then some no else none
def nameOk (s : ByteArray) : Bool := (decide (1 ≤ (s.size : Int)) && decide ((s.size : Int) ≤ 8)) && scan (nameStep false s) true s.size 0
/-- Where nothing stops a loop but with 'false', its end may wait. -/
theorem scan_end {step : Nat → Option Bool} (h : ∀ i r, step i = some r → r = false) (e : Bool) : ∀ d i, scan step e d i = (e && scan step true d i)
  | 0, i => by simp [scan]
  | d + 1, i => by
    unfold scan
    cases hs : step i with
    | some r => rw [h i r hs]; simp
    | none => exact scan_end h e d (i + 1)
theorem nameStep_false (s : ByteArray) (i : Nat) (r : Bool) (h : nameStep false s i = some r) : r = false := by
  unfold nameStep at h
  split at h
  · injection h with h; exact h.symm
  · split at h
    · injection h with h; exact h.symm
    · cases h
theorem implNameOk_ev (s : ByteArray) (h : s.size < 4611686018427387904) : Ev (fun k => impl_NameOk.f k s) (nameOk s) := by
  unfold impl_NameOk.f nameOk
  simp only [inEq, Option.bind_some]
  cases hc : (decide (1 ≤ (s.size : Int)) && decide ((s.size : Int) ≤ 8)) with
  | false => simp only [Bool.false_eq_true, if_false, Bool.false_and]; exact Ev.now _
  | true =>
    simp only [if_true, Bool.true_and]
    refine scan_ev (F := fun k i => impl_NameOk.l0 k s i) (n := s.size) (fun k => ?_) (fun i hi => ⟨0, fun k _ => ?_⟩) s.size 0 (by omega)
    · simp only [impl_NameOk.l0]; rw [if_neg (by omega)]
    · simp only [impl_NameOk.l0, nameStep]
      rw [if_pos (by omega), if_pos (by omega), wrap_up i (by omega)]
      split
      · rfl
      · split <;> rfl
theorem specNameOk_ev (s : ByteArray) (h : s.size < 4611686018427387904) : Ev (fun k => spec_NameOk.f k s) (nameOk s) := by
  unfold spec_NameOk.f nameOk
  rw [← scan_end (nameStep_false s)]
  refine scan_ev (F := fun k i => spec_NameOk.l0 k s i) (n := s.size) (fun k => ?_) (fun i hi => ⟨0, fun k _ => ?_⟩) s.size 0 (by omega)
  · simp only [spec_NameOk.l0]; rw [if_neg (by omega), l1InEq]; rfl
  · simp only [spec_NameOk.l0, nameStep]
    rw [if_pos (by omega), if_pos (by omega), wrap_up i (by omega)]
    split
    · rfl
    · split <;> rfl
/-- Each byte of a plain text. -/
def plainStep {ρ : Type} (no : ρ) (s : ByteArray) (i : Nat) : Option ρ := if (bt s (i : Int)) < 32 then some no else if (bt s (i : Int)) > 126 then some no else if (bt s (i : Int)) = 34 then some no else if (bt s (i : Int)) = 92 then some no else none
def plainOk (s : ByteArray) : Bool := decide ((s.size : Int) ≤ 12) && scan (plainStep false s) true s.size 0
theorem plainStep_false (s : ByteArray) (i : Nat) (r : Bool) (h : plainStep false s i = some r) : r = false := by
  unfold plainStep at h
  repeat (split at h; (injection h with h; exact h.symm))
  cases h
theorem implPlainOk_ev (s : ByteArray) (h : s.size < 4611686018427387904) : Ev (fun k => impl_PlainOk.f k s) (plainOk s) := by
  unfold impl_PlainOk.f plainOk
  by_cases hc : (s.size : Int) > 12
  · simp only [if_pos hc, decide_eq_false (show ¬ (s.size : Int) ≤ 12 by omega), Bool.false_and]; exact Ev.now _
  · simp only [if_neg hc, decide_eq_true (show (s.size : Int) ≤ 12 by omega), Bool.true_and]
    refine scan_ev (F := fun k i => impl_PlainOk.l0 k s i) (n := s.size) (fun k => ?_) (fun i hi => ⟨0, fun k _ => ?_⟩) s.size 0 (by omega)
    · simp only [impl_PlainOk.l0]; rw [if_neg (by omega)]
    · simp only [impl_PlainOk.l0, plainStep]
      rw [if_pos (by omega), if_pos (by omega), wrap_up i (by omega)]
      repeat (split; rfl)
      rfl
theorem specPlainOk_ev (s : ByteArray) (h : s.size < 4611686018427387904) : Ev (fun k => spec_PlainOk.f k s) (plainOk s) := by
  unfold spec_PlainOk.f plainOk
  rw [← scan_end (plainStep_false s)]
  refine scan_ev (F := fun k i => spec_PlainOk.l0 k s i) (n := s.size) (fun k => ?_) (fun i hi => ⟨0, fun k _ => ?_⟩) s.size 0 (by omega)
  · simp only [spec_PlainOk.l0]; rw [if_neg (by omega)]
  · simp only [spec_PlainOk.l0, plainStep]
    rw [if_pos (by omega), if_pos (by omega), wrap_up i (by omega)]
    repeat (split; rfl)
    rfl
def labelOk (x : S88) : Bool := nameOk x.f0 && plainOk x.f1
theorem implLabelOk_ev (x : S88) (h : WiLabel x) : Ev (fun k => impl_LabelOk.f k x.f0 x.f1) (labelOk x) := by
  have h1 := h.1
  have h2 := h.2
  obtain ⟨K1, g1⟩ := implNameOk_ev x.f0 (by omega)
  obtain ⟨K2, g2⟩ := implPlainOk_ev x.f1 (by omega)
  refine ⟨K1 + K2, fun k hk => ?_⟩
  have e1 := g1 k (by omega)
  have e2 := g2 k (by omega)
  simp only at e1 e2
  simp only [impl_LabelOk.f, e1, e2, Option.bind_some, labelOk]
  cases nameOk x.f0 <;> simp
theorem specLabelOk_ev (x : S88) (h : WiLabel x) : Ev (fun k => spec_LabelOk.f k x.f0 x.f1) (labelOk x) := by
  have h1 := h.1
  have h2 := h.2
  obtain ⟨K1, g1⟩ := specNameOk_ev x.f0 (by omega)
  obtain ⟨K2, g2⟩ := specPlainOk_ev x.f1 (by omega)
  refine ⟨K1 + K2, fun k hk => ?_⟩
  have e1 := g1 k (by omega)
  have e2 := g2 k (by omega)
  simp only at e1 e2
  simp only [spec_LabelOk.f, e1, e2, Option.bind_some, labelOk]
  cases nameOk x.f0 <;> simp
/-- Is label i right, behind the one before it? -/
def setBit (l : List S88) (i : Nat) : Bool := labelOk (l.getD i z88) && (decide (i = 0) || Op.bytesLess (l.getD (i - 1) z88).f0.toList (l.getD i z88).f0.toList)
def setStep (l : List S88) (i : Nat) : Option Bool := if setBit l i = true then none else some false
def setOk (l : List S88) : Bool := decide ((l.length : Int) ≤ 4) && scan (setStep l) true l.length 0
theorem setStep_false (l : List S88) (i : Nat) (r : Bool) (h : setStep l i = some r) : r = false := by
  unfold setStep at h
  split at h
  · cases h
  · injection h with h; exact h.symm
theorem scan_stop {step : Nat → Option Bool} (hf : ∀ i r, step i = some r → r = false) : ∀ d i j, i ≤ j → j < i + d → step j = some false → scan step true d i = false
  | 0, i, j, h1, h2, _ => by omega
  | d + 1, i, j, h1, h2, h3 => by
    unfold scan
    cases hs : step i with
    | some r => exact hf i r hs
    | none =>
      by_cases e : i = j
      · subst e; rw [hs] at h3; cases h3
      · exact scan_stop hf d (i + 1) j (by omega) (by omega) h3
theorem sub1 (i : Nat) (h : 0 < i) (hi : i < 4611686018427387904) : wrap64 ((i : Int) - 1) = ((i - 1 : Nat) : Int) := by rw [wrap_id (by omega) (by omega)]; omega
theorem implSetOk_ev (l : List S88) (h : l.length ≤ 4000000 ∧ ∀ y ∈ l, WiLabel y) : Ev (fun k => impl_SetOk.f k l) (setOk l) := by
  have h1 := h.1
  have hx : setOk l = scan (fun i => if 4 ≤ i then some false else setStep l i) true l.length 0 := by
    unfold setOk
    by_cases h4 : l.length ≤ 4
    · rw [decide_eq_true (show (l.length : Int) ≤ 4 by omega), Bool.true_and]
      exact scan_congr _ _ (fun j _ hj => by rw [if_neg (by omega)])
    · rw [decide_eq_false (show ¬ (l.length : Int) ≤ 4 by omega), Bool.false_and]
      exact (scan_stop (step := fun i => if 4 ≤ i then some false else setStep l i) (fun i r hr => by
        by_cases hi : 4 ≤ i
        · simp only [if_pos hi] at hr; injection hr with hr; exact hr.symm
        · simp only [if_neg hi] at hr; exact setStep_false l i r hr) l.length 0 4 (by omega) (by omega) (by simp)).symm
  rw [hx]
  unfold impl_SetOk.f
  refine scan_ev (F := fun k i => impl_SetOk.l0 k l l (l.length : Int) i) (n := l.length) (fun k => ?_) (fun i hi => ?_) l.length 0 (by omega)
  · simp only [impl_SetOk.l0]; rw [if_neg (by omega)]
  · obtain ⟨K, g⟩ := implLabelOk_ev (l.getD i z88) (h.2 _ (getD_mem l i _ hi))
    refine ⟨K, fun k hk => ?_⟩
    have e := g k hk
    simp only at e
    simp only [impl_SetOk.l0]
    rw [if_pos (by omega), if_pos (by omega), if_pos (by omega)]
    by_cases h4 : 4 ≤ i
    · rw [if_pos (by omega), if_pos h4]; rfl
    · rw [if_neg (by omega), if_neg h4, rdnLabel, e, Option.bind_some, wrap_up i (by omega)]
      unfold setStep setBit
      cases hl : labelOk (l.getD i z88) with
      | false => simp [goOn]
      | true =>
        by_cases h0 : i = 0
        · subst h0; simp [goOn]
        · rw [if_pos rfl, if_pos (by omega), sub1 i (by omega) (by omega), if_pos (by omega), if_pos (by omega), rdnLabel, decide_eq_false h0]
          cases Op.bytesLess (l.getD (i - 1) z88).f0.toList (l.getD i z88).f0.toList <;> simp [goOn]
theorem specSetOk_ev (l : List S88) (h : l.length ≤ 4000000 ∧ ∀ y ∈ l, WiLabel y) : Ev (fun k => spec_SetOk.f k l) (setOk l) := by
  have h1 := h.1
  unfold spec_SetOk.f setOk
  rw [← scan_end (setStep_false l)]
  refine scan_ev (F := fun k i => spec_SetOk.l0 k l i) (n := l.length) (fun k => ?_) (fun i hi => ?_) l.length 0 (by omega)
  · simp only [spec_SetOk.l0]; rw [if_neg (by omega)]
  · obtain ⟨K, g⟩ := specLabelOk_ev (l.getD i z88) (h.2 _ (getD_mem l i _ hi))
    refine ⟨K, fun k hk => ?_⟩
    have e := g k hk
    simp only at e
    simp only [spec_SetOk.l0, spec_Less.f]
    rw [if_pos (by omega), if_pos (by omega), rdnLabel, e, Option.bind_some, wrap_up i (by omega)]
    unfold setStep setBit
    cases hl : labelOk (l.getD i z88) with
    | false => simp [goOn]
    | true =>
      by_cases h0 : i = 0
      · subst h0; simp [goOn]
      · rw [if_pos rfl, if_pos (by omega), sub1 i (by omega) (by omega), if_pos (by omega), if_pos (by omega), rdnLabel, decide_eq_false h0]
        cases Op.bytesLess (l.getD (i - 1) z88).f0.toList (l.getD i z88).f0.toList <;> simp [goOn]
def labL (x : S88) : List UInt8 := x.f0.data.toList ++ [61, 34] ++ x.f1.data.toList ++ [34]
def setTail : Bool → List S88 → List UInt8
  | _, [] => []
  | first, x :: r => (if first then [] else [44, 32]) ++ labL x ++ setTail false r
def setText (l : List S88) : ByteArray := if setOk l = true then ⟨([123] ++ setTail true l ++ [125]).toArray⟩ else ⟨#[]⟩
theorem ba_ext {a b : ByteArray} (h : a.data.toList = b.data.toList) : a = b := by
  cases a; cases b
  simp only at h
  rw [Array.toList_inj.1 h]
theorem ba_app (a b : ByteArray) : (a ++ b).data.toList = a.data.toList ++ b.data.toList := by simp [ByteArray.data_append]
theorem ba_len (a : ByteArray) : a.size = a.data.toList.length := rfl
theorem ba_szapp (a b : ByteArray) : (a ++ b).size = a.size + b.size := by rw [ba_len, ba_app, List.length_append, ← ba_len, ← ba_len]
theorem setOk_len (l : List S88) (h : setOk l = true) : l.length ≤ 4 := by
  unfold setOk at h
  rw [Bool.and_eq_true] at h
  have := of_decide_eq_true h.1
  omega
theorem sz2 : (⟨#[44, 32]⟩ : ByteArray).size = 2 := rfl
theorem sz2' : (⟨#[61, 34]⟩ : ByteArray).size = 2 := rfl
theorem sz1 : (⟨#[34]⟩ : ByteArray).size = 1 := rfl
theorem sz1a : (⟨#[123]⟩ : ByteArray).size = 1 := rfl
theorem specText_go : ∀ (suf pre : List S88) (acc : ByteArray), pre.length + suf.length ≤ 4 → (∀ y ∈ suf, WiLabel y) → acc.size ≤ 1 + pre.length * 10000000 →
    Ev (fun k => spec_SetText.l0 k (pre ++ suf) acc (pre.length : Int)) ⟨(acc.data.toList ++ setTail (decide (pre.length = 0)) suf ++ [125]).toArray⟩
  | [], pre, acc, h1, h2, h3 => by
    refine ⟨1, fun k hk => ?_⟩
    obtain ⟨m, rfl⟩ : ∃ m, k = m + 1 := ⟨k - 1, by omega⟩
    simp only [spec_SetText.l0]
    rw [if_neg (not_lt_end pre), if_pos (by simp only [List.length_nil] at h1; omega)]
    refine congrArg some (ba_ext ?_)
    rw [ba_app]
    simp [setTail]
  | y :: suf, pre, acc, h1, h2, h3 => by
    simp only [List.length_cons] at h1
    have hy := h2 y List.mem_cons_self
    have hy0 := hy.1
    have hy1 := hy.2
    have ih := fun a ha => specText_go suf (pre ++ [y]) a (by simp only [List.length_append, List.length_singleton]; omega) (fun z hz => h2 z (List.mem_cons_of_mem _ hz)) ha
    simp only [List.append_assoc, List.singleton_append, List.length_append, List.length_singleton] at ih
    by_cases hp : pre.length = 0
    · obtain ⟨K, hK⟩ := ih ((((acc ++ y.f0) ++ (⟨#[61, 34]⟩ : ByteArray)) ++ y.f1) ++ (⟨#[34]⟩ : ByteArray)) (by simp only [ba_szapp, sz2', sz1]; omega)
      refine ⟨K + 1, fun k hk => ?_⟩
      obtain ⟨m, rfl⟩ : ∃ m, k = m + 1 := ⟨k - 1, by omega⟩
      have e := hK m (by omega)
      simp only at e
      simp only [spec_SetText.l0, rdmidLabeli]
      rw [if_pos (lt_mid pre suf y), if_neg (by omega), if_pos (by omega), if_pos (by omega), if_pos (by simp only [ba_szapp]; omega), if_pos (by simp only [ba_szapp, sz2']; omega), if_pos (by simp only [ba_szapp, sz2']; omega), wrap_up pre.length (by omega), e]
      refine congrArg some (ba_ext ?_)
      simp only [ba_app, setTail, labL, hp, decide_true, if_true, List.nil_append, List.append_assoc]
      simp [setTail]
    · obtain ⟨K, hK⟩ := ih (((((acc ++ (⟨#[44, 32]⟩ : ByteArray)) ++ y.f0) ++ (⟨#[61, 34]⟩ : ByteArray)) ++ y.f1) ++ (⟨#[34]⟩ : ByteArray)) (by simp only [ba_szapp, sz2', sz2, sz1]; omega)
      refine ⟨K + 1, fun k hk => ?_⟩
      obtain ⟨m, rfl⟩ : ∃ m, k = m + 1 := ⟨k - 1, by omega⟩
      have e := hK m (by omega)
      simp only at e
      simp only [spec_SetText.l0, rdmidLabeli]
      rw [if_pos (lt_mid pre suf y), if_pos (by omega), if_pos (by omega), if_pos (by omega), if_pos (by simp only [ba_szapp, sz2]; omega), if_pos (by simp only [ba_szapp, sz2]; omega), if_pos (by simp only [ba_szapp, sz2, sz2']; omega), if_pos (by simp only [ba_szapp, sz2, sz2']; omega), wrap_up pre.length (by omega), e]
      refine congrArg some (ba_ext ?_)
      simp only [ba_app, setTail, labL, decide_eq_false hp, if_false, List.append_assoc]
      simp [setTail]
theorem specSetText_ev (l : List S88) (h : l.length ≤ 4000000 ∧ ∀ y ∈ l, WiLabel y) : Ev (fun k => spec_SetText.f k l) (setText l) := by
  obtain ⟨K, hK⟩ := specSetOk_ev l h
  by_cases ho : setOk l = true
  · have hl := setOk_len l ho
    obtain ⟨K', hK'⟩ := specText_go l [] (⟨#[123]⟩ : ByteArray) (by simp; omega) h.2 (by simp [sz1a])
    refine ⟨K + K', fun k hk => ?_⟩
    have e := hK k (by omega)
    have e' := hK' k (by omega)
    simp only at e
    simp only [List.nil_append, List.length_nil] at e'
    simp only [spec_SetText.f, e, Option.bind_some, ho, if_true, setText]
    exact e'
  · refine ⟨K, fun k hk => ?_⟩
    have e := hK k hk
    simp only at e
    simp [spec_SetText.f, e, ho, setText]
/-- The parts, each a text. -/
def partB (x : S88) : ByteArray := ((x.f0 ++ (⟨#[61, 34]⟩ : ByteArray)) ++ x.f1) ++ (⟨#[34]⟩ : ByteArray)
theorem partB_l (x : S88) : (partB x).data.toList = labL x := by simp [partB, labL, ba_app]
theorem tail_join : ∀ l : List S88, Lib.joinTail [44, 32] ((l.map partB).map (·.data.toList)) = setTail false l
  | [] => rfl
  | x :: r => by
    have ih := tail_join r
    unfold Lib.joinTail at ih ⊢
    simp only [List.map_cons, List.flatten_cons, setTail, ih, partB_l]
    simp
theorem all_join (l : List S88) : Lib.join ((l.map partB).map (·.data.toList)) [44, 32] = setTail true l := by
  cases l with
  | nil => rfl
  | cons x r =>
    have := tail_join r
    simp only [List.map_cons, Lib.join_cons, setTail, this, partB_l]
    simp
theorem setTail_len : ∀ (b : Bool) (l : List S88), (∀ y ∈ l, WiLabel y) → (setTail b l).length ≤ l.length * 10000000
  | _, [], _ => by simp [setTail]
  | b, x :: r, h => by
    have ih := setTail_len false r (fun y hy => h y (List.mem_cons_of_mem _ hy))
    have h0 := h x List.mem_cons_self
    have h1 := h0.1
    have h2 := h0.2
    have e1 : x.f0.data.toList.length = x.f0.size := rfl
    have e2 : x.f1.data.toList.length = x.f1.size := rfl
    cases b
    · simp only [setTail, labL, List.length_append, List.length_cons, List.length_nil, e1, e2, Bool.false_eq_true, if_false]; omega
    · simp only [setTail, labL, List.length_append, List.length_cons, List.length_nil, e1, e2, if_true]; omega
theorem implText_go (l : List S88) (hl : l.length ≤ 4) (hw : ∀ y ∈ l, WiLabel y) : ∀ (suf pre : List S88), pre ++ suf = l →
    Ev (fun k => impl_SetText.l0 k (pre.map partB) l (l.length : Int) (pre.length : Int)) ⟨([123] ++ setTail true l ++ [125]).toArray⟩
  | [], pre, h => by
    refine ⟨1, fun k hk => ?_⟩
    obtain ⟨m, rfl⟩ : ∃ m, k = m + 1 := ⟨k - 1, by omega⟩
    rw [List.append_nil] at h
    subst h
    have hj := all_join pre
    have ht := setTail_len true pre hw
    have hs : strings_Join.f (pre.map partB) (⟨#[44, 32]⟩ : ByteArray) = some ⟨(setTail true pre).toArray⟩ := by
      unfold strings_Join.f
      rw [show (⟨#[44, 32]⟩ : ByteArray).data.toList = [44, 32] from rfl, hj, List.length_map, if_pos ⟨by omega, by omega⟩]
    have hz : (⟨(setTail true pre).toArray⟩ : ByteArray).size = (setTail true pre).length := by simp [ByteArray.size]
    simp only [impl_SetText.l0]
    rw [if_neg (by omega), hs, Option.bind_some, if_pos (by rw [hz]; omega), if_pos (by rw [ba_szapp, hz, sz1a]; omega)]
    refine congrArg some (ba_ext ?_)
    simp [ba_app]
  | y :: suf, pre, h => by
    obtain ⟨K, hK⟩ := implText_go l hl hw suf (pre ++ [y]) (by rw [← h]; simp)
    have hy := hw y (by rw [← h]; simp)
    have hy0 := hy.1
    have hy1 := hy.2
    have hlen : pre.length < l.length := by rw [← h]; simp
    refine ⟨K + 1, fun k hk => ?_⟩
    obtain ⟨m, rfl⟩ : ∃ m, k = m + 1 := ⟨k - 1, by omega⟩
    have e := hK m (by omega)
    simp only [List.map_append, List.map_cons, List.map_nil, List.length_append, List.length_singleton] at e
    have hr : rd_T88 l (pre.length : Int) = y := by rw [← h]; exact rdmidLabeli pre suf y
    simp only [impl_SetText.l0, hr]
    rw [if_pos (by omega), if_pos (by omega), if_pos (by omega), if_pos (by omega), if_pos (by simp only [ba_szapp, sz2']; omega), if_pos (by simp only [ba_szapp, sz2']; omega), if_pos (by rw [List.length_map]; omega), wrap_up pre.length (by omega)]
    exact e
theorem implSetText_ev (l : List S88) (h : l.length ≤ 4000000 ∧ ∀ y ∈ l, WiLabel y) : Ev (fun k => impl_SetText.f k l) (setText l) := by
  obtain ⟨K, hK⟩ := implSetOk_ev l h
  by_cases ho : setOk l = true
  · have hl := setOk_len l ho
    obtain ⟨K', hK'⟩ := implText_go l hl h.2 l [] rfl
    refine ⟨K + K', fun k hk => ?_⟩
    have e := hK k (by omega)
    have e' := hK' k (by omega)
    simp only at e
    simp only [List.map_nil, List.length_nil] at e'
    simp only [impl_SetText.f, e, Option.bind_some, ho, if_true, setText]
    exact e'
  · refine ⟨K, fun k hk => ?_⟩
    have e := hK k hk
    simp only at e
    simp [impl_SetText.f, e, ho, setText]
theorem setText_sz (l : List S88) (h : l.length ≤ 4000000 ∧ ∀ y ∈ l, WiLabel y) : (setText l).size < 4611686018427387904 := by
  unfold setText
  split
  · have := setTail_len true l h.2
    have h1 := h.1
    rw [ba_len]
    simp only [List.length_append, List.length_singleton]
    omega
  · simp [ByteArray.size]
/-- A sum's step. -/
def sumStep (n b : Int) : Int := ((Go.bits .xor .u32 n b) * 16777619) % 4294967296
def sumGo (s : ByteArray) : Nat → Nat → Int → Int
  | 0, _, n => n
  | d + 1, i, n => sumGo s d (i + 1) (sumStep n (bt s (i : Int)))
theorem xor_nat (k : IntKind) (j : Nat) (hj : j ≤ k.bits) (hk : ∀ n : Int, 0 ≤ n → n < 2 ^ j → k.wrap n = n) (a b : Nat) (ha : a < 2 ^ j) (hb : b < 2 ^ j) :
    Go.bits .xor k a b = ((a ^^^ b : Nat) : Int) := by
  have hp : 2 ^ j ≤ 2 ^ k.bits := Nat.pow_le_pow_right (by decide) hj
  have ha' : a % 2 ^ k.bits = a := Nat.mod_eq_of_lt (Nat.lt_of_lt_of_le ha hp)
  have hb' : b % 2 ^ k.bits = b := Nat.mod_eq_of_lt (Nat.lt_of_lt_of_le hb hp)
  have cast : ∀ n : Nat, n < 2 ^ j → ((n : Nat) : Int) < 2 ^ j := fun n h => by exact_mod_cast h
  simp only [Go.bits, BitVec.ofInt_natCast, BitVec.toNat_xor, BitVec.toNat_ofNat, ha', hb']
  exact hk _ (Int.natCast_nonneg _) (cast _ (Nat.xor_lt_two_pow ha hb))
theorem xor_both (n b : Int) (h0 : 0 ≤ n) (h1 : n < 4294967296) (h2 : 0 ≤ b) (h3 : b ≤ 255) : ∃ X : Nat, X < 4294967296 ∧ Go.bits .xor .u32 n b = (X : Int) ∧ Go.bits .xor .i64 n b = (X : Int) := by
  obtain ⟨a, rfl⟩ := Int.eq_ofNat_of_zero_le h0
  obtain ⟨c, rfl⟩ := Int.eq_ofNat_of_zero_le h2
  have ha : a < 2 ^ 32 := by omega
  have hc : c < 2 ^ 32 := by omega
  refine ⟨a ^^^ c, Nat.xor_lt_two_pow ha hc, ?_, ?_⟩
  · exact xor_nat .u32 32 (by decide) (fun n h h' => by rw [IntKind.wrap_u32]; omega) a c ha hc
  · exact xor_nat .i64 32 (by decide) (fun n h h' => by rw [IntKind.wrap_i64]; omega) a c ha hc
theorem sumStep_range (n b : Int) : 0 ≤ sumStep n b ∧ sumStep n b < 4294967296 := by unfold sumStep; omega
theorem step_spec (n b : Int) (h0 : 0 ≤ n) (h1 : n < 4294967296) (h2 : 0 ≤ b) (h3 : b ≤ 255) :
    Go.bits .and .i64 (wrap64 ((Go.bits .xor .i64 n (wrap64 b)) * 16777619)) 4294967295 = sumStep n b := by
  obtain ⟨X, hX, e1, e2⟩ := xor_both n b h0 h1 h2 h3
  unfold sumStep
  rw [wrap_id (x := b) (by omega) (by omega), e1, e2, wrap_id (by omega) (by omega)]
  exact bits_mask .i64 62 (by decide) (fun n h h' => by rw [IntKind.wrap_i64]; omega) 32 (by decide) _ (by omega) (by omega)
theorem step_impl (n b : Int) (h2 : 0 ≤ b) (h3 : b ≤ 255) : ((Go.bits .xor .u32 n (b % 4294967296)) * 16777619) % 4294967296 = sumStep n b := by
  rw [Int.emod_eq_of_lt h2 (by omega)]; rfl
theorem implSum_go (s : ByteArray) (h : s.size < 4611686018427387904) : ∀ d i n, d + i = s.size → 0 ≤ n → n < 4294967296 → Ev (fun k => impl_Sum.l0 k s n (i : Int)) (sumGo s d i n)
  | 0, i, n, hd, h0, h1 => by
    refine ⟨1, fun k hk => ?_⟩
    obtain ⟨m, rfl⟩ : ∃ m, k = m + 1 := ⟨k - 1, by omega⟩
    simp only [impl_Sum.l0, sumGo]
    rw [if_neg (by omega), wrap_id (by omega) (by omega)]
  | d + 1, i, n, hd, h0, h1 => by
    have hr := sumStep_range n (bt s (i : Int))
    obtain ⟨K, hK⟩ := implSum_go s h d (i + 1) (sumStep n (bt s (i : Int))) (by omega) hr.1 hr.2
    refine ⟨K + 1, fun k hk => ?_⟩
    obtain ⟨m, rfl⟩ : ∃ m, k = m + 1 := ⟨k - 1, by omega⟩
    have e := hK m (by omega)
    have hb := bt_range s (i : Int)
    simp only [impl_Sum.l0, sumGo]
    rw [if_pos (by omega), if_pos (by omega), step_impl n _ hb.1 hb.2, wrap_up i (by omega)]
    exact e
theorem specSum_go (s : ByteArray) (h : s.size < 4611686018427387904) : ∀ d i n, d + i = s.size → 0 ≤ n → n < 4294967296 → Ev (fun k => spec_Sum.l0 k s n (i : Int)) (sumGo s d i n)
  | 0, i, n, hd, h0, h1 => by
    refine ⟨1, fun k hk => ?_⟩
    obtain ⟨m, rfl⟩ : ∃ m, k = m + 1 := ⟨k - 1, by omega⟩
    simp only [spec_Sum.l0, sumGo]
    rw [if_neg (by omega)]
  | d + 1, i, n, hd, h0, h1 => by
    have hr := sumStep_range n (bt s (i : Int))
    obtain ⟨K, hK⟩ := specSum_go s h d (i + 1) (sumStep n (bt s (i : Int))) (by omega) hr.1 hr.2
    refine ⟨K + 1, fun k hk => ?_⟩
    obtain ⟨m, rfl⟩ : ∃ m, k = m + 1 := ⟨k - 1, by omega⟩
    have e := hK m (by omega)
    have hb := bt_range s (i : Int)
    simp only [spec_Sum.l0, sumGo]
    rw [if_pos (by omega), if_pos (by omega), step_spec n _ h0 h1 hb.1 hb.2, wrap_up i (by omega)]
    exact e
def sumOf (s : ByteArray) : Int := sumGo s s.size 0 2166136261
def fingerOf (l : List S88) : Int := Int.tmod (Go.bits .xor .i64 (sumOf (setText l)) (sumOf (setText l) / 65536)) 32
theorem implFinger_ev (l : List S88) (h : l.length ≤ 4000000 ∧ ∀ y ∈ l, WiLabel y) : Ev (fun k => impl_Finger.f k l) (fingerOf l) := by
  obtain ⟨K, g⟩ := implSetText_ev l h
  obtain ⟨K', g'⟩ := implSum_go (setText l) (setText_sz l h) (setText l).size 0 2166136261 (by omega) (by omega) (by omega)
  refine ⟨K + K', fun k hk => ?_⟩
  have e := g k (by omega)
  have e' := g' k (by omega)
  simp only at e e'
  simp only [impl_Finger.f, impl_Sum.f, e, Option.bind_some, show ((0 : Nat) : Int) = 0 from rfl] at e' ⊢
  rw [e', Option.bind_some]; rfl
theorem specFinger_ev (l : List S88) (h : l.length ≤ 4000000 ∧ ∀ y ∈ l, WiLabel y) : Ev (fun k => spec_Finger.f k l) (fingerOf l) := by
  obtain ⟨K, g⟩ := specSetText_ev l h
  obtain ⟨K', g'⟩ := specSum_go (setText l) (setText_sz l h) (setText l).size 0 2166136261 (by omega) (by omega) (by omega)
  refine ⟨K + K', fun k hk => ?_⟩
  have e := g k (by omega)
  have e' := g' k (by omega)
  simp only at e e'
  simp only [spec_Finger.f, spec_Sum.f, e, Option.bind_some, show ((0 : Nat) : Int) = 0 from rfl] at e' ⊢
  rw [e', Option.bind_some]; rfl
def partOf (a n : Int) : Int := if n < 1 then 0 else if a < 0 then 0 else Int.tmod a n
theorem implPartOf_is (a n : Int) : impl_PartOf.f a n = some (partOf a n) := by
  unfold impl_PartOf.f partOf
  by_cases h : n < 1
  · simp [h]
  · by_cases h2 : a < 0
    · simp [h, h2]
    · simp only [if_neg h, if_neg h2]; rw [if_neg (by omega)]
theorem specPartOf_is (a n : Int) : spec_PartOf.f a n = some (partOf a n) := by
  unfold spec_PartOf.f partOf
  by_cases h : n < 1
  · simp [h]
  · by_cases h2 : a < 0
    · simp [h, h2]
    · simp only [if_neg h, if_neg h2]; rw [if_neg (by omega)]
theorem specL4Copy_ev (x : S43) (h : x.f0.length ≤ 5000000) : spec_l4Copy.f x.f0 x.f1 x.f2 x.f3 = some (x.f0, x.f1, x.f2, x.f3) := by
  simp only [spec_l4Copy.f, Option.bind_some, List.nil_append, List.length_nil]
  exact if_pos (by omega)
theorem implCopySet_ev (l : List S88) (h : l.length ≤ 5000000) : impl_copySet.f l = some l := by
  simp only [impl_copySet.f, List.nil_append, List.length_nil]
  exact if_pos (by omega)
theorem implCopyAlarm_ev (x : S43) (h : x.f0.length ≤ 5000000) : impl_copyAlarm.f x.f0 x.f1 x.f2 x.f3 = some (x.f0, x.f1, x.f2, x.f3) := by
  simp only [impl_copyAlarm.f, implCopySet_ev x.f0 h, Option.bind_some]
theorem rdnChainF (l : List S100) (i : Nat) : rd_T100 l (i : Int) = l.getD i z100 := by unfold rd_T100; simp
theorem place_lt {α : Type} (p : α → Bool) : ∀ (l : List α) (i : Nat), place p l i < (i : Int) + l.length ∨ place p l i = -1
  | [], i => .inr rfl
  | x :: l, i => by
    unfold place
    split
    · left; simp only [List.length_cons]; omega
    · rcases place_lt p l (i + 1) with h | h
      · left; simp only [List.length_cons]; omega
      · exact .inr h
def chainAt (l : List S100) (f : Int) : Int := place (fun c => decide (c.f0 = f)) l 0
theorem implChainOf_ev (p : S57) (f : Int) (h : p.f2.length ≤ 4000001) : Ev (fun k => impl_chainOf.f k p.f0 p.f1 p.f2 f) (chainAt p.f2 f) := by
  unfold impl_chainOf.f chainAt
  rw [← scan_place0 (fun c : S100 => decide (c.f0 = f)) z100 p.f2]
  refine scan_ev (F := fun k i => impl_chainOf.l0 k f p.f2 (p.f2.length : Int) i) (n := p.f2.length) (fun k => ?_) (fun i hi => ?_) p.f2.length 0 (by omega)
  · simp only [impl_chainOf.l0]; rw [if_neg (by omega)]
  · refine ⟨0, fun k _ => ?_⟩
    simp only [impl_chainOf.l0]
    rw [if_pos (by omega), if_pos (by omega), if_pos (by omega), rdnChainF, wrap_up i (by omega)]
    by_cases c : (p.f2.getD i z100).f0 = f
    · rw [if_pos c]; simp only [decide_eq_true c, if_true, goOn]
    · rw [if_neg c]; simp only [decide_eq_false c, Bool.false_eq_true, if_false, goOn]
theorem specL7At_ev (p : S57) (f : Int) (h : p.f2.length ≤ 4000001) : Ev (fun k => spec_l7At.f k p.f0 p.f1 p.f2 f) (chainAt p.f2 f) := by
  unfold spec_l7At.f chainAt
  rw [← scan_place0 (fun c : S100 => decide (c.f0 = f)) z100 p.f2]
  refine scan_ev (F := fun k i => spec_l7At.l0 k f i p.f0 p.f1 p.f2) (n := p.f2.length) (fun k => ?_) (fun i hi => ?_) p.f2.length 0 (by omega)
  · simp only [spec_l7At.l0]; rw [if_neg (by omega)]
  · refine ⟨0, fun k _ => ?_⟩
    simp only [spec_l7At.l0]
    rw [if_pos (by omega), if_pos (by omega), rdnChainF, wrap_up i (by omega)]
    by_cases c : (p.f2.getD i z100).f0 = f
    · rw [if_pos c]; simp only [decide_eq_true c, if_true, goOn]
    · rw [if_neg c]; simp only [decide_eq_false c, Bool.false_eq_true, if_false, goOn]
theorem implInChain_ev (c : S100) (s : List S88) (h : c.f1.length ≤ 4000000 ∧ ∀ y ∈ c.f1, WiAlarm y) : Ev (fun k => impl_InChain.f k c.f0 c.f1 s) (labelsAt c.f1 s) := by
  obtain ⟨K, g⟩ := implLabelsAt_ev c.f1 s h
  exact ⟨K, fun k hk => by simp only [impl_InChain.f, g k hk, Option.bind_some]⟩
theorem specInChain_ev (c : S100) (s : List S88) (h : c.f1.length ≤ 4000000 ∧ ∀ y ∈ c.f1, WiAlarm y) : Ev (fun k => spec_InChain.f k c.f0 c.f1 s) (labelsAt c.f1 s) := by
  have h1 := h.1
  unfold spec_InChain.f labelsAt
  rw [← scan_place0 (fun a : S43 => sameSet a.f0 s) z43 c.f1]
  refine scan_ev (F := fun k i => spec_InChain.l0 k s i c.f0 c.f1) (n := c.f1.length) (fun k => ?_) (fun i hi => ?_) c.f1.length 0 (by omega)
  · simp only [spec_InChain.l0]; rw [if_neg (by omega)]
  · have hw := (h.2 _ (getD_mem c.f1 i z43 hi)).1.1
    obtain ⟨K, g⟩ := specSameSet_ev (c.f1.getD i z43).f0 s (by omega)
    refine ⟨K, fun k hk => ?_⟩
    have e := g k hk
    simp only at e
    simp only [spec_InChain.l0]
    rw [if_pos (by omega), if_pos (by omega), rdnAlarm, e, Option.bind_some, wrap_up i (by omega)]
    cases sameSet (c.f1.getD i z43).f0 s <;> simp [goOn]
theorem specL4All_l0 : ∀ (suf pre : List S43), (pre ++ suf).length ≤ 5000000 → (∀ y ∈ suf, y.f0.length ≤ 5000000) → Ev (fun k => spec_l4All.l0 k (pre ++ suf) pre (pre.length : Int)) (pre ++ suf)
  | [], pre, h, hW => by
    refine Ev.step (f := fun _ => some (pre ++ [])) (fun k => ?_) (Ev.now _)
    simp only [spec_l4All.l0]
    rw [if_neg (not_lt_end pre), List.append_nil]
  | y :: suf, pre, h, hW => by
    have ih := specL4All_l0 suf (pre ++ [y]) (by simpa using h) (fun z hz => hW z (List.mem_cons_of_mem _ hz))
    have hp : pre.length < 5000000 := by simp at h; omega
    refine Ev.step (f := fun k => spec_l4All.l0 k ((pre ++ [y]) ++ suf) (pre ++ [y]) ((pre ++ [y]).length : Int)) (fun k => ?_) (by rw [mid_assoc pre suf y]; exact ih)
    simp only [spec_l4All.l0]
    rw [if_pos (lt_mid pre suf y)]
    simp only [nn, if_true, rdmmAlarm, specL4Copy_ev y (hW y List.mem_cons_self), Option.bind_some, wrap_up pre.length (by omega)]
    rw [if_pos (by omega)]
    congr 1
    · simp
    · simp
theorem specL4All_ev (l : List S43) (h : l.length ≤ 5000000) (hW : ∀ y ∈ l, y.f0.length ≤ 5000000) : Ev (fun k => spec_l4All.f k l) l :=
  Ev.congr (fun k => by unfold spec_l4All.f; rfl) (specL4All_l0 l [] (by simpa using h) hW)
theorem implCopyAlarms_l0 : ∀ (suf pre : List S43), (pre ++ suf).length ≤ 5000000 → (∀ y ∈ suf, y.f0.length ≤ 5000000) → Ev (fun k => impl_copyAlarms.l0 k pre (pre ++ suf) ((pre ++ suf).length : Int) (pre.length : Int)) (pre ++ suf)
  | [], pre, h, hW => by
    refine Ev.step (f := fun _ => some (pre ++ [])) (fun k => ?_) (Ev.now _)
    simp only [impl_copyAlarms.l0]
    rw [if_neg (by simp), List.append_nil]
  | y :: suf, pre, h, hW => by
    have ih := implCopyAlarms_l0 suf (pre ++ [y]) (by simpa using h) (fun z hz => hW z (List.mem_cons_of_mem _ hz))
    have hp : pre.length < 5000000 := by simp at h; omega
    refine Ev.step (f := fun k => impl_copyAlarms.l0 k (pre ++ [y]) ((pre ++ [y]) ++ suf) (((pre ++ [y]) ++ suf).length : Int) ((pre ++ [y]).length : Int)) (fun k => ?_) (by rw [mid_assoc pre suf y]; exact ih)
    simp only [impl_copyAlarms.l0]
    rw [if_pos (lt_mid pre suf y)]
    simp only [nn, if_true, rdmmAlarm, implCopyAlarm_ev y (hW y List.mem_cons_self), Option.bind_some, wrap_up pre.length (by omega)]
    rw [if_pos (lt_mid pre suf y), if_pos (by omega)]
    congr 1
    · simp
    · simp
    · simp
theorem implCopyAlarms_ev (l : List S43) (h : l.length ≤ 5000000) (hW : ∀ y ∈ l, y.f0.length ≤ 5000000) : Ev (fun k => impl_copyAlarms.f k l) l :=
  Ev.congr (fun k => by unfold impl_copyAlarms.f; rfl) (implCopyAlarms_l0 l [] (by simpa using h) hW)
def mergeA (a b : S43) : S43 := if a.f1 ≤ b.f2 then (if b.f1 ≤ a.f2 then ⟨b.f0, mn a.f1 b.f1, b.f2, b.f3⟩ else b) else b
theorem least_mn (x y : Int) : spec_Least.f x y = some (mn x y) := by unfold spec_Least.f mn; split <;> rfl
theorem implMerge_ev (a b : S43) (h : b.f0.length ≤ 5000000) : impl_Merge.f a.f0 a.f1 a.f2 a.f3 b.f0 b.f1 b.f2 b.f3 = some ((mergeA a b).f0, (mergeA a b).f1, (mergeA a b).f2, (mergeA a b).f3) := by
  simp only [impl_Merge.f, impl_Touch.f, implCopyAlarm_ev b h, Option.bind_some, mergeA]
  by_cases c : a.f1 ≤ b.f2
  · by_cases c2 : b.f1 ≤ a.f2
    · simp [c, c2]
    · simp [c, c2]
  · simp [c]
theorem specMerge_ev (a b : S43) (h : b.f0.length ≤ 5000000) : spec_Merge.f a.f0 a.f1 a.f2 a.f3 b.f0 b.f1 b.f2 b.f3 = some ((mergeA a b).f0, (mergeA a b).f1, (mergeA a b).f2, (mergeA a b).f3) := by
  simp only [spec_Merge.f, spec_Touch.f, specL4Copy_ev b h, Option.bind_some, mergeA, least_mn]
  by_cases c : a.f1 ≤ b.f2
  · by_cases c2 : b.f1 ≤ a.f2
    · simp [c, c2]
    · simp [c, c2]
  · simp [c]
theorem mergeA_f0 (a b : S43) : (mergeA a b).f0 = b.f0 := by unfold mergeA; split <;> (try split) <;> rfl
theorem mergeA_wi {a b : S43} (h : WiAlarm b) : WiAlarm (mergeA a b) := by
  unfold mergeA
  split
  · split
    · exact ⟨h.1, trivial, trivial, h.2.2.2⟩
    · exact h
  · exact h
theorem labelsAt_end (l : List S43) (s : List S88) (h : labelsAt l s ≥ 0) : labelsAt l s < (l.length : Int) := by
  have := place_lt (fun a : S43 => sameSet a.f0 s) l 0
  unfold labelsAt at *
  omega
theorem chainAt_end (l : List S100) (f : Int) (h : chainAt l f ≥ 0) : chainAt l f < (l.length : Int) := by
  have := place_lt (fun c : S100 => decide (c.f0 = f)) l 0
  unfold chainAt at *
  omega
/-- An alarm put into a chain: in place of the one of its labels, or behind all. -/
def putChain (c : S100) (a : S43) : S100 × Bool :=
  if labelsAt c.f1 a.f0 ≥ 0 then (⟨c.f0, c.f1.set (labelsAt c.f1 a.f0).toNat (mergeA (c.f1.getD (labelsAt c.f1 a.f0).toNat z43) a)⟩, false) else (⟨c.f0, c.f1 ++ [a]⟩, true)
theorem okC {l : List S43} (h : l.length ≤ 4000000 ∧ ∀ y ∈ l, WiAlarm y) : l.length ≤ 5000000 ∧ ∀ y ∈ l, y.f0.length ≤ 5000000 := ⟨by omega, fun y hy => Nat.le_trans (h.2 y hy).1.1 (by decide)⟩
theorem implPutChain_ev (c : S100) (a : S43) (h : WiChain c) (ha : WiAlarm a) : Ev (fun k => impl_PutChain.f k c.f0 c.f1 a.f0 a.f1 a.f2 a.f3) ((putChain c a).1.f0, (putChain c a).1.f1, (putChain c a).2) := by
  obtain ⟨K1, g1⟩ := implCopyAlarms_ev c.f1 (okC h.2).1 (okC h.2).2
  obtain ⟨K2, g2⟩ := implInChain_ev c a.f0 h.2
  have ho : a.f0.length ≤ 5000000 := Nat.le_trans ha.1.1 (by decide)
  have hlt := labelsAt_end c.f1 a.f0
  have hl := h.2.1
  refine ⟨K1 + K2, fun k hk => ?_⟩
  have e1 := g1 k (by omega)
  have e2 := g2 k (by omega)
  simp only at e1 e2
  simp only [impl_PutChain.f, impl_copyChain.f, e1, Option.bind_some, e2]
  unfold putChain
  by_cases c0 : labelsAt c.f1 a.f0 ≥ 0
  · rw [if_pos c0, if_pos c0, if_pos (hlt c0)]
    unfold rd_T43
    rw [implMerge_ev _ a ho]
    simp only [Option.bind_some]
    rw [if_pos (hlt c0), if_pos c0]
  · rw [if_neg c0, implCopyAlarm_ev a ho]
    simp only [Option.bind_some]
    rw [if_pos (by omega), if_neg c0]
theorem specPutChain_ev (c : S100) (a : S43) (h : WiChain c) (ha : WiAlarm a) : Ev (fun k => spec_PutChain.f k c.f0 c.f1 a.f0 a.f1 a.f2 a.f3) ((putChain c a).1.f0, (putChain c a).1.f1, (putChain c a).2) := by
  obtain ⟨K1, g1⟩ := specL4All_ev c.f1 (okC h.2).1 (okC h.2).2
  obtain ⟨K2, g2⟩ := specInChain_ev c a.f0 h.2
  have ho : a.f0.length ≤ 5000000 := Nat.le_trans ha.1.1 (by decide)
  have hlt := labelsAt_end c.f1 a.f0
  have hl := h.2.1
  refine ⟨K1 + K2, fun k hk => ?_⟩
  have e1 := g1 k (by omega)
  have e2 := g2 k (by omega)
  simp only at e1 e2
  simp only [spec_PutChain.f, spec_l6Copy.f, e1, Option.bind_some, e2]
  unfold putChain
  by_cases c0 : labelsAt c.f1 a.f0 ≥ 0
  · rw [if_neg (by omega), if_pos c0, if_pos (hlt c0)]
    unfold rd_T43
    rw [specMerge_ev _ a ho]
    simp only [Option.bind_some]
    rw [if_pos (hlt c0), if_pos c0]
  · rw [if_pos (by omega), specL4Copy_ev a ho]
    simp only [Option.bind_some]
    rw [if_pos (by omega), if_neg c0]
theorem implCopyPart_l0 (o0 o1 : Int) : ∀ (suf pre acc : List S100), (pre ++ suf).length ≤ 5000000 → acc.length = pre.length → (∀ y ∈ suf, WiChain y) →
    Ev (fun k => impl_copyPart.l0 k (pre ++ suf) ((pre ++ suf).length : Int) (pre.length : Int) o0 o1 acc) (o0, o1, acc ++ suf)
  | [], pre, acc, h, hl, hW => by
    refine Ev.step (f := fun _ => some (o0, o1, acc ++ ([] : List S100))) (fun k => ?_) (Ev.now _)
    simp only [impl_copyPart.l0]
    rw [if_neg (by simp)]
    simp
  | y :: suf, pre, acc, h, hl, hW => by
    obtain ⟨K, g⟩ := implCopyPart_l0 o0 o1 suf (pre ++ [y]) (acc ++ [y]) (by simpa using h) (by simp [hl]) (fun z hz => hW z (List.mem_cons_of_mem _ hz))
    obtain ⟨K2, g2⟩ := implCopyAlarms_ev y.f1 (okC (hW y List.mem_cons_self).2).1 (okC (hW y List.mem_cons_self).2).2
    have hp : pre.length < 5000000 := by simp at h; omega
    refine ⟨K + K2 + 1, fun k hk => ?_⟩
    obtain ⟨k, rfl⟩ : ∃ m, k = m + 1 := ⟨k - 1, by omega⟩
    have e := g k (by omega)
    have e2 := g2 k (by omega)
    simp only at e e2
    rw [← mid_assoc pre suf y] at e
    simp only [impl_copyPart.l0, impl_copyChain.f]
    rw [if_pos (lt_mid pre suf y)]
    simp only [nn, if_true, rdmmChain, wrap_up pre.length (by omega)]
    rw [if_pos (lt_mid pre suf y), e2]
    simp only [Option.bind_some]
    rw [if_pos (by omega), show ((pre.length + 1 : Nat) : Int) = ((pre ++ [y]).length : Int) by simp, e]
    simp
theorem implCopyPart_ev (p : S57) (h : WiPart p) : Ev (fun k => impl_copyPart.f k p.f0 p.f1 p.f2) (p.f0, p.f1, p.f2) :=
  Ev.congr (fun k => by unfold impl_copyPart.f; rfl) (by simpa using implCopyPart_l0 p.f0 p.f1 p.f2 [] [] (by have := h.2.2.1; simp; omega) rfl h.2.2.2)
theorem specCopyPart_l0 (q0 q1 o0 o1 : Int) : ∀ (suf pre acc : List S100), (pre ++ suf).length ≤ 5000000 → acc.length = pre.length → (∀ y ∈ suf, WiChain y) →
    Ev (fun k => spec_l7Copy.l0 k (pre.length : Int) q0 q1 (pre ++ suf) o0 o1 acc) (o0, o1, acc ++ suf)
  | [], pre, acc, h, hl, hW => by
    refine Ev.step (f := fun _ => some (o0, o1, acc ++ ([] : List S100))) (fun k => ?_) (Ev.now _)
    simp only [spec_l7Copy.l0]
    rw [if_neg (not_lt_end pre)]
    simp
  | y :: suf, pre, acc, h, hl, hW => by
    obtain ⟨K, g⟩ := specCopyPart_l0 q0 q1 o0 o1 suf (pre ++ [y]) (acc ++ [y]) (by simpa using h) (by simp [hl]) (fun z hz => hW z (List.mem_cons_of_mem _ hz))
    obtain ⟨K2, g2⟩ := specL4All_ev y.f1 (okC (hW y List.mem_cons_self).2).1 (okC (hW y List.mem_cons_self).2).2
    have hp : pre.length < 5000000 := by simp at h; omega
    refine ⟨K + K2 + 1, fun k hk => ?_⟩
    obtain ⟨k, rfl⟩ : ∃ m, k = m + 1 := ⟨k - 1, by omega⟩
    have e := g k (by omega)
    have e2 := g2 k (by omega)
    simp only at e e2
    rw [← mid_assoc pre suf y] at e
    simp only [spec_l7Copy.l0, spec_l6Copy.f]
    rw [if_pos (lt_mid pre suf y)]
    simp only [nn, if_true, rdmmChain, wrap_up pre.length (by omega)]
    rw [e2]
    simp only [Option.bind_some]
    rw [if_pos (by omega), show ((pre.length + 1 : Nat) : Int) = ((pre ++ [y]).length : Int) by simp, e]
    simp
theorem specCopyPart_ev (p : S57) (h : WiPart p) : Ev (fun k => spec_l7Copy.f k p.f0 p.f1 p.f2) (p.f0, p.f1, p.f2) :=
  Ev.congr (fun k => by unfold spec_l7Copy.f; rfl) (by simpa using specCopyPart_l0 p.f0 p.f1 p.f0 p.f1 p.f2 [] [] (by have := h.2.2.1; simp; omega) rfl h.2.2.2)
/-- How many stand ahead of the first one that a question denies. -/
def firstNot {α : Type} (p : α → Bool) : List α → Nat
  | [] => 0
  | x :: l => if p x = true then firstNot p l + 1 else 0
theorem firstNot_congr {α : Type} (p q : α → Bool) : ∀ l : List α, (∀ x ∈ l, p x = q x) → firstNot p l = firstNot q l
  | [], _ => rfl
  | x :: l, h => by unfold firstNot; rw [h x List.mem_cons_self, firstNot_congr p q l (fun y hy => h y (List.mem_cons_of_mem _ hy))]
def insC (l : List S100) (f : Int) (a : S43) (i : Nat) : List S100 := ((([] : List S100) ++ l.take i) ++ [⟨f, [a]⟩]) ++ l.drop i
theorem insC_length (l : List S100) (f : Int) (a : S43) (i : Nat) : (insC l f a i).length = l.length + 1 := by
  unfold insC; simp only [List.length_append, List.length_take, List.length_drop, List.length_singleton, List.length_nil]; omega
theorem insC_mem {l : List S100} {f : Int} {a : S43} {i : Nat} {y : S100} (h : y ∈ insC l f a i) : y ∈ l ∨ y = ⟨f, [a]⟩ := by
  unfold insC at h
  rcases List.mem_append.1 h with h | h
  · rcases List.mem_append.1 h with h | h
    · rcases List.mem_append.1 h with h | h
      · simp at h
      · exact .inl (List.mem_of_mem_take h)
    · exact .inr (List.mem_singleton.1 h)
  · exact .inl (List.mem_of_mem_drop h)
theorem specPut_j1 (f : Int) (a : S43) (q0 q1 : Int) (ql : List S100) (o0 o1 : Int) (ha : a.f0.length ≤ 5000000) (l : List S100) (i : Nat) (hi : i ≤ l.length) (hl : l.length ≤ 5000000) (k : Nat) :
    spec_PutIn.j1 (k + 1) f (i : Int) false q0 q1 ql a.f0 a.f1 a.f2 a.f3 o0 o1 l = some (o0, o1, insC l f a i, true) := by
  simp only [spec_PutIn.j1]
  rw [if_neg (by decide)]
  simp only [specL4Copy_ev a ha, Option.bind_some, nn, if_true, Int.toNat_natCast]
  rw [if_pos (by omega), if_pos (by simp only [List.length_append, List.length_take, List.length_nil]; omega), if_pos (by simp only [List.length_append, List.length_take, List.length_nil]; omega), if_pos (by simp only [List.length_append, List.length_take, List.length_drop, List.length_nil, List.length_singleton]; omega)]
  rfl
theorem specPut_l0 (f : Int) (a : S43) (q0 q1 : Int) (o0 o1 : Int) (ha : a.f0.length ≤ 5000000) : ∀ (suf pre : List S100), (pre ++ suf).length ≤ 5000000 →
    Ev (fun k => spec_PutIn.l0 k f (pre.length : Int) q0 q1 (pre ++ suf) a.f0 a.f1 a.f2 a.f3 o0 o1 (pre ++ suf)) (o0, o1, insC (pre ++ suf) f a (pre.length + firstNot (fun c : S100 => decide (c.f0 < f)) suf), true)
  | [], pre, h => by
    refine ⟨2, fun k hk => ?_⟩
    obtain ⟨k, rfl⟩ : ∃ m, k = m + 2 := ⟨k - 2, by omega⟩
    simp only [spec_PutIn.l0]
    rw [if_neg (not_lt_end pre)]
    exact specPut_j1 f a q0 q1 (pre ++ []) o0 o1 ha (pre ++ []) pre.length (by simp) h k
  | y :: suf, pre, h => by
    have hl : pre.length < 5000000 := by simp at h; omega
    by_cases c : y.f0 < f
    · obtain ⟨K, g⟩ := specPut_l0 f a q0 q1 o0 o1 ha suf (pre ++ [y]) (by simpa using h)
      refine ⟨K + 2, fun k hk => ?_⟩
      obtain ⟨k, rfl⟩ : ∃ m, k = m + 2 := ⟨k - 2, by omega⟩
      have e := g k (by omega)
      simp only at e
      rw [← mid_assoc pre suf y] at e
      simp only [spec_PutIn.l0]
      rw [if_pos (lt_mid pre suf y)]
      simp only [nn, if_true, rdmmChain]
      rw [decide_eq_true c]
      simp only [spec_PutIn.j1, if_true, wrap_up pre.length (by omega)]
      rw [show ((pre.length + 1 : Nat) : Int) = ((pre ++ [y]).length : Int) by simp, e]
      simp only [firstNot, decide_eq_true c, if_true, List.length_append, List.length_singleton]
      rw [show pre.length + 1 + firstNot (fun c : S100 => decide (c.f0 < f)) suf = pre.length + (firstNot (fun c : S100 => decide (c.f0 < f)) suf + 1) by omega]
    · refine ⟨2, fun k hk => ?_⟩
      obtain ⟨k, rfl⟩ : ∃ m, k = m + 2 := ⟨k - 2, by omega⟩
      simp only [spec_PutIn.l0]
      rw [if_pos (lt_mid pre suf y)]
      simp only [nn, if_true, rdmmChain]
      rw [decide_eq_false c, specPut_j1 f a q0 q1 (pre ++ y :: suf) o0 o1 ha (pre ++ y :: suf) pre.length (by simp) h k]
      simp only [firstNot, decide_eq_false c, Bool.false_eq_true, if_false, Nat.add_zero]
theorem implPut_j1 (f : Int) (a : S43) (o0 o1 : Int) (ha : a.f0.length ≤ 5000000) (l : List S100) (i : Nat) (hi : i ≤ l.length) (hl : l.length ≤ 5000000) (k : Nat) :
    impl_PutIn.j1 (k + 1) f (i : Int) false a.f0 a.f1 a.f2 a.f3 o0 o1 l = some (o0, o1, insC l f a i, true) := by
  simp only [impl_PutIn.j1]
  rw [if_neg (by decide)]
  simp only [implCopyAlarm_ev a ha, Option.bind_some, nn, if_true, Int.toNat_natCast]
  rw [if_pos (by omega), if_pos (by simp only [List.length_append, List.length_take, List.length_nil]; omega), if_pos (by simp only [List.length_append, List.length_take, List.length_nil]; omega), if_pos (by simp only [List.length_append, List.length_take, List.length_drop, List.length_nil, List.length_singleton]; omega)]
  rfl
theorem implPut_l0 (f : Int) (a : S43) (o0 o1 : Int) (ha : a.f0.length ≤ 5000000) : ∀ (suf pre : List S100), (pre ++ suf).length ≤ 5000000 →
    Ev (fun k => impl_PutIn.l0 k f (pre.length : Int) a.f0 a.f1 a.f2 a.f3 o0 o1 (pre ++ suf)) (o0, o1, insC (pre ++ suf) f a (pre.length + firstNot (fun c : S100 => decide (c.f0 ≤ f)) suf), true)
  | [], pre, h => by
    refine ⟨2, fun k hk => ?_⟩
    obtain ⟨k, rfl⟩ : ∃ m, k = m + 2 := ⟨k - 2, by omega⟩
    simp only [impl_PutIn.l0]
    rw [if_neg (not_lt_end pre)]
    exact implPut_j1 f a  o0 o1 ha (pre ++ []) pre.length (by simp) h k
  | y :: suf, pre, h => by
    have hl : pre.length < 5000000 := by simp at h; omega
    by_cases c : y.f0 ≤ f
    · obtain ⟨K, g⟩ := implPut_l0 f a o0 o1 ha suf (pre ++ [y]) (by simpa using h)
      refine ⟨K + 2, fun k hk => ?_⟩
      obtain ⟨k, rfl⟩ : ∃ m, k = m + 2 := ⟨k - 2, by omega⟩
      have e := g k (by omega)
      simp only at e
      rw [← mid_assoc pre suf y] at e
      simp only [impl_PutIn.l0]
      rw [if_pos (lt_mid pre suf y)]
      simp only [nn, if_true, rdmmChain]
      rw [decide_eq_true c]
      simp only [impl_PutIn.j1, if_true, wrap_up pre.length (by omega)]
      rw [show ((pre.length + 1 : Nat) : Int) = ((pre ++ [y]).length : Int) by simp, e]
      simp only [firstNot, decide_eq_true c, if_true, List.length_append, List.length_singleton]
      rw [show pre.length + 1 + firstNot (fun c : S100 => decide (c.f0 ≤ f)) suf = pre.length + (firstNot (fun c : S100 => decide (c.f0 ≤ f)) suf + 1) by omega]
    · refine ⟨2, fun k hk => ?_⟩
      obtain ⟨k, rfl⟩ : ∃ m, k = m + 2 := ⟨k - 2, by omega⟩
      simp only [impl_PutIn.l0]
      rw [if_pos (lt_mid pre suf y)]
      simp only [nn, if_true, rdmmChain]
      rw [decide_eq_false c, implPut_j1 f a  o0 o1 ha (pre ++ y :: suf) pre.length (by simp) h k]
      simp only [firstNot, decide_eq_false c, Bool.false_eq_true, if_false, Nat.add_zero]
def putIn (p : S57) (a : S43) : S57 × Bool :=
  if chainAt p.f2 (fingerOf a.f0) ≥ 0 then (⟨p.f0, wrap64 (p.f1 + 1), p.f2.set (chainAt p.f2 (fingerOf a.f0)).toNat (putChain (p.f2.getD (chainAt p.f2 (fingerOf a.f0)).toNat z100) a).1⟩, (putChain (p.f2.getD (chainAt p.f2 (fingerOf a.f0)).toNat z100) a).2)
  else (⟨p.f0, wrap64 (p.f1 + 1), insC p.f2 (fingerOf a.f0) a (firstNot (fun c : S100 => decide (c.f0 < fingerOf a.f0)) p.f2)⟩, true)
theorem getD_wi {l : List S100} (h : ∀ y ∈ l, WiChain y) {i : Int} (h0 : 0 ≤ i) (h1 : i < (l.length : Int)) : WiChain (l.getD i.toNat z100) := h _ (getD_mem l i.toNat z100 (by omega))
theorem implPutIn_ev (p : S57) (a : S43) (h : WiPart p) (ha : WiAlarm a) : Ev (fun k => impl_PutIn.f k p.f0 p.f1 p.f2 a.f0 a.f1 a.f2 a.f3) ((putIn p a).1.f0, (putIn p a).1.f1, (putIn p a).1.f2, (putIn p a).2) := by
  have hl := h.2.2.1
  have ho : a.f0.length ≤ 5000000 := Nat.le_trans ha.1.1 (by decide)
  have hlt := chainAt_end p.f2 (fingerOf a.f0)
  obtain ⟨K1, g1⟩ := implCopyPart_ev p h
  obtain ⟨K2, g2⟩ := implFinger_ev a.f0 ha.1
  obtain ⟨K3, g3⟩ := implChainOf_ev p (fingerOf a.f0) (by omega)
  obtain ⟨K5, g5⟩ := implPut_l0 (fingerOf a.f0) a p.f0 (wrap64 (p.f1 + 1)) ho p.f2 [] (by simp; omega)
  by_cases c : chainAt p.f2 (fingerOf a.f0) ≥ 0
  · obtain ⟨K4, g4⟩ := implPutChain_ev (p.f2.getD (chainAt p.f2 (fingerOf a.f0)).toNat z100) a (getD_wi h.2.2.2 c (hlt c)) ha
    refine ⟨K1 + K2 + K3 + K4, fun k hk => ?_⟩
    have e1 := g1 k (by omega)
    have e2 := g2 k (by omega)
    have e3 := g3 k (by omega)
    have e4 := g4 k (by omega)
    simp only at e1 e2 e3 e4
    simp only [impl_PutIn.f, e1, Option.bind_some, e2, e3]
    rw [if_pos c, if_pos c, if_pos (hlt c)]
    unfold rd_T100
    rw [e4]
    simp only [Option.bind_some]
    rw [if_pos (hlt c)]
    unfold putIn
    rw [if_pos c]
  · refine ⟨K1 + K2 + K3 + K5, fun k hk => ?_⟩
    have e1 := g1 k (by omega)
    have e2 := g2 k (by omega)
    have e3 := g3 k (by omega)
    have e5 := g5 k (by omega)
    simp only [List.nil_append, List.length_nil] at e1 e2 e3 e5
    simp only [impl_PutIn.f, e1, Option.bind_some, e2, e3]
    rw [if_neg c]
    have hn : ∀ y ∈ p.f2, y.f0 ≠ fingerOf a.f0 := by
      intro y hy he
      refine c ((place_ge (fun c : S100 => decide (c.f0 = fingerOf a.f0)) p.f2 0).2 ?_)
      exact List.any_eq_true.2 ⟨y, hy, decide_eq_true he⟩
    have hc : firstNot (fun c : S100 => decide (c.f0 ≤ fingerOf a.f0)) p.f2 = firstNot (fun c : S100 => decide (c.f0 < fingerOf a.f0)) p.f2 :=
      firstNot_congr _ _ p.f2 (fun y hy => decide_eq_decide.2 ⟨fun h9 => by have := hn y hy; omega, fun h9 => by omega⟩)
    unfold putIn
    rw [if_neg c, ← hc]
    simpa using e5
theorem specPutIn_ev (p : S57) (a : S43) (h : WiPart p) (ha : WiAlarm a) : Ev (fun k => spec_PutIn.f k p.f0 p.f1 p.f2 a.f0 a.f1 a.f2 a.f3) ((putIn p a).1.f0, (putIn p a).1.f1, (putIn p a).1.f2, (putIn p a).2) := by
  have hl := h.2.2.1
  have ho : a.f0.length ≤ 5000000 := Nat.le_trans ha.1.1 (by decide)
  have hlt := chainAt_end p.f2 (fingerOf a.f0)
  obtain ⟨K1, g1⟩ := specCopyPart_ev p h
  obtain ⟨K2, g2⟩ := specFinger_ev a.f0 ha.1
  obtain ⟨K3, g3⟩ := specL7At_ev p (fingerOf a.f0) (by omega)
  obtain ⟨K5, g5⟩ := specPut_l0 (fingerOf a.f0) a p.f0 p.f1 p.f0 (wrap64 (p.f1 + 1)) ho p.f2 [] (by simp; omega)
  by_cases c : chainAt p.f2 (fingerOf a.f0) ≥ 0
  · obtain ⟨K4, g4⟩ := specPutChain_ev (p.f2.getD (chainAt p.f2 (fingerOf a.f0)).toNat z100) a (getD_wi h.2.2.2 c (hlt c)) ha
    refine ⟨K1 + K2 + K3 + K4, fun k hk => ?_⟩
    have e1 := g1 k (by omega)
    have e2 := g2 k (by omega)
    have e3 := g3 k (by omega)
    have e4 := g4 k (by omega)
    simp only at e1 e2 e3 e4
    simp only [spec_PutIn.f, e1, Option.bind_some, e2, e3]
    rw [if_pos c, if_pos c, if_pos (hlt c)]
    unfold rd_T100
    rw [e4]
    simp only [Option.bind_some]
    rw [if_pos (hlt c)]
    unfold putIn
    rw [if_pos c]
  · refine ⟨K1 + K2 + K3 + K5, fun k hk => ?_⟩
    have e1 := g1 k (by omega)
    have e2 := g2 k (by omega)
    have e3 := g3 k (by omega)
    have e5 := g5 k (by omega)
    simp only [List.nil_append, List.length_nil] at e1 e2 e3 e5
    simp only [spec_PutIn.f, e1, Option.bind_some, e2, e3]
    rw [if_neg c]
    unfold putIn
    rw [if_neg c]
    simpa using e5
theorem putChain_wi {c : S100} {a : S43} (hc : c.f1.length ≤ 1048576) (h : WiChain c) (ha : WiAlarm a) : WiChain (putChain c a).1 := by
  unfold putChain
  split
  · refine ⟨trivial, by show (List.set _ _ _).length ≤ 4000000; rw [List.length_set]; omega, fun y hy => ?_⟩
    rcases List.mem_or_eq_of_mem_set hy with hy | rfl
    · exact h.2.2 y hy
    · exact mergeA_wi ha
  · refine ⟨trivial, by show (_ ++ [_]).length ≤ 4000000; rw [List.length_append, List.length_singleton]; omega, fun y hy => ?_⟩
    rcases List.mem_append.1 hy with hy | hy
    · exact h.2.2 y hy
    · rw [List.mem_singleton.1 hy]; exact ha
theorem putIn_wi {p : S57} {a : S43} (hl : p.f2.length ≤ 1048576) (hc : ∀ y ∈ p.f2, y.f1.length ≤ 1048576) (h : WiPart p) (ha : WiAlarm a) : WiPart (putIn p a).1 := by
  have hlt := chainAt_end p.f2 (fingerOf a.f0)
  unfold putIn
  by_cases c : chainAt p.f2 (fingerOf a.f0) ≥ 0
  · rw [if_pos c]
    refine ⟨trivial, trivial, by show (List.set _ _ _).length ≤ 4000000; rw [List.length_set]; omega, fun y hy => ?_⟩
    rcases List.mem_or_eq_of_mem_set hy with hy | rfl
    · exact h.2.2.2 y hy
    · have hm := getD_mem p.f2 (chainAt p.f2 (fingerOf a.f0)).toNat z100 (by have := hlt c; omega)
      exact putChain_wi (hc _ hm) (h.2.2.2 _ hm) ha
  · rw [if_neg c]
    refine ⟨trivial, trivial, by show (insC _ _ _ _).length ≤ 4000000; rw [insC_length]; omega, fun y hy => ?_⟩
    rcases insC_mem hy with hy | rfl
    · exact h.2.2.2 y hy
    · refine ⟨trivial, by show (1 : Nat) ≤ 4000000; decide, fun z hz => ?_⟩
      rw [List.mem_singleton.1 hz]; exact ha
theorem cnA_append : ∀ (x y : List S43), cnAlarms (x ++ y) = cnAlarms x + cnAlarms y
  | [], y => by simp [cnAlarms]
  | z :: xs, y => by have := cnA_append xs y; simp only [List.cons_append, cnAlarms]; omega
theorem cnA_set (a : S43) : ∀ (l : List S43) (i : Nat), cnAlarms (l.set i a) ≤ cnAlarms l + cnAlarms [a]
  | [], i => by simp [cnAlarms]
  | z :: xs, 0 => by simp only [List.set_cons_zero, cnAlarms]; omega
  | z :: xs, i + 1 => by have := cnA_set a xs i; simp only [List.set_cons_succ, cnAlarms] at *; omega
theorem cnPutChain (c : S100) (a : S43) : cnAlarms (putChain c a).1.f1 ≤ cnAlarms c.f1 + cnAlarms [a] := by
  unfold putChain
  split
  · have h1 := cnA_set (mergeA (c.f1.getD (labelsAt c.f1 a.f0).toNat z43) a) c.f1 (labelsAt c.f1 a.f0).toNat
    have h2 : cnAlarms [mergeA (c.f1.getD (labelsAt c.f1 a.f0).toNat z43) a] = cnAlarms [a] := by simp only [cnAlarms, mergeA_f0]
    rw [h2] at h1; exact h1
  · show cnAlarms (_ ++ _) ≤ _
    rw [cnA_append]; omega
theorem cnC_append : ∀ (x y : List S100), cnChains (x ++ y) = cnChains x + cnChains y
  | [], y => by simp [cnChains]
  | z :: xs, y => by have := cnC_append xs y; simp only [List.cons_append, cnChains]; omega
theorem cnC_set (a : S43) : ∀ (l : List S100) (i : Nat), i < l.length → cnChains (l.set i (putChain (l.getD i z100) a).1) ≤ cnChains l + cnAlarms [a]
  | [], i, h => by simp at h
  | z :: xs, 0, h => by
    have h1 := cnPutChain z a
    simp only [List.set_cons_zero, List.getD_cons_zero, cnChains]
    omega
  | z :: xs, i + 1, h => by
    have := cnC_set a xs i (by simpa using h)
    simp only [List.set_cons_succ, List.getD_cons_succ, cnChains] at *; omega
theorem cnPutIn (p : S57) (a : S43) : cnChains (putIn p a).1.f2 ≤ cnChains p.f2 + cnAlarms [a] + 100 := by
  have hlt := chainAt_end p.f2 (fingerOf a.f0)
  unfold putIn
  by_cases c : chainAt p.f2 (fingerOf a.f0) ≥ 0
  · rw [if_pos c]
    have := cnC_set a p.f2 (chainAt p.f2 (fingerOf a.f0)).toNat (by have := hlt c; omega)
    show cnChains (List.set _ _ _) ≤ _
    omega
  · rw [if_neg c]
    show cnChains (insC _ _ _ _) ≤ _
    have e : cnChains p.f2 = cnChains (p.f2.take (firstNot (fun c : S100 => decide (c.f0 < fingerOf a.f0)) p.f2)) + cnChains (p.f2.drop (firstNot (fun c : S100 => decide (c.f0 < fingerOf a.f0)) p.f2)) := by rw [← cnC_append, List.take_append_drop]
    unfold insC
    rw [List.nil_append, cnC_append, cnC_append]
    simp only [cnChains]
    omega
def homeOf (l : List S57) (s : List S88) : Int := partOf (fingerOf s) (l.length : Int)
theorem implHomeOf_ev (l : List S57) (s : List S88) (h : s.length ≤ 4000000 ∧ ∀ y ∈ s, WiLabel y) : Ev (fun k => impl_HomeOf.f k l s) (homeOf l s) := by
  obtain ⟨K, g⟩ := implFinger_ev s h
  refine ⟨K, fun k hk => ?_⟩
  have e := g k hk
  simp only at e
  simp [impl_HomeOf.f, e, implPartOf_is, homeOf]
theorem specHomeOf_ev (l : List S57) (s : List S88) (h : s.length ≤ 4000000 ∧ ∀ y ∈ s, WiLabel y) : Ev (fun k => spec_HomeOf.f k l s) (homeOf l s) := by
  obtain ⟨K, g⟩ := specFinger_ev s h
  refine ⟨K, fun k hk => ?_⟩
  have e := g k hk
  simp only at e
  simp [spec_HomeOf.f, e, specPartOf_is, homeOf]
theorem partOf_range (a : Int) (n : Nat) (h : 0 < n) : 0 ≤ partOf a n ∧ partOf a n < n := by
  unfold partOf
  rw [if_neg (by omega)]
  split
  · omega
  · rw [Int.tmod_eq_emod_of_nonneg (by omega)]; exact ⟨Int.emod_nonneg _ (by omega), Int.emod_lt_of_pos _ (by omega)⟩
theorem implCopyStore_l0 : ∀ (suf pre acc : List S57), (pre ++ suf).length ≤ 5000000 → acc.length = pre.length → (∀ y ∈ suf, WiPart y) →
    Ev (fun k => impl_copyStore.l0 k acc (pre ++ suf) ((pre ++ suf).length : Int) (pre.length : Int)) (acc ++ suf)
  | [], pre, acc, h, hl, hW => by
    refine Ev.step (f := fun _ => some (acc ++ ([] : List S57))) (fun k => ?_) (Ev.now _)
    simp only [impl_copyStore.l0]
    rw [if_neg (by simp)]
    simp
  | y :: suf, pre, acc, h, hl, hW => by
    obtain ⟨K, g⟩ := implCopyStore_l0 suf (pre ++ [y]) (acc ++ [y]) (by simpa using h) (by simp [hl]) (fun z hz => hW z (List.mem_cons_of_mem _ hz))
    obtain ⟨K2, g2⟩ := implCopyPart_ev y (hW y List.mem_cons_self)
    have hp : pre.length < 5000000 := by simp at h; omega
    refine ⟨K + K2 + 1, fun k hk => ?_⟩
    obtain ⟨k, rfl⟩ : ∃ m, k = m + 1 := ⟨k - 1, by omega⟩
    have e := g k (by omega)
    have e2 := g2 k (by omega)
    simp only at e e2
    rw [← mid_assoc pre suf y] at e
    simp only [impl_copyStore.l0]
    rw [if_pos (lt_mid pre suf y)]
    simp only [nn, if_true, rdmmPart, wrap_up pre.length (by omega)]
    rw [if_pos (lt_mid pre suf y), e2]
    simp only [Option.bind_some]
    rw [if_pos (by omega), show ((pre.length + 1 : Nat) : Int) = ((pre ++ [y]).length : Int) by simp, e]
    simp
theorem implCopyStore_ev (l : List S57) (h : l.length ≤ 4000000 ∧ ∀ y ∈ l, WiPart y) : Ev (fun k => impl_copyStore.f k l) l :=
  Ev.congr (fun k => by unfold impl_copyStore.f; rfl) (by simpa using implCopyStore_l0 l [] [] (by have := h.1; simp; omega) rfl h.2)
theorem specCopyStore_l0 : ∀ (suf pre acc : List S57), (pre ++ suf).length ≤ 5000000 → acc.length = pre.length → (∀ y ∈ suf, WiPart y) →
    Ev (fun k => spec_l8Copy.l0 k (pre ++ suf) acc (pre.length : Int)) (acc ++ suf)
  | [], pre, acc, h, hl, hW => by
    refine Ev.step (f := fun _ => some (acc ++ ([] : List S57))) (fun k => ?_) (Ev.now _)
    simp only [spec_l8Copy.l0]
    rw [if_neg (not_lt_end pre)]
    simp
  | y :: suf, pre, acc, h, hl, hW => by
    obtain ⟨K, g⟩ := specCopyStore_l0 suf (pre ++ [y]) (acc ++ [y]) (by simpa using h) (by simp [hl]) (fun z hz => hW z (List.mem_cons_of_mem _ hz))
    obtain ⟨K2, g2⟩ := specCopyPart_ev y (hW y List.mem_cons_self)
    have hp : pre.length < 5000000 := by simp at h; omega
    refine ⟨K + K2 + 1, fun k hk => ?_⟩
    obtain ⟨k, rfl⟩ : ∃ m, k = m + 1 := ⟨k - 1, by omega⟩
    have e := g k (by omega)
    have e2 := g2 k (by omega)
    simp only at e e2
    rw [← mid_assoc pre suf y] at e
    simp only [spec_l8Copy.l0]
    rw [if_pos (lt_mid pre suf y)]
    simp only [nn, if_true, rdmmPart, wrap_up pre.length (by omega)]
    rw [e2]
    simp only [Option.bind_some]
    rw [if_pos (by omega), show ((pre.length + 1 : Nat) : Int) = ((pre ++ [y]).length : Int) by simp, e]
    simp
theorem specCopyStore_ev (l : List S57) (h : l.length ≤ 4000000 ∧ ∀ y ∈ l, WiPart y) : Ev (fun k => spec_l8Copy.f k l) l :=
  Ev.congr (fun k => by unfold spec_l8Copy.f; rfl) (by simpa using specCopyStore_l0 l [] [] (by have := h.1; simp; omega) rfl h.2)
def putAlarm (l : List S57) (a : S43) : List S57 × Bool :=
  if (l.length : Int) = 0 then (l, false) else (l.set (homeOf l a.f0).toNat (putIn (l.getD (homeOf l a.f0).toNat z57) a).1, (putIn (l.getD (homeOf l a.f0).toNat z57) a).2)
theorem homeOf_range (l : List S57) (s : List S88) (c : ¬ (l.length : Int) = 0) : 0 ≤ homeOf l s ∧ homeOf l s < (l.length : Int) := partOf_range _ l.length (by omega)
theorem implPutAlarm_ev (l : List S57) (a : S43) (h : l.length ≤ 4000000 ∧ ∀ y ∈ l, WiPart y) (ha : WiAlarm a) : Ev (fun k => impl_PutAlarm.f k l a.f0 a.f1 a.f2 a.f3) (putAlarm l a) := by
  obtain ⟨K1, g1⟩ := implCopyStore_ev l h
  by_cases c : (l.length : Int) = 0
  · refine ⟨K1, fun k hk => ?_⟩
    have e1 := g1 k (by omega)
    simp only at e1
    simp only [impl_PutAlarm.f, e1, Option.bind_some]
    unfold putAlarm
    rw [if_pos c, if_pos c]
  · obtain ⟨r0, r1⟩ := homeOf_range l a.f0 c
    obtain ⟨K2, g2⟩ := implHomeOf_ev l a.f0 ha.1
    obtain ⟨K3, g3⟩ := implPutIn_ev (l.getD (homeOf l a.f0).toNat z57) a (h.2 _ (getD_mem l _ z57 (by omega))) ha
    refine ⟨K1 + K2 + K3, fun k hk => ?_⟩
    have e1 := g1 k (by omega)
    have e2 := g2 k (by omega)
    have e3 := g3 k (by omega)
    simp only at e1 e2 e3
    simp only [impl_PutAlarm.f, e1, e2, Option.bind_some]
    rw [if_neg c, if_pos r0, if_pos r1]
    unfold rd_T57
    rw [e3]
    simp only [Option.bind_some]
    rw [if_pos r1]
    unfold putAlarm
    rw [if_neg c]
theorem specPutAlarm_ev (l : List S57) (a : S43) (h : l.length ≤ 4000000 ∧ ∀ y ∈ l, WiPart y) (ha : WiAlarm a) : Ev (fun k => spec_PutAlarm.f k l a.f0 a.f1 a.f2 a.f3) (putAlarm l a) := by
  obtain ⟨K1, g1⟩ := specCopyStore_ev l h
  by_cases c : (l.length : Int) = 0
  · refine ⟨K1, fun k hk => ?_⟩
    have e1 := g1 k (by omega)
    simp only at e1
    simp only [spec_PutAlarm.f, e1, Option.bind_some]
    unfold putAlarm
    rw [if_pos c, if_pos c]
  · obtain ⟨r0, r1⟩ := homeOf_range l a.f0 c
    obtain ⟨K2, g2⟩ := specHomeOf_ev l a.f0 ha.1
    obtain ⟨K3, g3⟩ := specPutIn_ev (l.getD (homeOf l a.f0).toNat z57) a (h.2 _ (getD_mem l _ z57 (by omega))) ha
    refine ⟨K1 + K2 + K3, fun k hk => ?_⟩
    have e1 := g1 k (by omega)
    have e2 := g2 k (by omega)
    have e3 := g3 k (by omega)
    simp only at e1 e2 e3
    simp only [spec_PutAlarm.f, e1, e2, Option.bind_some]
    rw [if_neg c, if_pos r0, if_pos r1]
    unfold rd_T57
    rw [e3]
    simp only [Option.bind_some]
    rw [if_pos r1]
    unfold putAlarm
    rw [if_neg c]
theorem putAlarm_wi {l : List S57} {a : S43} (hp : ∀ p ∈ l, p.f2.length ≤ 1048576 ∧ ∀ y ∈ p.f2, y.f1.length ≤ 1048576) (h : l.length ≤ 4000000 ∧ ∀ y ∈ l, WiPart y) (ha : WiAlarm a) : (putAlarm l a).1.length ≤ 4000000 ∧ ∀ y ∈ (putAlarm l a).1, WiPart y := by
  unfold putAlarm
  by_cases c : (l.length : Int) = 0
  · rw [if_pos c]; exact h
  · rw [if_neg c]
    obtain ⟨r0, r1⟩ := homeOf_range l a.f0 c
    refine ⟨by show (List.set _ _ _).length ≤ _; rw [List.length_set]; exact h.1, fun y hy => ?_⟩
    rcases List.mem_or_eq_of_mem_set hy with hy | rfl
    · exact h.2 y hy
    · have hm := getD_mem l (homeOf l a.f0).toNat z57 (by omega)
      exact putIn_wi (hp _ hm).1 (hp _ hm).2 (h.2 _ hm) ha
theorem cnP_set (a : S43) : ∀ (l : List S57) (i : Nat), i < l.length → cnParts (l.set i (putIn (l.getD i z57) a).1) ≤ cnParts l + cnAlarms [a] + 100
  | [], i, h => by simp at h
  | z :: xs, 0, h => by
    have h1 := cnPutIn z a
    simp only [List.set_cons_zero, List.getD_cons_zero, cnParts]
    omega
  | z :: xs, i + 1, h => by
    have := cnP_set a xs i (by simpa using h)
    simp only [List.set_cons_succ, List.getD_cons_succ, cnParts] at *; omega
theorem cnPutAlarm_le {l : List S57} {a : S43} (ha : WiAlarm a) (hc : cnParts l ≤ 10000000) : cnParts (putAlarm l a).1 ≤ 100000000 := by
  have h2 := cnLabels_wi ha.1
  have h3 : cnAlarms [a] ≤ 8000003 := by simp only [cnAlarms]; omega
  unfold putAlarm
  by_cases c : (l.length : Int) = 0
  · rw [if_pos c]; show cnParts l ≤ _; omega
  · rw [if_neg c]
    obtain ⟨r0, r1⟩ := homeOf_range l a.f0 c
    have := cnP_set a l (homeOf l a.f0).toNat (by omega)
    show cnParts (List.set _ _ _) ≤ _
    omega
def nnLabels : List S85 → Nat
  | [] => 0
  | _ :: ys => 1 + nnLabels ys
theorem szLabel_nn (x : S85) (hB : B85 x) (k : Nat) (n r : Int) (h : laws_szLabel.f x.f0 x.f1 n = some r) (hr : 0 ≤ r) (h0 : 0 ≤ n) (h1 : n ≤ 1048576) : r ≤ n ∧ ((0 : Nat) : Int) ≤ n - r := by
  unfold laws_szLabel.f at h
  have q1 : x.f0.size ≤ 9223372036854775807 := hB.1
  rw [show wrap64 (n - (x.f0.size : Int)) = n - (x.f0.size : Int) from wrap_id (by omega) (by omega)] at h
  by_cases c1 : n - (x.f0.size : Int) < 0
  · rw [if_pos c1] at h; injection h with h; omega
  rw [if_neg c1] at h
  have q2 : x.f1.size ≤ 9223372036854775807 := hB.2
  rw [show wrap64 ((n - (x.f0.size : Int)) - (x.f1.size : Int)) = (n - (x.f0.size : Int)) - (x.f1.size : Int) from wrap_id (by omega) (by omega)] at h
  by_cases c2 : (n - (x.f0.size : Int)) - (x.f1.size : Int) < 0
  · rw [if_pos c2] at h; injection h with h; omega
  rw [if_neg c2] at h
  injection h with h
  exact ⟨by omega, by omega⟩
theorem szLabelS_nn_l0 : ∀ (suf pre : List S85) (k : Nat) (n r : Int), (∀ y ∈ suf, B85 y) → (pre ++ suf).length < 4611686018427387904 → laws_szLabelS.l0 k (pre ++ suf) n (pre.length : Int) = some r → 0 ≤ r → 0 ≤ n → n ≤ 1048576 → r ≤ n ∧ (nnLabels suf : Int) ≤ n - r + suf.length
  | [], pre, k, n, r, hB, hl, h, hr, h0, h1 => by
    cases k with
    | zero => simp [laws_szLabelS.l0] at h
    | succ k =>
      simp only [laws_szLabelS.l0] at h
      rw [if_neg (not_lt_end pre)] at h
      injection h with h
      subst h
      exact ⟨Int.le_refl _, by simp [nnLabels]⟩
  | y :: suf, pre, k, n, r, hB, hl, h, hr, h0, h1 => by
    have hp : pre.length < 4611686018427387904 := by simp at hl; omega
    cases k with
    | zero => simp [laws_szLabelS.l0] at h
    | succ k =>
      simp only [laws_szLabelS.l0] at h
      rw [if_pos (lt_mid pre suf y), if_pos (nn _), rdmidLabell, wrap_up pre.length (by omega)] at h
      obtain ⟨t, e, h⟩ := Option.bind_eq_some_iff.mp h
      by_cases c : t < 0
      · rw [if_pos c] at h; injection h with h; omega
      rw [if_neg c, show pre ++ y :: suf = (pre ++ [y]) ++ suf by simp, show ((pre.length + 1 : Nat) : Int) = ((pre ++ [y]).length : Int) by simp] at h
      obtain ⟨l1, m1⟩ := szLabel_nn y (hB y List.mem_cons_self) k n t e (by omega) h0 h1
      obtain ⟨l2, m2⟩ := szLabelS_nn_l0 suf (pre ++ [y]) k t r (fun z hz => hB z (List.mem_cons_of_mem _ hz)) (by simpa using hl) h hr (by omega) (by omega)
      refine ⟨by omega, ?_⟩
      simp only [nnLabels, List.length_cons]
      push_cast at m1 ⊢
      omega
theorem szLabelS_nn (l : List S85) (hB : l.length ≤ maxLen ∧ ∀ y ∈ l, B85 y) (k : Nat) (n r : Int) (h : laws_szLabelS.f k l n = some r) (hr : 0 ≤ r) (h0 : 0 ≤ n) (h1 : n ≤ 1048576) : r ≤ n ∧ (nnLabels l : Int) ≤ n - r := by
  have q : l.length ≤ 9223372036854775807 := hB.1
  unfold laws_szLabelS.f at h
  rw [show wrap64 (n - (l.length : Int)) = n - (l.length : Int) from wrap_id (by omega) (by omega)] at h
  by_cases c : n - (l.length : Int) < 0
  · rw [if_pos c] at h; injection h with h; omega
  rw [if_neg c] at h
  obtain ⟨l1, m1⟩ := szLabelS_nn_l0 l [] k (n - (l.length : Int)) r hB.2 (by simp; omega) h hr (by omega) (by omega)
  exact ⟨by omega, by omega⟩
def nnAlarms : List S35 → Nat
  | [] => 0
  | y :: ys => 1 + nnLabels y.f0 + nnAlarms ys
theorem szAlarm_nn (x : S35) (hB : B35 x) (k : Nat) (n r : Int) (h : laws_szAlarm.f k x.f0 x.f1 x.f2 x.f3 n = some r) (hr : 0 ≤ r) (h0 : 0 ≤ n) (h1 : n ≤ 1048576) : r ≤ n ∧ ((nnLabels x.f0 : Nat) : Int) ≤ n - r := by
  unfold laws_szAlarm.f at h
  obtain ⟨t1, e1, h⟩ := Option.bind_eq_some_iff.mp h
  by_cases c1 : t1 < 0
  · rw [if_pos c1] at h; injection h with h; omega
  rw [if_neg c1] at h
  obtain ⟨l1, m1⟩ := szLabelS_nn x.f0 hB.1 k n t1 e1 (by omega) (by omega) (by omega)
  have q2 : x.f3.size ≤ 9223372036854775807 := hB.2.2.2
  rw [show wrap64 (t1 - (x.f3.size : Int)) = t1 - (x.f3.size : Int) from wrap_id (by omega) (by omega)] at h
  by_cases c2 : t1 - (x.f3.size : Int) < 0
  · rw [if_pos c2] at h; injection h with h; omega
  rw [if_neg c2] at h
  injection h with h
  exact ⟨by omega, by omega⟩
theorem szAlarmS_nn_l0 : ∀ (suf pre : List S35) (k : Nat) (n r : Int), (∀ y ∈ suf, B35 y) → (pre ++ suf).length < 4611686018427387904 → laws_szAlarmS.l0 k (pre ++ suf) n (pre.length : Int) = some r → 0 ≤ r → 0 ≤ n → n ≤ 1048576 → r ≤ n ∧ (nnAlarms suf : Int) ≤ n - r + suf.length
  | [], pre, k, n, r, hB, hl, h, hr, h0, h1 => by
    cases k with
    | zero => simp [laws_szAlarmS.l0] at h
    | succ k =>
      simp only [laws_szAlarmS.l0] at h
      rw [if_neg (not_lt_end pre)] at h
      injection h with h
      subst h
      exact ⟨Int.le_refl _, by simp [nnAlarms]⟩
  | y :: suf, pre, k, n, r, hB, hl, h, hr, h0, h1 => by
    have hp : pre.length < 4611686018427387904 := by simp at hl; omega
    cases k with
    | zero => simp [laws_szAlarmS.l0] at h
    | succ k =>
      simp only [laws_szAlarmS.l0] at h
      rw [if_pos (lt_mid pre suf y), if_pos (nn _), rdmidAlarml, wrap_up pre.length (by omega)] at h
      obtain ⟨t, e, h⟩ := Option.bind_eq_some_iff.mp h
      by_cases c : t < 0
      · rw [if_pos c] at h; injection h with h; omega
      rw [if_neg c, show pre ++ y :: suf = (pre ++ [y]) ++ suf by simp, show ((pre.length + 1 : Nat) : Int) = ((pre ++ [y]).length : Int) by simp] at h
      obtain ⟨l1, m1⟩ := szAlarm_nn y (hB y List.mem_cons_self) k n t e (by omega) h0 h1
      obtain ⟨l2, m2⟩ := szAlarmS_nn_l0 suf (pre ++ [y]) k t r (fun z hz => hB z (List.mem_cons_of_mem _ hz)) (by simpa using hl) h hr (by omega) (by omega)
      refine ⟨by omega, ?_⟩
      simp only [nnAlarms, List.length_cons]
      push_cast at m1 ⊢
      omega
theorem szAlarmS_nn (l : List S35) (hB : l.length ≤ maxLen ∧ ∀ y ∈ l, B35 y) (k : Nat) (n r : Int) (h : laws_szAlarmS.f k l n = some r) (hr : 0 ≤ r) (h0 : 0 ≤ n) (h1 : n ≤ 1048576) : r ≤ n ∧ (nnAlarms l : Int) ≤ n - r := by
  have q : l.length ≤ 9223372036854775807 := hB.1
  unfold laws_szAlarmS.f at h
  rw [show wrap64 (n - (l.length : Int)) = n - (l.length : Int) from wrap_id (by omega) (by omega)] at h
  by_cases c : n - (l.length : Int) < 0
  · rw [if_pos c] at h; injection h with h; omega
  rw [if_neg c] at h
  obtain ⟨l1, m1⟩ := szAlarmS_nn_l0 l [] k (n - (l.length : Int)) r hB.2 (by simp; omega) h hr (by omega) (by omega)
  exact ⟨by omega, by omega⟩
def nnChains : List S119 → Nat
  | [] => 0
  | y :: ys => 1 + nnAlarms y.f1 + nnChains ys
theorem szChain_nn (x : S119) (hB : B119 x) (k : Nat) (n r : Int) (h : laws_szChain.f k x.f0 x.f1 n = some r) (hr : 0 ≤ r) (h0 : 0 ≤ n) (h1 : n ≤ 1048576) : r ≤ n ∧ ((nnAlarms x.f1 : Nat) : Int) ≤ n - r := by
  unfold laws_szChain.f at h
  obtain ⟨t1, e1, h⟩ := Option.bind_eq_some_iff.mp h
  by_cases c1 : t1 < 0
  · rw [if_pos c1] at h; injection h with h; omega
  rw [if_neg c1] at h
  obtain ⟨l1, m1⟩ := szAlarmS_nn x.f1 hB.2 k n t1 e1 (by omega) (by omega) (by omega)
  injection h with h
  exact ⟨by omega, by omega⟩
theorem szChainS_nn_l0 : ∀ (suf pre : List S119) (k : Nat) (n r : Int), (∀ y ∈ suf, B119 y) → (pre ++ suf).length < 4611686018427387904 → laws_szChainS.l0 k (pre ++ suf) n (pre.length : Int) = some r → 0 ≤ r → 0 ≤ n → n ≤ 1048576 → r ≤ n ∧ (nnChains suf : Int) ≤ n - r + suf.length
  | [], pre, k, n, r, hB, hl, h, hr, h0, h1 => by
    cases k with
    | zero => simp [laws_szChainS.l0] at h
    | succ k =>
      simp only [laws_szChainS.l0] at h
      rw [if_neg (not_lt_end pre)] at h
      injection h with h
      subst h
      exact ⟨Int.le_refl _, by simp [nnChains]⟩
  | y :: suf, pre, k, n, r, hB, hl, h, hr, h0, h1 => by
    have hp : pre.length < 4611686018427387904 := by simp at hl; omega
    cases k with
    | zero => simp [laws_szChainS.l0] at h
    | succ k =>
      simp only [laws_szChainS.l0] at h
      rw [if_pos (lt_mid pre suf y), if_pos (nn _), rdmidChainl, wrap_up pre.length (by omega)] at h
      obtain ⟨t, e, h⟩ := Option.bind_eq_some_iff.mp h
      by_cases c : t < 0
      · rw [if_pos c] at h; injection h with h; omega
      rw [if_neg c, show pre ++ y :: suf = (pre ++ [y]) ++ suf by simp, show ((pre.length + 1 : Nat) : Int) = ((pre ++ [y]).length : Int) by simp] at h
      obtain ⟨l1, m1⟩ := szChain_nn y (hB y List.mem_cons_self) k n t e (by omega) h0 h1
      obtain ⟨l2, m2⟩ := szChainS_nn_l0 suf (pre ++ [y]) k t r (fun z hz => hB z (List.mem_cons_of_mem _ hz)) (by simpa using hl) h hr (by omega) (by omega)
      refine ⟨by omega, ?_⟩
      simp only [nnChains, List.length_cons]
      push_cast at m1 ⊢
      omega
theorem szChainS_nn (l : List S119) (hB : l.length ≤ maxLen ∧ ∀ y ∈ l, B119 y) (k : Nat) (n r : Int) (h : laws_szChainS.f k l n = some r) (hr : 0 ≤ r) (h0 : 0 ≤ n) (h1 : n ≤ 1048576) : r ≤ n ∧ (nnChains l : Int) ≤ n - r := by
  have q : l.length ≤ 9223372036854775807 := hB.1
  unfold laws_szChainS.f at h
  rw [show wrap64 (n - (l.length : Int)) = n - (l.length : Int) from wrap_id (by omega) (by omega)] at h
  by_cases c : n - (l.length : Int) < 0
  · rw [if_pos c] at h; injection h with h; omega
  rw [if_neg c] at h
  obtain ⟨l1, m1⟩ := szChainS_nn_l0 l [] k (n - (l.length : Int)) r hB.2 (by simp; omega) h hr (by omega) (by omega)
  exact ⟨by omega, by omega⟩
def nnParts : List S52 → Nat
  | [] => 0
  | y :: ys => 1 + nnChains y.f2 + nnParts ys
theorem szPart_nn (x : S52) (hB : B52 x) (k : Nat) (n r : Int) (h : laws_szPart.f k x.f0 x.f1 x.f2 n = some r) (hr : 0 ≤ r) (h0 : 0 ≤ n) (h1 : n ≤ 1048576) : r ≤ n ∧ ((nnChains x.f2 : Nat) : Int) ≤ n - r := by
  unfold laws_szPart.f at h
  obtain ⟨t1, e1, h⟩ := Option.bind_eq_some_iff.mp h
  by_cases c1 : t1 < 0
  · rw [if_pos c1] at h; injection h with h; omega
  rw [if_neg c1] at h
  obtain ⟨l1, m1⟩ := szChainS_nn x.f2 hB.2.2 k n t1 e1 (by omega) (by omega) (by omega)
  injection h with h
  exact ⟨by omega, by omega⟩
theorem szPartS_nn_l0 : ∀ (suf pre : List S52) (k : Nat) (n r : Int), (∀ y ∈ suf, B52 y) → (pre ++ suf).length < 4611686018427387904 → laws_szPartS.l0 k (pre ++ suf) n (pre.length : Int) = some r → 0 ≤ r → 0 ≤ n → n ≤ 1048576 → r ≤ n ∧ (nnParts suf : Int) ≤ n - r + suf.length
  | [], pre, k, n, r, hB, hl, h, hr, h0, h1 => by
    cases k with
    | zero => simp [laws_szPartS.l0] at h
    | succ k =>
      simp only [laws_szPartS.l0] at h
      rw [if_neg (not_lt_end pre)] at h
      injection h with h
      subst h
      exact ⟨Int.le_refl _, by simp [nnParts]⟩
  | y :: suf, pre, k, n, r, hB, hl, h, hr, h0, h1 => by
    have hp : pre.length < 4611686018427387904 := by simp at hl; omega
    cases k with
    | zero => simp [laws_szPartS.l0] at h
    | succ k =>
      simp only [laws_szPartS.l0] at h
      rw [if_pos (lt_mid pre suf y), if_pos (nn _), rdmidPartl, wrap_up pre.length (by omega)] at h
      obtain ⟨t, e, h⟩ := Option.bind_eq_some_iff.mp h
      by_cases c : t < 0
      · rw [if_pos c] at h; injection h with h; omega
      rw [if_neg c, show pre ++ y :: suf = (pre ++ [y]) ++ suf by simp, show ((pre.length + 1 : Nat) : Int) = ((pre ++ [y]).length : Int) by simp] at h
      obtain ⟨l1, m1⟩ := szPart_nn y (hB y List.mem_cons_self) k n t e (by omega) h0 h1
      obtain ⟨l2, m2⟩ := szPartS_nn_l0 suf (pre ++ [y]) k t r (fun z hz => hB z (List.mem_cons_of_mem _ hz)) (by simpa using hl) h hr (by omega) (by omega)
      refine ⟨by omega, ?_⟩
      simp only [nnParts, List.length_cons]
      push_cast at m1 ⊢
      omega
theorem szPartS_nn (l : List S52) (hB : l.length ≤ maxLen ∧ ∀ y ∈ l, B52 y) (k : Nat) (n r : Int) (h : laws_szPartS.f k l n = some r) (hr : 0 ≤ r) (h0 : 0 ≤ n) (h1 : n ≤ 1048576) : r ≤ n ∧ (nnParts l : Int) ≤ n - r := by
  have q : l.length ≤ 9223372036854775807 := hB.1
  unfold laws_szPartS.f at h
  rw [show wrap64 (n - (l.length : Int)) = n - (l.length : Int) from wrap_id (by omega) (by omega)] at h
  by_cases c : n - (l.length : Int) < 0
  · rw [if_pos c] at h; injection h with h; omega
  rw [if_neg c] at h
  obtain ⟨l1, m1⟩ := szPartS_nn_l0 l [] k (n - (l.length : Int)) r hB.2 (by simp; omega) h hr (by omega) (by omega)
  exact ⟨by omega, by omega⟩
theorem cnLabels_cv : ∀ l : List S85, cnLabels (l.map cvLabel) ≤ 6 * nnLabels l
  | [] => Nat.le_refl _
  | y :: ys => by
    have h0 := cnLabels_cv ys
    simp only [List.map_cons, cnLabels, nnLabels, cvLabel]
    omega
theorem cnAlarms_cv : ∀ l : List S35, cnAlarms (l.map cvAlarm) ≤ 6 * nnAlarms l
  | [] => Nat.le_refl _
  | y :: ys => by
    have h0 := cnAlarms_cv ys
    have h_0 := cnLabels_cv y.f0
    simp only [List.map_cons, cnAlarms, nnAlarms, cvAlarm]
    omega
theorem cnChains_cv : ∀ l : List S119, cnChains (l.map cvChain) ≤ 6 * nnChains l
  | [] => Nat.le_refl _
  | y :: ys => by
    have h0 := cnChains_cv ys
    have h_1 := cnAlarms_cv y.f1
    simp only [List.map_cons, cnChains, nnChains, cvChain]
    omega
theorem cnParts_cv : ∀ l : List S52, cnParts (l.map cvPart) ≤ 6 * nnParts l
  | [] => Nat.le_refl _
  | y :: ys => by
    have h0 := cnParts_cv ys
    have h_2 := cnChains_cv y.f2
    simp only [List.map_cons, cnParts, nnParts, cvPart]
    omega
end Go.Proofs.Yticgekgojgkbgaa.Print
end
section
/- The law FnExactPutAlarm answers true for all arguments that can be read: the pure statement, without Go and memory. No condition. -/
namespace Go.Proofs.Yticgekgojgkbgaa.Print
open Go.RowKit Go.Proofs.YticgekgojgkbgaaV.PrintWords Go.Proofs.YticgekgojgkbgaaV.PrintLast Go.Proofs.YticgekgojgkbgaaV.PrintMore
set_option linter.unusedVariables false
set_option linter.unusedSimpArgs false
theorem pure_FnExactPutAlarm : laws_FnExactPutAlarm.Pure := by
  intro p0 p1_0 p1_1 p1_2 p1_3 hp0 hp1_0 hp1_1 hp1_2 hp1_3
  obtain ⟨r0, ⟨K0, g0⟩, le0, w0⟩ := szPartS_ev p0 hp0 1048576 (by omega) (by omega)
  simp only at g0
  by_cases c0 : r0 < 0
  · exact ⟨K0, by simp [laws_FnExactPutAlarm.f, g0 (K0) (by omega), c0]⟩
  obtain ⟨nl0, nb0⟩ := szPartS_nn p0 hp0 K0 1048576 r0 (g0 K0 (Nat.le_refl _)) (by omega) (by omega) (by omega)
  obtain ⟨r1, ⟨K1, g1⟩, le1, w1⟩ := szAlarm_ev (⟨p1_0, p1_1, p1_2, p1_3⟩ : S35) ⟨hp1_0, hp1_1, hp1_2, hp1_3⟩ r0 (by omega) (by omega)
  simp only at g1
  by_cases c1 : r1 < 0
  · exact ⟨K0 + K1, by simp [laws_FnExactPutAlarm.f, g0 (K0 + K1) (by omega), c0, g1 (K0 + K1) (by omega), c1]⟩
  obtain ⟨nl1, nb1⟩ := szAlarm_nn (⟨p1_0, p1_1, p1_2, p1_3⟩ : S35) ⟨hp1_0, hp1_1, hp1_2, hp1_3⟩ K1 r0 r1 (g1 K1 (Nat.le_refl _)) (by omega) (by omega) (by omega)
  simp only at nb1
  obtain ⟨g, hg, hw, hc⟩ : ∃ g, putAlarm (p0.map cvPart) (cvAlarm (⟨p1_0, p1_1, p1_2, p1_3⟩ : S35)) = g ∧ (g.1.length ≤ 4000000 ∧ ∀ y ∈ g.1, WiPart y) ∧ cnParts g.1 ≤ 100000000 := ⟨_, rfl, putAlarm_wi (fun p hp => by obtain ⟨q, hq, rfl⟩ := List.mem_map.1 hp; refine ⟨by show (List.map cvChain _).length ≤ 1048576; rw [List.length_map]; exact ((w0 (by omega)).2 q hq).2.2.1, fun y hy => ?_⟩; obtain ⟨z, hz, rfl⟩ := List.mem_map.1 hy; show (List.map cvAlarm _).length ≤ 1048576; rw [List.length_map]; exact (((w0 (by omega)).2 q hq).2.2.2 z hz).2.1) (Wi_mapPart (w0 (by omega))) (Wi_cvAlarm (w1 (by omega))), cnPutAlarm_le (Wi_cvAlarm (w1 (by omega))) (Nat.le_trans (cnParts_cv p0) (by omega))⟩
  have b0 : cnParts (p0.map cvPart) ≤ 6 * nnParts p0 := cnParts_cv _
  have n0 : ((1 + (cnParts (p0.map cvPart) : Int)) < 0) = False := eq_false (by omega)
  have b1 : cnLabels (cvAlarm (⟨p1_0, p1_1, p1_2, p1_3⟩ : S35)).f0 ≤ 6 * nnLabels (⟨p1_0, p1_1, p1_2, p1_3⟩ : S35).f0 := cnLabels_cv _
  simp only at b1
  have n1 : (((1 + (cnParts (p0.map cvPart) : Int)) + (cnLabels (cvAlarm (⟨p1_0, p1_1, p1_2, p1_3⟩ : S35)).f0 : Int)) < 0) = False := eq_false (by omega)
  have b2 := hc
  have n2 : ((1 + (cnParts g.1 : Int)) < 0) = False := eq_false (by omega)
  obtain ⟨L0, f0⟩ := toPartS_ev p0 (w0 (by omega))
  obtain ⟨L1, f1⟩ := eqPartS_ev (p0.map cvPart) (Wi_mapPart (w0 (by omega)))
  obtain ⟨L2, f2⟩ := toAlarm_ev (⟨p1_0, p1_1, p1_2, p1_3⟩ : S35) (w1 (by omega))
  obtain ⟨L3, f3⟩ := eqAlarm_ev (cvAlarm (⟨p1_0, p1_1, p1_2, p1_3⟩ : S35)) (Wi_cvAlarm (w1 (by omega)))
  obtain ⟨L4, f4⟩ := hg ▸ specPutAlarm_ev (p0.map cvPart) (cvAlarm (⟨p1_0, p1_1, p1_2, p1_3⟩ : S35)) (Wi_mapPart (w0 (by omega))) (Wi_cvAlarm (w1 (by omega)))
  obtain ⟨L5, f5⟩ := hg ▸ implPutAlarm_ev (p0.map cvPart) (cvAlarm (⟨p1_0, p1_1, p1_2, p1_3⟩ : S35)) (Wi_mapPart (w0 (by omega))) (Wi_cvAlarm (w1 (by omega)))
  obtain ⟨L6, f6⟩ := markPartS_ev (p0.map cvPart) 1 (by omega) (by omega)
  obtain ⟨L7, f7⟩ := markLabelS_ev (cvAlarm (⟨p1_0, p1_1, p1_2, p1_3⟩ : S35)).f0 (1 + (cnParts (p0.map cvPart) : Int)) (by omega) (by omega)
  obtain ⟨L8, f8⟩ := eqPartS_ev g.1 hw
  obtain ⟨L9, f9⟩ := markPartS_ev g.1 1 (by omega) (by omega)
  obtain ⟨L10, f10⟩ := heldPartS_ev g.1 1 (by omega) (by omega)
  have G0 := fun m => g0 (K0 + K1 + L0 + L1 + L2 + L3 + L4 + L5 + L6 + L7 + L8 + L9 + L10 + m) (by omega)
  have G1 := fun m => g1 (K0 + K1 + L0 + L1 + L2 + L3 + L4 + L5 + L6 + L7 + L8 + L9 + L10 + m) (by omega)
  have F0 := fun m => f0 (K0 + K1 + L0 + L1 + L2 + L3 + L4 + L5 + L6 + L7 + L8 + L9 + L10 + m) (by omega)
  have F1 := fun m => f1 (K0 + K1 + L0 + L1 + L2 + L3 + L4 + L5 + L6 + L7 + L8 + L9 + L10 + m) (by omega)
  have F2 := fun m => f2 (K0 + K1 + L0 + L1 + L2 + L3 + L4 + L5 + L6 + L7 + L8 + L9 + L10 + m) (by omega)
  have F3 := fun m => f3 (K0 + K1 + L0 + L1 + L2 + L3 + L4 + L5 + L6 + L7 + L8 + L9 + L10 + m) (by omega)
  have F4 := fun m => f4 (K0 + K1 + L0 + L1 + L2 + L3 + L4 + L5 + L6 + L7 + L8 + L9 + L10 + m) (by omega)
  have F5 := fun m => f5 (K0 + K1 + L0 + L1 + L2 + L3 + L4 + L5 + L6 + L7 + L8 + L9 + L10 + m) (by omega)
  have F6 := fun m => f6 (K0 + K1 + L0 + L1 + L2 + L3 + L4 + L5 + L6 + L7 + L8 + L9 + L10 + m) (by omega)
  have F7 := fun m => f7 (K0 + K1 + L0 + L1 + L2 + L3 + L4 + L5 + L6 + L7 + L8 + L9 + L10 + m) (by omega)
  have F8 := fun m => f8 (K0 + K1 + L0 + L1 + L2 + L3 + L4 + L5 + L6 + L7 + L8 + L9 + L10 + m) (by omega)
  have F9 := fun m => f9 (K0 + K1 + L0 + L1 + L2 + L3 + L4 + L5 + L6 + L7 + L8 + L9 + L10 + m) (by omega)
  have F10 := fun m => f10 (K0 + K1 + L0 + L1 + L2 + L3 + L4 + L5 + L6 + L7 + L8 + L9 + L10 + m) (by omega)
  simp only at F0 F1 F2 F3 F4 F5 F6 F7 F8 F9 F10
  exact ⟨K0 + K1 + L0 + L1 + L2 + L3 + L4 + L5 + L6 + L7 + L8 + L9 + L10 + 3, by simp [laws_FnExactPutAlarm.f, laws_markAlarm.f, G0, G1, F0, F1, F2, F3, F4, F5, F6, F7, F8, F9, F10, c0, c1, n0, n1, n2]⟩

end Go.Proofs.Yticgekgojgkbgaa.Print
end
