-- Written by printx.py, a program of this session (wip/gen), over the kit's print.py.
import Derived.Test.YtmmaondenopnpaaF0
import Derived.Test.YtmmaondenopnpaaF63
import Derived.Test.YtmmaondenopnpaaF68
namespace Go.Proofs.Ytmmaondenopnpaa.Print
open Go.RowKit Go.Proofs.YtmmaondenopnpaaV.PrintWords Go.Proofs.YtmmaondenopnpaaV.PrintLast Go.Proofs.YtmmaondenopnpaaV.PrintMore
attribute [local go_sem] max2_int min2_int max_two min_two max_three min_three max_four min_four   -- for this text's walks alone
set_option linter.unusedVariables false
set_option linter.unusedSimpArgs false

/-! ### laws_heldAlarmS: function 96 -/
def laws_heldAlarmS.l0 : Nat → List (S57) → Int → Int → Option (Int)
 | 0, _, _, _ => none
 | k + 1, x0, x1, x5 => if x5 < (x0.length : Int) then (if 0 ≤ x5 then ((laws_heldLabelS.f k ((rd_T57 x0 x5).f0) x1).bind fun t624 => (if t624 < 0 then (none) else (if ((rd_T57 x0 x5).f1) = t624 then (if ((rd_T57 x0 x5).f2) = (wrap64 (t624 + 1)) then ((laws_markText.f k (wrap64 ((wrap64 (t624 + 1)) + 1))).bind fun t628 => (if ((rd_T57 x0 x5).f3).toList = t628.toList then (laws_heldAlarmS.l0 k x0 (wrap64 ((wrap64 ((wrap64 (t624 + 1)) + 1)) + 1)) (wrap64 (x5 + 1))) else (none))) else (none)) else (none)))) else (none)) else (some x1)
def laws_heldAlarmS.f (k : Nat) (l0 : List (S57)) (a1 : Int) : Option (Int) := laws_heldAlarmS.l0 k l0 a1 0
theorem laws_heldAlarmS.mono_l : ∀ k, (∀ y0 y1 y2, LeO (laws_heldAlarmS.l0 k y0 y1 y2) (laws_heldAlarmS.l0 (k + 1) y0 y1 y2))
 | 0 => fun _ _ _ r h => by simp [laws_heldAlarmS.l0] at h
 | k + 1 => by
  have ih0 := laws_heldAlarmS.mono_l k
  ·
   intro y0 y1 y2
   unfold laws_heldAlarmS.l0
   repeat' first
   | (with_reducible exact ih0 _ _ _)
   | (with_reducible exact laws_heldLabelS.mono _ _ _)
   | (with_reducible exact laws_markText.mono _ _)
   | (with_reducible exact LeO.refl _)
   | (with_reducible exact LeO.none _)
   | (with_reducible refine LeO.ite ?_ ?_)
   | (with_reducible refine LeO.bind ?_ (fun _ => ?_))
   | exact ih0 _ _ _
   | exact laws_heldLabelS.mono _ _ _
   | exact laws_markText.mono _ _
   | exact LeO.none _
   | refine LeO.ite ?_ ?_
   | refine LeO.bind ?_ (fun _ => ?_)
theorem laws_heldAlarmS.mono : ∀ a0 a1 k, LeO (laws_heldAlarmS.f k a0 a1) (laws_heldAlarmS.f (k + 1) a0 a1) := by
 intro a0 a1 k
 have ih0 := laws_heldAlarmS.mono_l k
 unfold laws_heldAlarmS.f
 repeat' first
   | (with_reducible exact ih0 _ _ _)
   | (with_reducible exact laws_heldLabelS.mono _ _ _)
   | (with_reducible exact laws_markText.mono _ _)
   | (with_reducible exact LeO.refl _)
   | (with_reducible exact LeO.none _)
   | (with_reducible refine LeO.ite ?_ ?_)
   | (with_reducible refine LeO.bind ?_ (fun _ => ?_))
   | exact ih0 _ _ _
   | exact laws_heldLabelS.mono _ _ _
   | exact laws_markText.mono _ _
   | exact LeO.none _
   | refine LeO.ite ?_ ?_
   | refine LeO.bind ?_ (fun _ => ?_)
def laws_heldAlarmS.T13 : Bool × List (List Nat × List Nat) := (true, [([], []), ([], []), ([0, 1], [0, 1]), ([2], [2]), ([3], [3]), ([], []), ([5], [5]), ([4, 6], [4, 6])])
def laws_heldAlarmS.B13 : List Nat := [0, 0, 3, 7, 15, 0, 32, 127]
theorem laws_heldAlarmS.tab13 : rtab .any (opsOf Try.f96 13) = laws_heldAlarmS.T13 := by kernel_rfl
theorem laws_heldAlarmS.bits13 : waitsOk laws_heldAlarmS.T13.2 laws_heldAlarmS.B13 = true := by kernel_rfl
set_option maxHeartbeats 8000000 in
set_option maxRecDepth 100000 in
theorem laws_heldAlarmS.calls (k : Nat) (A0 : Option Addr) (c0 : Nat) (l0 : List (S57)) (a1 : Int) (r : Int) (w : World) (hr0 : Kd.C k57 w A0 l0.length l0) (hc0 : l0.length ≤ c0) (h : laws_heldAlarmS.f k l0 a1 = some r) :
  Calls Try.prog 96 #[.slice A0 l0.length c0, .int .i64 a1] w fun e w' => e = .returned (.int .i64 r) ∧ Below w.heap.size w w' := by
 have HR0 := Aside0.mk hr0
 have HC0 := Aside0.mk hc0
 clear hr0 hc0
 have HB := Aside0.mk (Below.refl w.heap.size w)
 have H : (laws_heldAlarmS.l0 k l0 a1 0) = some r := h
 clear h
 have H' := Aside0.mk H
 clear H
 go_enter Try.func96, Try.ntmps96
 go_wp2
 go_loopg [1, 5] k (fun kq v1 v5 w' => ∃ (x1_1 : Int) (x5_1 : Int), v1 = .int .i64 x1_1 ∧ v5 = .int .i64 x5_1 ∧ Aside0 (laws_heldAlarmS.l0 kq l0 x1_1 x5_1 = some r) ∧ Aside0 (kq ≤ k) ∧ Aside0 (Below w.heap.size w w'))
 case atStart => exact ⟨(a1), (0), (by first | rfl | (simp; done) | (simp [*]; done)), (by first | rfl | (simp; done) | (simp [*]; done)), H', ⟨Nat.le_refl _⟩, ⟨by repeat (first | (with_reducible first | exact HB.out | apply below_alloc | apply pw_below_drewN | apply below_drew1) | exact HB.out)⟩⟩
 case round =>
  clear H'
  try clear p2
  obtain ⟨x1_1, x5_1, rfl, rfl, HA, HK1, HB⟩ := hrel
  cases gk with
  | zero => exact absurd HA.out (by simp [laws_heldAlarmS.l0])
  | succ k1 =>
   have H := HA.out
   clear HA
   simp only [laws_heldAlarmS.l0] at H
   by_cases c3 : x5_1 < (l0.length : Int)
   ·
    rw [if_pos c3] at H
    have c3b0 : decide (x5_1 < (l0.length : Int)) = true := decide_eq_true c3
    clear c3
    by_cases c4 : 0 ≤ x5_1
    ·
     rw [if_pos c4] at H
     have c4b0 : decide (0 ≤ x5_1) = true := decide_eq_true c4
     clear c4
     replace H := Option.bind_eq_some_iff.mp H
     obtain ⟨t624, A50, H⟩ := H
     replace H : (if t624 < 0 then (none) else (if ((rd_T57 l0 x5_1).f1) = t624 then (if ((rd_T57 l0 x5_1).f2) = (wrap64 (t624 + 1)) then ((laws_markText.f k1 (wrap64 ((wrap64 (t624 + 1)) + 1))).bind fun t628 => (if ((rd_T57 l0 x5_1).f3).toList = t628.toList then (laws_heldAlarmS.l0 k1 l0 (wrap64 ((wrap64 ((wrap64 (t624 + 1)) + 1)) + 1)) (wrap64 (x5_1 + 1))) else (none))) else (none)) else (none))) = some r := H
     have A5 := Aside0.mk A50
     clear A50
     by_cases c6 : t624 < 0
     ·
      rw [if_pos c6] at H
      exact absurd H (by simp)
     ·
      rw [if_neg c6] at H
      have c6b0 : decide (t624 < 0) = false := decide_eq_false c6
      clear c6
      by_cases c7 : ((rd_T57 l0 x5_1).f1) = t624
      ·
       rw [if_pos c7] at H
       have c7b0 : (((rd_T57 l0 x5_1).f1) == t624) = true := beq_iff_eq.mpr c7
       have c7b1 : (((rd_T57 l0 x5_1).f1) != t624) = false := bne_eq_false_iff_eq.mpr c7
       clear c7
       by_cases c8 : ((rd_T57 l0 x5_1).f2) = (wrap64 (t624 + 1))
       ·
        rw [if_pos c8] at H
        have c8b0 : (((rd_T57 l0 x5_1).f2) == (wrap64 (t624 + 1))) = true := beq_iff_eq.mpr c8
        have c8b1 : (((rd_T57 l0 x5_1).f2) != (wrap64 (t624 + 1))) = false := bne_eq_false_iff_eq.mpr c8
        clear c8
        replace H := Option.bind_eq_some_iff.mp H
        obtain ⟨t628, A90, H⟩ := H
        replace H : (if ((rd_T57 l0 x5_1).f3).toList = t628.toList then (laws_heldAlarmS.l0 k1 l0 (wrap64 ((wrap64 ((wrap64 (t624 + 1)) + 1)) + 1)) (wrap64 (x5_1 + 1))) else (none)) = some r := H
        have A9 := Aside0.mk A90
        clear A90
        by_cases c10 : ((rd_T57 l0 x5_1).f3).toList = t628.toList
        ·
         rw [if_pos c10] at H
         have c10b0 : (((rd_T57 l0 x5_1).f3).toList == t628.toList) = true := beq_iff_eq.mpr c10
         have c10b1 : (((rd_T57 l0 x5_1).f3).toList != t628.toList) = false := bne_eq_false_iff_eq.mpr c10
         clear c10
         have H' := Aside0.mk H
         clear H
         have p623 : 0 ≤ (x5_1 : Int) := of_decide_eq_true (by first | (with_reducible assumption) | assumption)
         have q623 : x5_1 < (l0.length : Int) := of_decide_eq_true (by first | (with_reducible assumption) | assumption)
         obtain ⟨ad623, A623_0, c623_0, e623, hx623_0, hx623_1, hx623_2, hx623_3, hl623_0, hi623_0⟩ := at_T57 HR0.out x5_1 p623 q623
         cases e623
         replace hx623_0 := (HB.out.cell (World.block_lt_of_cell? w _ hx623_0)).trans hx623_0
         replace hx623_1 := (HB.out.cell (World.block_lt_of_cell? w _ hx623_1)).trans hx623_1
         replace hx623_2 := (HB.out.cell (World.block_lt_of_cell? w _ hx623_2)).trans hx623_2
         replace hx623_3 := (HB.out.cell (World.block_lt_of_cell? w _ hx623_3)).trans hx623_3
         have HR623_0 := Aside0.mk hi623_0
         have HC623_0 := Aside0.mk hl623_0
         clear hi623_0 hl623_0
         replace p623 := eq_true p623
         replace q623 := eq_true q623
         try go_wp2_with (first | ((with_reducible refine gate_callee (f := 105) rfl ?_); refine goesL_ (some 18) rfl rfl Try.func105 (by kernel_rfl) rfl #[.slice A623_0 ((rd_T57 l0 x5_1).f0).length c623_0, .int .i64 x1_1] rfl (by (try simp only [List.map_toArray, List.map_cons, List.map_nil]); first | done | rfl | (simp only [List.length_drop, List.length_take]; rfl)) ?_; (with_reducible refine (laws_heldLabelS.calls k1 _ _ ((rd_T57 l0 x5_1).f0) x1_1 t624 _ ?side1 ?side2 A5.out).mono ?_); (case side1 => repeat (first | exact (Kd.C_below HR623_0.out HB.out) | (with_reducible refine Kd.C_alloc ?_ _) | (with_reducible refine Kd.C_drewN ?_ _) | (with_reducible refine Kd.C_drew ?_))); (case side2 => exact HC623_0.out); rintro e w11 ⟨rfl, hb⟩; refine ⟨_, rfl, ?_⟩; have n0_ := Aside0.mk (below_step (by repeat (first | (with_reducible first | exact HB.out | apply below_alloc | apply pw_below_drewN | apply below_drew1) | exact HB.out)) hb); clear HB; have HB := n0_; clear n0_; (try clear hb); (try clear hb2); (try clear hk); (try clear hi); have p625 : 0 ≤ (x5_1 : Int) := of_decide_eq_true (by first | (with_reducible assumption) | assumption); have q625 : x5_1 < (l0.length : Int) := of_decide_eq_true (by first | (with_reducible assumption) | assumption); obtain ⟨ad625, A625_0, c625_0, e625, hx625_0, hx625_1, hx625_2, hx625_3, hl625_0, hi625_0⟩ := at_T57 HR0.out x5_1 p625 q625; obtain rfl : ad623 = ad625 := (by injection e625); replace hx625_0 := (HB.out.cell (World.block_lt_of_cell? w _ hx625_0)).trans hx625_0; replace hx625_1 := (HB.out.cell (World.block_lt_of_cell? w _ hx625_1)).trans hx625_1; replace hx625_2 := (HB.out.cell (World.block_lt_of_cell? w _ hx625_2)).trans hx625_2; replace hx625_3 := (HB.out.cell (World.block_lt_of_cell? w _ hx625_3)).trans hx625_3; have HR625_0 := Aside0.mk hi625_0; have HC625_0 := Aside0.mk hl625_0; clear hi625_0 hl625_0; replace p625 := eq_true p625; replace q625 := eq_true q625; have p626 : 0 ≤ (x5_1 : Int) := of_decide_eq_true (by first | (with_reducible assumption) | assumption); have q626 : x5_1 < (l0.length : Int) := of_decide_eq_true (by first | (with_reducible assumption) | assumption); obtain ⟨ad626, A626_0, c626_0, e626, hx626_0, hx626_1, hx626_2, hx626_3, hl626_0, hi626_0⟩ := at_T57 HR0.out x5_1 p626 q626; obtain rfl : ad623 = ad626 := (by injection e626); replace hx626_0 := (HB.out.cell (World.block_lt_of_cell? w _ hx626_0)).trans hx626_0; replace hx626_1 := (HB.out.cell (World.block_lt_of_cell? w _ hx626_1)).trans hx626_1; replace hx626_2 := (HB.out.cell (World.block_lt_of_cell? w _ hx626_2)).trans hx626_2; replace hx626_3 := (HB.out.cell (World.block_lt_of_cell? w _ hx626_3)).trans hx626_3; have HR626_0 := Aside0.mk hi626_0; have HC626_0 := Aside0.mk hl626_0; clear hi626_0 hl626_0; replace p626 := eq_true p626; replace q626 := eq_true q626; have ea_ := Option.some.inj (hx625_0.symm.trans hx626_0); injection ea_ with ea_ en_ ec_; subst ea_; subst ec_; clear en_))
         have n0_ := Aside0.mk (below_drew1 HB.out)
         clear HB
         have HB := n0_
         clear n0_
         have p627 : 0 ≤ (x5_1 : Int) := of_decide_eq_true (by first | (with_reducible assumption) | assumption)
         have q627 : x5_1 < (l0.length : Int) := of_decide_eq_true (by first | (with_reducible assumption) | assumption)
         obtain ⟨ad627, A627_0, c627_0, e627, hx627_0, hx627_1, hx627_2, hx627_3, hl627_0, hi627_0⟩ := at_T57 HR0.out x5_1 p627 q627
         have hw627_3 := hx627_3
         have hw627_2 := hx627_2
         have hw627_1 := hx627_1
         have hw627_0 := hx627_0
         obtain rfl : ad623 = ad627 := (by injection e627)
         replace hx627_0 := (HB.out.cell (World.block_lt_of_cell? w _ hx627_0)).trans hx627_0
         replace hx627_1 := (HB.out.cell (World.block_lt_of_cell? w _ hx627_1)).trans hx627_1
         replace hx627_2 := (HB.out.cell (World.block_lt_of_cell? w _ hx627_2)).trans hx627_2
         replace hx627_3 := (HB.out.cell (World.block_lt_of_cell? w _ hx627_3)).trans hx627_3
         have HR627_0 := Aside0.mk hi627_0
         have HC627_0 := Aside0.mk hl627_0
         clear hi627_0 hl627_0
         replace p627 := eq_true p627
         replace q627 := eq_true q627
         refine start_ (n := 8) (S := fun w' => w'.cell? (ad623.add ((x5_1).toNat * 4)) = some (.slice A627_0 ((rd_T57 l0 x5_1).f0).length c627_0) ∧ w'.cell? ⟨(ad623.add ((x5_1).toNat * 4)).block, (ad623.add ((x5_1).toNat * 4)).off + 1, none⟩ = some (.int .i64 ((rd_T57 l0 x5_1).f1)) ∧ w'.cell? ⟨(ad623.add ((x5_1).toNat * 4)).block, (ad623.add ((x5_1).toNat * 4)).off + 2, none⟩ = some (.int .i64 ((rd_T57 l0 x5_1).f2)) ∧ w'.cell? ⟨(ad623.add ((x5_1).toNat * 4)).block, (ad623.add ((x5_1).toNat * 4)).off + 3, none⟩ = some (.string ((rd_T57 l0 x5_1).f3))) (ds := []) #[false, false, false, false, false, false, false, false] (by kernel_rfl) rfl rfl ⟨((HB.out.cell (World.block_lt_of_cell? w _ hw627_0)).trans hw627_0), ((HB.out.cell (World.block_lt_of_cell? w _ hw627_1)).trans hw627_1), ((HB.out.cell (World.block_lt_of_cell? w _ hw627_2)).trans hw627_2), ((HB.out.cell (World.block_lt_of_cell? w _ hw627_3)).trans hw627_3)⟩ (fun hHeld => ?_); refine with_tabW laws_heldAlarmS.tab13 laws_heldAlarmS.bits13 (fun HT_ HW_ => ?_)
         generalize w11.drew = w12 at HB HR627_0 hx627_0 hx627_1 hx627_2 hx627_3 hHeld ⊢
         refine pure_ (i := 0) (N := some 39) (v := ?_) (a' := ?_) #[true, false, false, false, false, false, false, false] rfl rfl (any_of HT_.out (by kernel_rfl)) (fun _ _ _ h => h) (Or.inl ⟨by rfl, ?_⟩) ?_ ?_
         rotate_left
         ·
          intro w'
          go_simp
          with_reducible rfl
         rotate_left
         ·
          simp only [Act.put, List.setIfInBounds_toArray, List.set_cons_zero, List.set_cons_succ, i64_w, i32_w]
          rfl
         refine pure_ (i := 1) (N := some 40) (v := ?_) (a' := ?_) #[true, true, false, false, false, false, false, false] rfl rfl (any_of HT_.out (by kernel_rfl)) (fun _ _ _ h => h) (Or.inl ⟨by rfl, ?_⟩) ?_ ?_
         rotate_left
         ·
          intro w'
          go_simp
          with_reducible rfl
         rotate_left
         ·
          simp only [Act.put, List.setIfInBounds_toArray, List.set_cons_zero, List.set_cons_succ, i64_w, i32_w]
          rfl
         refine pure_ (i := 2) (N := some 41) (v := ?_) (a' := ?_) #[true, true, true, false, false, false, false, false] rfl rfl (any_of HT_.out (by kernel_rfl)) (fun _ _ _ h => h) (Or.inl ⟨by rfl, ?_⟩) ?_ ?_
         rotate_left
         ·
          intro w'
          go_simp
          with_reducible rfl
         rotate_left
         ·
          simp only [Act.put, List.setIfInBounds_toArray, List.set_cons_zero, List.set_cons_succ, i64_w, i32_w]
          rfl
         refine pure_ (i := 3) (N := some 42) (v := ?_) (a' := ?_) #[true, true, true, true, false, false, false, false] rfl rfl (any_of HT_.out (by kernel_rfl)) (fun _ _ _ h => h) (Or.inl ⟨by rfl, ?_⟩) ?_ ?_
         rotate_left
         ·
          intro w'
          go_simp
          with_reducible rfl
         rotate_left
         ·
          simp only [Act.put, List.setIfInBounds_toArray, List.set_cons_zero, List.set_cons_succ, i64_w, i32_w]
          rfl
         refine pure_ (i := 5) (N := some 44) (v := ?_) (a' := ?_) #[true, true, true, true, false, true, false, false] rfl rfl (any_of HT_.out (by kernel_rfl)) (fun _ _ _ h => h) (Or.inl ⟨by rfl, ?_⟩) ?_ ?_
         rotate_left
         ·
          intro w'
          go_simp
          with_reducible rfl
         rotate_left
         ·
          simp only [Act.put, List.setIfInBounds_toArray, List.set_cons_zero, List.set_cons_succ, i64_w, i32_w]
          rfl
         refine take_ (i := 4) (N := some 43) (v := ?_) (a' := ?_) #[true, true, true, true, true, true, false, false] rfl rfl (take_ofW HT_.out HW_.out (by kernel_rfl)) (fun _ _ _ h => h) (Or.inl ⟨by rfl, ?_⟩) hHeld ?_ ?_
         rotate_left
         ·
          rintro w' ⟨s0, s1, s2, s3⟩
          go_simp
          with_reducible rfl
         rotate_left
         ·
          simp only [Act.put, List.setIfInBounds_toArray, List.set_cons_zero, List.set_cons_succ, i64_w, i32_w]
          rfl
         refine one_ (i := 6) (N := some 45) #[true, true, true, true, true, true, true, false] rfl rfl (one_of HT_.out (by kernel_rfl)) (by decide) (fun K hK => ?_)
         refine goes_ Try.func104 (by kernel_rfl) rfl #[.int .i64 (wrap64 ((wrap64 (t624 + 1)) + 1))] (by rfl) rfl rfl (by (try simp only [List.map_toArray, List.map_cons, List.map_nil]); first | done | rfl | (simp only [List.length_drop, List.length_take]; rfl)) ?_
         with_reducible refine (laws_markText.calls k1 (wrap64 ((wrap64 (t624 + 1)) + 1)) t628 _ A9.out).mono ?_
         rintro e w13 ⟨rfl, hb⟩
         refine ⟨_, rfl, ?_⟩
         have n0_ := Aside0.mk (below_step (by repeat (first | (with_reducible first | exact HB.out | apply below_alloc | apply pw_below_drewN | apply below_drew1) | exact HB.out)) hb)
         clear HB
         have HB := n0_
         clear n0_
         (try clear hb)
         (try clear hb2)
         (try clear hk)
         (try clear hi)
         refine hK.out _ _ ⟨((HB.out.cell (World.block_lt_of_cell? w _ hw627_0)).trans hw627_0), ((HB.out.cell (World.block_lt_of_cell? w _ hw627_1)).trans hw627_1), ((HB.out.cell (World.block_lt_of_cell? w _ hw627_2)).trans hw627_2), ((HB.out.cell (World.block_lt_of_cell? w _ hw627_3)).trans hw627_3)⟩ (fun hHeld => ?_)
         clear hK K
         refine norm_ (a' := ?_) ?_ ?_
         rotate_left
         ·
          show Act.put _ (some 45) _ = _
          simp only [Act.put, List.setIfInBounds_toArray, List.set_cons_zero, List.set_cons_succ, i64_w, i32_w]
          rfl
         refine pure_ (i := 7) (N := some 46) (v := ?_) (a' := ?_) #[true, true, true, true, true, true, true, true] rfl rfl (any_of HT_.out (by kernel_rfl)) (fun _ _ _ h => h) (Or.inl ⟨by rfl, ?_⟩) ?_ ?_
         rotate_left
         ·
          intro w'
          go_simp
          with_reducible rfl
         rotate_left
         ·
          simp only [Act.put, List.setIfInBounds_toArray, List.set_cons_zero, List.set_cons_succ, i64_w, i32_w]
          rfl
         refine done_ (done_of HT_.out (by kernel_rfl)) ?_
         try go_wp2
         go_roundg k1
         case measure => have := HK1.out; omega
         case rel => exact ⟨(wrap64 ((wrap64 ((wrap64 (t624 + 1)) + 1)) + 1)), (wrap64 (x5_1 + 1)), (by first | rfl | (simp; done) | (simp [*]; done)), (by first | rfl | (simp; done) | (simp [*]; done)), H', ⟨by have := HK1.out; omega⟩, ⟨by repeat (first | (with_reducible first | exact HB.out | apply below_alloc | apply pw_below_drewN | apply below_drew1) | exact HB.out)⟩⟩
        ·
         rw [if_neg c10] at H
         exact absurd H (by simp)
       ·
        rw [if_neg c8] at H
        exact absurd H (by simp)
      ·
       rw [if_neg c7] at H
       exact absurd H (by simp)
    ·
     rw [if_neg c4] at H
     exact absurd H (by simp)
   ·
    rw [if_neg c3] at H
    have c3b0 : decide (x5_1 < (l0.length : Int)) = false := decide_eq_false c3
    clear c3
    obtain rfl := Option.some.inj H
    go_wp2
    go_ret
    exact ⟨by first | rfl | (simp [errW_none, errW_some] <;> rfl) | (simp [*, errW_none, errW_some] <;> rfl), by repeat (first | (with_reducible first | exact HB.out | apply below_alloc | apply pw_below_drewN | apply below_drew1) | exact HB.out)⟩

end Go.Proofs.Ytmmaondenopnpaa.Print
