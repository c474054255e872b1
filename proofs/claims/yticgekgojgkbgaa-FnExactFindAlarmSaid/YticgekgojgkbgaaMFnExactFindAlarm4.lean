import Derived.Test.YticgekgojgkbgaaMFnExactFindAlarm1
import Derived.Test.YticgekgojgkbgaaMFnExactFindAlarm2
import Derived.Test.YticgekgojgkbgaaMFnExactFindAlarm3
section
namespace Go.Proofs.Yticgekgojgkbgaa.Print
open Go.RowKit Go.Proofs.YticgekgojgkbgaaV.PrintWords Go.Proofs.YticgekgojgkbgaaV.PrintLast Go.Proofs.YticgekgojgkbgaaV.PrintMore
attribute [local go_sem] max2_int min2_int max_two min_two max_three min_three max_four min_four
set_option linter.unusedVariables false
set_option linter.unusedSimpArgs false
set_option maxHeartbeats 8000000
set_option maxRecDepth 100000
def laws_FnExactFindAlarm.f (k : Nat) (l0 : List (S52)) (l1 : List (S85)) : Option (Bool) := (laws_szPartS.f k l0 1048576).bind fun t633 => (if t633 < 0 then (some true) else ((laws_szLabelS.f k l1 t633).bind fun t634 => (if t634 < 0 then (some true) else ((laws_toPartS.f k l0).bind fun t635 => ((laws_toLabelS.f k l1).bind fun t638 => ((spec_FindAlarm.f k t635 t638).bind fun bt641 => ((laws_toPartS.f k l0).bind fun t649 => ((laws_toLabelS.f k l1).bind fun t652 => ((impl_FindAlarm.f k t649 t652).bind fun bt655 => ((laws_eqAlarm.f k bt655.1 bt655.2.1 bt655.2.2.1 bt655.2.2.2.1 bt641.1 bt641.2.1 bt641.2.2.1 bt641.2.2.2.1).bind fun t663 => (if t663 = true then (if (bt655.2.2.2.2 != bt641.2.2.2.2) = true then (none) else ((laws_toPartS.f k l0).bind fun t664 => ((laws_eqPartS.f k t649 t664).bind fun t667 => (if t667 = true then ((laws_toLabelS.f k l1).bind fun t668 => ((laws_eqLabelS.f k t652 t668).bind fun t671 => (if t671 = true then ((laws_markPartS.f k t649 1).bind fun bt672 => ((laws_markLabelS.f k t652 bt672.1).bind fun bt674 => (if bt674.1 < 0 then (none) else ((laws_eqAlarm.f k bt655.1 bt655.2.1 bt655.2.2.1 bt655.2.2.2.1 bt641.1 bt641.2.1 bt641.2.2.1 bt641.2.2.2.1).bind fun t676 => (if t676 = true then ((laws_markAlarm.f k bt655.1 bt655.2.1 bt655.2.2.1 bt655.2.2.2.1 1).bind fun bt677 => ((laws_heldAlarm.f k bt677.2 bt655.2.1 bt655.2.2.1 bt655.2.2.2.1 1).bind fun t679 => (if t679 < 0 then (none) else (if t679 = bt677.1 then ((laws_toPartS.f k l0).bind fun t680 => ((laws_toLabelS.f k l1).bind fun t683 => ((impl_FindAlarm.f k t680 t683).bind fun bt686 => ((laws_eqAlarm.f k bt686.1 bt686.2.1 bt686.2.2.1 bt686.2.2.2.1 bt641.1 bt641.2.1 bt641.2.2.1 bt641.2.2.2.1).bind fun t694 => (if t694 = true then (if (bt686.2.2.2.2 != bt641.2.2.2.2) = true then (none) else ((laws_heldAlarm.f k bt677.2 bt655.2.1 bt655.2.2.1 bt655.2.2.2.1 1).bind fun t695 => (if t695 < 0 then (none) else (if t695 = bt677.1 then (some true) else (none))))) else (none)))))) else (none))))) else (none)))))) else (none)))) else (none))))) else (none))))))))))))
theorem laws_FnExactFindAlarm.mono : ∀ a0 a1 k, LeO (laws_FnExactFindAlarm.f k a0 a1) (laws_FnExactFindAlarm.f (k + 1) a0 a1) := by
 intro a0 a1 k
 unfold laws_FnExactFindAlarm.f
 repeat' first
   | (with_reducible exact impl_FindAlarm.mono _ _ _)
   | (with_reducible exact laws_eqAlarm.mono _ _ _ _ _ _ _ _ _)
   | (with_reducible exact laws_eqLabelS.mono _ _ _)
   | (with_reducible exact laws_eqPartS.mono _ _ _)
   | (with_reducible exact laws_heldAlarm.mono _ _ _ _ _ _)
   | (with_reducible exact laws_markAlarm.mono _ _ _ _ _ _)
   | (with_reducible exact laws_markLabelS.mono _ _ _)
   | (with_reducible exact laws_markPartS.mono _ _ _)
   | (with_reducible exact laws_szLabelS.mono _ _ _)
   | (with_reducible exact laws_szPartS.mono _ _ _)
   | (with_reducible exact laws_toLabelS.mono _ _)
   | (with_reducible exact laws_toPartS.mono _ _)
   | (with_reducible exact spec_FindAlarm.mono _ _ _)
   | (with_reducible exact LeO.refl _)
   | (with_reducible exact LeO.none _)
   | (with_reducible refine LeO.ite ?_ ?_)
   | (with_reducible refine LeO.bind ?_ (fun _ => ?_))
   | exact impl_FindAlarm.mono _ _ _
   | exact laws_eqAlarm.mono _ _ _ _ _ _ _ _ _
   | exact laws_eqLabelS.mono _ _ _
   | exact laws_eqPartS.mono _ _ _
   | exact laws_heldAlarm.mono _ _ _ _ _ _
   | exact laws_markAlarm.mono _ _ _ _ _ _
   | exact laws_markLabelS.mono _ _ _
   | exact laws_markPartS.mono _ _ _
   | exact laws_szLabelS.mono _ _ _
   | exact laws_szPartS.mono _ _ _
   | exact laws_toLabelS.mono _ _
   | exact laws_toPartS.mono _ _
   | exact spec_FindAlarm.mono _ _ _
theorem laws_FnExactFindAlarm.calls (k : Nat) (A0 : Option Addr) (c0 : Nat) (l0 : List (S52)) (A1 : Option Addr) (c1 : Nat) (l1 : List (S85)) (r : Bool) (w : World) (hr0 : Kd.C k52 w A0 l0.length l0) (hc0 : l0.length ≤ c0) (hr1 : Kd.C k85 w A1 l1.length l1) (hc1 : l1.length ≤ c1) (h : laws_FnExactFindAlarm.f k l0 l1 = some r) :
  Calls Try.prog 8 #[.slice A0 l0.length c0, .slice A1 l1.length c1] w fun e w' => e = .returned (.bool r) ∧ Below w.heap.size w w' := by
 have hu43 := Try.underlying43
 have HR0 := Aside0.mk hr0
 have HC0 := Aside0.mk hc0
 clear hr0 hc0
 have HR1 := Aside0.mk hr1
 have HC1 := Aside0.mk hc1
 clear hr1 hc1
 have HB := Aside0.mk (Below.refl w.heap.size w)
 have H : ((laws_szPartS.f k l0 1048576).bind fun t633 => (if t633 < 0 then (some true) else ((laws_szLabelS.f k l1 t633).bind fun t634 => (if t634 < 0 then (some true) else ((laws_toPartS.f k l0).bind fun t635 => ((laws_toLabelS.f k l1).bind fun t638 => ((spec_FindAlarm.f k t635 t638).bind fun bt641 => ((laws_toPartS.f k l0).bind fun t649 => ((laws_toLabelS.f k l1).bind fun t652 => ((impl_FindAlarm.f k t649 t652).bind fun bt655 => ((laws_eqAlarm.f k bt655.1 bt655.2.1 bt655.2.2.1 bt655.2.2.2.1 bt641.1 bt641.2.1 bt641.2.2.1 bt641.2.2.2.1).bind fun t663 => (if t663 = true then (if (bt655.2.2.2.2 != bt641.2.2.2.2) = true then (none) else ((laws_toPartS.f k l0).bind fun t664 => ((laws_eqPartS.f k t649 t664).bind fun t667 => (if t667 = true then ((laws_toLabelS.f k l1).bind fun t668 => ((laws_eqLabelS.f k t652 t668).bind fun t671 => (if t671 = true then ((laws_markPartS.f k t649 1).bind fun bt672 => ((laws_markLabelS.f k t652 bt672.1).bind fun bt674 => (if bt674.1 < 0 then (none) else ((laws_eqAlarm.f k bt655.1 bt655.2.1 bt655.2.2.1 bt655.2.2.2.1 bt641.1 bt641.2.1 bt641.2.2.1 bt641.2.2.2.1).bind fun t676 => (if t676 = true then ((laws_markAlarm.f k bt655.1 bt655.2.1 bt655.2.2.1 bt655.2.2.2.1 1).bind fun bt677 => ((laws_heldAlarm.f k bt677.2 bt655.2.1 bt655.2.2.1 bt655.2.2.2.1 1).bind fun t679 => (if t679 < 0 then (none) else (if t679 = bt677.1 then ((laws_toPartS.f k l0).bind fun t680 => ((laws_toLabelS.f k l1).bind fun t683 => ((impl_FindAlarm.f k t680 t683).bind fun bt686 => ((laws_eqAlarm.f k bt686.1 bt686.2.1 bt686.2.2.1 bt686.2.2.2.1 bt641.1 bt641.2.1 bt641.2.2.1 bt641.2.2.2.1).bind fun t694 => (if t694 = true then (if (bt686.2.2.2.2 != bt641.2.2.2.2) = true then (none) else ((laws_heldAlarm.f k bt677.2 bt655.2.1 bt655.2.2.1 bt655.2.2.2.1 1).bind fun t695 => (if t695 < 0 then (none) else (if t695 = bt677.1 then (some true) else (none))))) else (none)))))) else (none))))) else (none)))))) else (none)))) else (none))))) else (none))))))))))))) = some r := h
 clear h
 replace H := Option.bind_eq_some_iff.mp H
 obtain ⟨t633, A30, H⟩ := H
 have A3 := Aside0.mk A30
 clear A30
 by_cases c4 : t633 < 0
 ·
  rw [if_pos c4] at H
  have c4b0 := decide_eq_true c4
  clear c4
  obtain rfl := Option.some.inj H
  go_enter Try.func8, Try.ntmps8
  go_wp2_with (first | ((with_reducible refine gate_callee (f := 12) rfl ?_); refine goesL_ (some 19) rfl rfl Try.func12 (by kernel_rfl) rfl #[.slice A0 l0.length c0, .int .i64 1048576] rfl (by (try simp only [mp_]); first | done | rfl | (simp only [List.length_drop, List.length_take]; rfl)) ?_; (with_reducible refine (laws_szPartS.calls k _ _ l0 1048576 t633 _ ?side1 ?side2 A3.out).mono ?_); (case side1 => repeat (first | exact HR0.out | (with_reducible first | refine ca_ ?_ _ | refine cn_ ?_ _ | refine cd_ ?_))); (case side2 => exact HC0.out); rintro e w5 ⟨rfl, hb⟩; refine ⟨_, rfl, ?_⟩; have n0_ := Aside0.mk (below_step (by repeat (first | (with_reducible first | exact HB.out | apply ba_ | apply bn_ | apply bd_) | exact HB.out)) hb); clear HB; have HB := n0_; clear n0_; (try clear hb); (try clear hb2); (try clear hk); (try clear hi)))
  go_ret
  exact ⟨by first | rfl | (simp [errW_none, errW_some] <;> rfl) | (simp [*, errW_none, errW_some] <;> rfl), by repeat (first | (with_reducible first | exact HB.out | apply ba_ | apply bn_ | apply bd_) | exact HB.out)⟩
 rw [if_neg c4] at H
 have c4b0 : decide (t633 < 0) = false := decide_eq_false c4
 clear c4
 replace H := Option.bind_eq_some_iff.mp H
 obtain ⟨t634, A60, H⟩ := H
 have A6 := Aside0.mk A60
 clear A60
 by_cases c7 : t634 < 0
 ·
  rw [if_pos c7] at H
  have c7b0 := decide_eq_true c7
  clear c7
  obtain rfl := Option.some.inj H
  go_enter Try.func8, Try.ntmps8
  go_wp2_with (first | ((with_reducible refine gate_callee (f := 12) rfl ?_); refine goesL_ (some 19) rfl rfl Try.func12 (by kernel_rfl) rfl #[.slice A0 l0.length c0, .int .i64 1048576] rfl (by (try simp only [mp_]); first | done | rfl | (simp only [List.length_drop, List.length_take]; rfl)) ?_; (with_reducible refine (laws_szPartS.calls k _ _ l0 1048576 t633 _ ?side1 ?side2 A3.out).mono ?_); (case side1 => repeat (first | exact HR0.out | (with_reducible first | refine ca_ ?_ _ | refine cn_ ?_ _ | refine cd_ ?_))); (case side2 => exact HC0.out); rintro e w8 ⟨rfl, hb⟩; refine ⟨_, rfl, ?_⟩; have n0_ := Aside0.mk (below_step (by repeat (first | (with_reducible first | exact HB.out | apply ba_ | apply bn_ | apply bd_) | exact HB.out)) hb); clear HB; have HB := n0_; clear n0_; (try clear hb); (try clear hb2); (try clear hk); (try clear hi)) | ((with_reducible refine gate_callee (f := 13) rfl ?_); refine goesL_ (some 24) rfl rfl Try.func13 (by kernel_rfl) rfl #[.slice A1 l1.length c1, .int .i64 t633] rfl (by (try simp only [mp_]); first | done | rfl | (simp only [List.length_drop, List.length_take]; rfl)) ?_; (with_reducible refine (laws_szLabelS.calls k _ _ l1 t633 t634 _ ?side1 ?side2 A6.out).mono ?_); (case side1 => repeat (first | exact (Kd.C_below HR1.out HB.out) | (with_reducible first | refine ca_ ?_ _ | refine cn_ ?_ _ | refine cd_ ?_))); (case side2 => exact HC1.out); rintro e w9 ⟨rfl, hb⟩; refine ⟨_, rfl, ?_⟩; have n0_ := Aside0.mk (below_step (by repeat (first | (with_reducible first | exact HB.out | apply ba_ | apply bn_ | apply bd_) | exact HB.out)) hb); clear HB; have HB := n0_; clear n0_; (try clear hb); (try clear hb2); (try clear hk); (try clear hi)))
  go_ret
  exact ⟨by first | rfl | (simp [errW_none, errW_some] <;> rfl) | (simp [*, errW_none, errW_some] <;> rfl), by repeat (first | (with_reducible first | exact HB.out | apply ba_ | apply bn_ | apply bd_) | exact HB.out)⟩
 rw [if_neg c7] at H
 have c7b0 : decide (t634 < 0) = false := decide_eq_false c7
 clear c7
 replace H := Option.bind_eq_some_iff.mp H
 obtain ⟨t635, A100, H⟩ := H
 have A10 := Aside0.mk A100
 clear A100
 replace H := Option.bind_eq_some_iff.mp H
 obtain ⟨t638, A110, H⟩ := H
 have A11 := Aside0.mk A110
 clear A110
 replace H := Option.bind_eq_some_iff.mp H
 obtain ⟨⟨t641, t644, t645, t646, t647⟩, A120, H⟩ := H
 have A12 := Aside0.mk A120
 clear A120
 replace H := Option.bind_eq_some_iff.mp H
 obtain ⟨t649, A130, H⟩ := H
 have A13 := Aside0.mk A130
 clear A130
 replace H := Option.bind_eq_some_iff.mp H
 obtain ⟨t652, A140, H⟩ := H
 have A14 := Aside0.mk A140
 clear A140
 replace H := Option.bind_eq_some_iff.mp H
 obtain ⟨⟨t655, t658, t659, t660, t661⟩, A150, H⟩ := H
 have A15 := Aside0.mk A150
 clear A150
 replace H := Option.bind_eq_some_iff.mp H
 obtain ⟨t663, A160, H⟩ := H
 have A16 := Aside0.mk A160
 clear A160
 by_cases c17 : t663 = true
 ·
  subst c17
  rw [if_pos rfl] at H
  by_cases c18 : (t661 != t647) = true
  ·
   rw [if_pos c18] at H
   exact absurd H (by simp)
  rw [if_neg c18] at H
  have c18b0 : (t661 != t647) = false := by simpa using c18
  (try (have c18b1 : decide (t661 = t647) = true := by simpa using c18))
  (try (have c18b2 : (t661 == t647) = true := by simpa using c18))
  clear c18
  replace H := Option.bind_eq_some_iff.mp H
  obtain ⟨t664, A190, H⟩ := H
  have A19 := Aside0.mk A190
  clear A190
  replace H := Option.bind_eq_some_iff.mp H
  obtain ⟨t667, A200, H⟩ := H
  have A20 := Aside0.mk A200
  clear A200
  by_cases c21 : t667 = true
  ·
   subst c21
   rw [if_pos rfl] at H
   replace H := Option.bind_eq_some_iff.mp H
   obtain ⟨t668, A220, H⟩ := H
   have A22 := Aside0.mk A220
   clear A220
   replace H := Option.bind_eq_some_iff.mp H
   obtain ⟨t671, A230, H⟩ := H
   have A23 := Aside0.mk A230
   clear A230
   by_cases c24 : t671 = true
   ·
    subst c24
    rw [if_pos rfl] at H
    replace H := Option.bind_eq_some_iff.mp H
    obtain ⟨⟨t672, t673⟩, A250, H⟩ := H
    have A25 := Aside0.mk A250
    clear A250
    replace H := Option.bind_eq_some_iff.mp H
    obtain ⟨⟨t674, t675⟩, A260, H⟩ := H
    have A26 := Aside0.mk A260
    clear A260
    by_cases c27 : t674 < 0
    ·
     rw [if_pos c27] at H
     exact absurd H (by simp)
    rw [if_neg c27] at H
    have c27b0 : decide (t674 < 0) = false := decide_eq_false c27
    clear c27
    replace H := Option.bind_eq_some_iff.mp H
    obtain ⟨t676, A280, H⟩ := H
    have A28 := Aside0.mk A280
    clear A280
    by_cases c29 : t676 = true
    ·
     subst c29
     rw [if_pos rfl] at H
     replace H := Option.bind_eq_some_iff.mp H
     obtain ⟨⟨t677, t678⟩, A300, H⟩ := H
     have A30 := Aside0.mk A300
     clear A300
     replace H := Option.bind_eq_some_iff.mp H
     obtain ⟨t679, A310, H⟩ := H
     have A31 := Aside0.mk A310
     clear A310
     by_cases c32 : t679 < 0
     ·
      rw [if_pos c32] at H
      exact absurd H (by simp)
     rw [if_neg c32] at H
     have c32b0 : decide (t679 < 0) = false := decide_eq_false c32
     clear c32
     by_cases c33 : t679 = t677
     ·
      rw [if_pos c33] at H
      have c33b0 : (t679 == t677) = true := beq_iff_eq.mpr c33
      have c33b1 : (t679 != t677) = false := bne_eq_false_iff_eq.mpr c33
      clear c33
      replace H := Option.bind_eq_some_iff.mp H
      obtain ⟨t680, A340, H⟩ := H
      have A34 := Aside0.mk A340
      clear A340
      replace H := Option.bind_eq_some_iff.mp H
      obtain ⟨t683, A350, H⟩ := H
      have A35 := Aside0.mk A350
      clear A350
      replace H := Option.bind_eq_some_iff.mp H
      obtain ⟨⟨t686, t689, t690, t691, t692⟩, A360, H⟩ := H
      have A36 := Aside0.mk A360
      clear A360
      replace H := Option.bind_eq_some_iff.mp H
      obtain ⟨t694, A370, H⟩ := H
      have A37 := Aside0.mk A370
      clear A370
      by_cases c38 : t694 = true
      ·
       subst c38
       rw [if_pos rfl] at H
       by_cases c39 : (t692 != t647) = true
       ·
        rw [if_pos c39] at H
        exact absurd H (by simp)
       rw [if_neg c39] at H
       have c39b0 : (t692 != t647) = false := by simpa using c39
       (try (have c39b1 : decide (t692 = t647) = true := by simpa using c39))
       (try (have c39b2 : (t692 == t647) = true := by simpa using c39))
       clear c39
       replace H := Option.bind_eq_some_iff.mp H
       obtain ⟨t695, A400, H⟩ := H
       have A40 := Aside0.mk A400
       clear A400
       by_cases c41 : t695 < 0
       ·
        rw [if_pos c41] at H
        exact absurd H (by simp)
       rw [if_neg c41] at H
       have c41b0 : decide (t695 < 0) = false := decide_eq_false c41
       clear c41
       by_cases c42 : t695 = t677
       ·
        rw [if_pos c42] at H
        have c42b0 : (t695 == t677) = true := beq_iff_eq.mpr c42
        have c42b1 : (t695 != t677) = false := bne_eq_false_iff_eq.mpr c42
        clear c42
        obtain rfl := Option.some.inj H
        go_enter Try.func8, Try.ntmps8
        go_wp2_with (first | ((with_reducible refine gate_callee (f := 12) rfl ?_); refine goesL_ (some 19) rfl rfl Try.func12 (by kernel_rfl) rfl #[.slice A0 l0.length c0, .int .i64 1048576] rfl (by (try simp only [mp_]); first | done | rfl | (simp only [List.length_drop, List.length_take]; rfl)) ?_; (with_reducible refine (laws_szPartS.calls k _ _ l0 1048576 t633 _ ?side1 ?side2 A3.out).mono ?_); (case side1 => repeat (first | exact HR0.out | (with_reducible first | refine ca_ ?_ _ | refine cn_ ?_ _ | refine cd_ ?_))); (case side2 => exact HC0.out); rintro e w43 ⟨rfl, hb⟩; refine ⟨_, rfl, ?_⟩; have n0_ := Aside0.mk (below_step (by repeat (first | (with_reducible first | exact HB.out | apply ba_ | apply bn_ | apply bd_) | exact HB.out)) hb); clear HB; have HB := n0_; clear n0_; (try clear hb); (try clear hb2); (try clear hk); (try clear hi)) | ((with_reducible refine gate_callee (f := 13) rfl ?_); refine goesL_ (some 24) rfl rfl Try.func13 (by kernel_rfl) rfl #[.slice A1 l1.length c1, .int .i64 t633] rfl (by (try simp only [mp_]); first | done | rfl | (simp only [List.length_drop, List.length_take]; rfl)) ?_; (with_reducible refine (laws_szLabelS.calls k _ _ l1 t633 t634 _ ?side1 ?side2 A6.out).mono ?_); (case side1 => repeat (first | exact (Kd.C_below HR1.out HB.out) | (with_reducible first | refine ca_ ?_ _ | refine cn_ ?_ _ | refine cd_ ?_))); (case side2 => exact HC1.out); rintro e w44 ⟨rfl, hb⟩; refine ⟨_, rfl, ?_⟩; have n0_ := Aside0.mk (below_step (by repeat (first | (with_reducible first | exact HB.out | apply ba_ | apply bn_ | apply bd_) | exact HB.out)) hb); clear HB; have HB := n0_; clear n0_; (try clear hb); (try clear hb2); (try clear hk); (try clear hi)) | ((with_reducible refine gate_callee (f := 15) rfl ?_); refine goesL_ (some 29) rfl rfl Try.func15 (by kernel_rfl) rfl #[.slice A0 l0.length c0] rfl (by (try simp only [mp_]); first | done | rfl | (simp only [List.length_drop, List.length_take]; rfl)) ?_; (with_reducible refine (laws_toPartS.calls k _ _ l0 t635 _ ?side1 ?side2 A10.out).mono ?_); (case side1 => repeat (first | exact (Kd.C_below HR0.out HB.out) | (with_reducible first | refine ca_ ?_ _ | refine cn_ ?_ _ | refine cd_ ?_))); (case side2 => exact HC0.out); rintro e w45 ⟨v636, rfl, ho0, hb⟩; refine ⟨_, rfl, ?_⟩; obtain ⟨gbz636, hz636⟩ := Kd.S_name ho0; have HO637 := Aside0.mk (Kd.S_lower (Kd.S_gez hz636 ho0) (below_size (by repeat (first | (with_reducible first | exact HB.out | apply ba_ | apply bn_ | apply bd_) | exact HB.out)))); have n1_ := Aside0.mk (below_step (by repeat (first | (with_reducible first | exact HB.out | apply ba_ | apply bn_ | apply bd_) | exact HB.out)) hb); clear HB; have HB := n1_; clear n1_; (try clear hb); (try clear hb2); (try clear hk); (try clear hi); (try clear ho0)) | ((with_reducible refine gate_callee (f := 16) rfl ?_); refine goesL_ (some 31) rfl rfl Try.func16 (by kernel_rfl) rfl #[.slice A1 l1.length c1] rfl (by (try simp only [mp_]); first | done | rfl | (simp only [List.length_drop, List.length_take]; rfl)) ?_; (with_reducible refine (laws_toLabelS.calls k _ _ l1 t638 _ ?side1 ?side2 A11.out).mono ?_); (case side1 => repeat (first | exact (Kd.C_below HR1.out HB.out) | (with_reducible first | refine ca_ ?_ _ | refine cn_ ?_ _ | refine cd_ ?_))); (case side2 => exact HC1.out); rintro e w46 ⟨v639, rfl, ho0, hb⟩; refine ⟨_, rfl, ?_⟩; obtain ⟨gbz639, hz639⟩ := Kd.R_name ho0; have n0_ := Aside0.mk (Kd.S_below (Kd.S_ltz hz639 (sp_ HO637.out)) hb); have n1_ := Aside0.mk (Kd.R_lower (Kd.R_gez hz639 ho0) (below_size (by repeat (first | (with_reducible first | exact HB.out | apply ba_ | apply bn_ | apply bd_) | exact HB.out)))); have n2_ := Aside0.mk (below_step (by repeat (first | (with_reducible first | exact HB.out | apply ba_ | apply bn_ | apply bd_) | exact HB.out)) hb); clear HO637; clear HB; have HO637 := n0_; have HO640 := n1_; have HB := n2_; clear n0_ n1_ n2_; (try clear hb); (try clear hb2); (try clear hk); (try clear hi); (try clear ho0); obtain ⟨Ao47, co47, eo47⟩ := Kd.S_slice HO637.out; subst eo47; obtain ⟨Ao48, co48, eo48⟩ := Kd.R_slice HO640.out; subst eo48) | ((with_reducible refine gate_callee (f := 39) rfl ?_); refine goesL_ (some 32) rfl rfl Try.func39 (by kernel_rfl) rfl #[.slice Ao47 t635.length co47, .slice Ao48 t638.length co48] rfl (by (try simp only [mp_]); first | done | rfl | (simp only [List.length_drop, List.length_take]; rfl)) ?_; (with_reducible refine (spec_FindAlarm.calls k _ _ t635 _ _ t638 t641 t644 t645 t646 t647 _ ?side1 ?side2 ?side3 ?side4 A12.out).mono ?_); (case side1 => repeat (first | exact (Kd.S_reads' HO637.out).2.2 | (with_reducible first | refine ca_ ?_ _ | refine cn_ ?_ _ | refine cd_ ?_))); (case side2 => exact (Kd.S_reads' HO637.out).2.1); (case side3 => repeat (first | exact (Kd.R_reads' HO640.out).2.2 | (with_reducible first | refine ca_ ?_ _ | refine cn_ ?_ _ | refine cd_ ?_))); (case side4 => exact (Kd.R_reads' HO640.out).2.1); rintro e w49 ⟨v642, rfl, ho0, hb⟩; refine ⟨_, rfl, ?_⟩; obtain ⟨gbz642, hz642⟩ := Kd.R_name ho0; have n0_ := Aside0.mk (Kd.S_below (Kd.S_ltz hz642 (sp_ HO637.out)) hb); have n1_ := Aside0.mk (Kd.R_below (Kd.R_ltz hz642 (rp_ HO640.out)) hb); have n2_ := Aside0.mk (Kd.R_lower (Kd.R_gez hz642 ho0) (below_size (by repeat (first | (with_reducible first | exact HB.out | apply ba_ | apply bn_ | apply bd_) | exact HB.out)))); have n3_ := Aside0.mk (below_step (by repeat (first | (with_reducible first | exact HB.out | apply ba_ | apply bn_ | apply bd_) | exact HB.out)) hb); clear HO637; clear HO640; clear HB; have HO637 := n0_; have HO640 := n1_; have HO643 := n2_; have HB := n3_; clear n0_ n1_ n2_ n3_; (try clear hb); (try clear hb2); (try clear hk); (try clear hi); (try clear ho0)) | ((with_reducible refine gate_dst (N := 6) rfl ?_); refine box_event ?hg (N := 6) ?hd (cs := #[.slice none 0 0, .int .i64 0, .int .i64 0, .string (⟨#[]⟩ : ByteArray)]) (t := 43) ?hr ?_; (case hd => rfl); (case hg => rfl); (case hr => first | (go_simp; done) | (go_simp; rfl)); intro gb648 hg w50 hbox hb; have n0_ := Aside0.mk (Kd.R_below (rp_ HO643.out) hb); have n1_ := Aside0.mk (below_step (by repeat (first | (with_reducible first | exact HB.out | apply ba_ | apply bn_ | apply bd_) | exact HB.out)) hb); have n2_ := Aside0.mk (hbox); have n3_ := Aside0.mk ((by rw [hg]; exact (below_size (by repeat (first | (with_reducible first | exact HB.out | apply ba_ | apply bn_ | apply bd_) | exact HB.out))) : w.heap.size ≤ gb648)); have n4_ := n3_; clear HO643; clear HB; have HO643 := n0_; have HB := n1_; have BK648 := n2_; have GW648 := n3_; have GE648 := n4_; clear n0_ n1_ n2_ n3_ n4_; clear hb hbox hg; obtain ⟨Ao51, co51, eo51⟩ := Kd.R_slice HO643.out; subst eo51; have hcz52_0 : w50.cell? ⟨gb648, 0, none⟩ = some (.slice none 0 0) := (blk_cell BK648.out 0).trans rfl; have hcz52_1 : w50.cell? ⟨gb648, 1, none⟩ = some (.int .i64 0) := (blk_cell BK648.out 1).trans rfl; have hcz52_2 : w50.cell? ⟨gb648, 2, none⟩ = some (.int .i64 0) := (blk_cell BK648.out 2).trans rfl; have hcz52_3 : w50.cell? ⟨gb648, 3, none⟩ = some (.string (⟨#[]⟩ : ByteArray)) := (blk_cell BK648.out 3).trans rfl; have hfz52_0 := blk_frozen BK648.out 0; have hfz52_1 := blk_frozen BK648.out 1; have hfz52_2 := blk_frozen BK648.out 2; have hfz52_3 := blk_frozen BK648.out 3) | ((with_reducible refine gate_callee (f := 15) rfl ?_); refine goesL_ (some 36) rfl rfl Try.func15 (by kernel_rfl) rfl #[.slice A0 l0.length c0] rfl (by (try simp only [mp_]); first | done | rfl | (simp only [List.length_drop, List.length_take]; rfl)) ?_; (with_reducible refine (laws_toPartS.calls k _ _ l0 t649 _ ?side1 ?side2 A13.out).mono ?_); (case side1 => exact Kd.C_below HR0.out (by repeat (first | (with_reducible first | exact HB.out | apply ba_ | apply bn_ | apply bd_ | refine below_set ?_ GE648.out) | exact HB.out))); (case side2 => exact HC0.out); rintro e w53 ⟨v650, rfl, ho0, hb⟩; refine ⟨_, rfl, ?_⟩; obtain ⟨gbz650, hz650⟩ := Kd.S_name ho0; have n0_ := Aside0.mk (Kd.R_below (Kd.R_ltz hz650 (by (with_reducible repeat (first | apply Kd.R_alloc | apply Kd.R_drewN | apply Kd.R_drew)); exact (Kd.R_mono (Kd.R_far (p := ⟨gb648, 3, none⟩) (Kd.R_far (p := ⟨gb648, 2, none⟩) (Kd.R_far (p := ⟨gb648, 1, none⟩) (Kd.R_far (p := ⟨gb648, 0, none⟩) (Kd.R_types HO643.out BK648.out (by decide)) (fun _ hk => hk.2) (.slice Ao51 t641.length co51)) (fun _ hk => hk.2) (.int .i64 t644)) (fun _ hk => hk.2) (.int .i64 t645)) (fun _ hk => hk.2) (.string t646)) (fun _ h_ => h_.1)))) hb); have n1_ := Aside0.mk (Kd.S_lower (Kd.S_newB (Kd.S_gez hz650 ho0) (g := gb648) (o := .cells #[.slice Ao51 t641.length co51, .int .i64 t644, .int .i64 t645, .string t646] 43 (0, 0)) (by (with_reducible repeat (first | refine kn_ ?_ _ | refine kd_ ?_ | refine ka_ ?_ _)); refine blk_put (cs := #[.slice Ao51 t641.length co51, .int .i64 t644, .int .i64 t645, .string (⟨#[]⟩ : ByteArray)]) ?_ 3 _ rfl; (with_reducible repeat (first | refine kn_ ?_ _ | refine kd_ ?_ | refine ka_ ?_ _)); refine blk_put (cs := #[.slice Ao51 t641.length co51, .int .i64 t644, .int .i64 0, .string (⟨#[]⟩ : ByteArray)]) ?_ 2 _ rfl; (with_reducible repeat (first | refine kn_ ?_ _ | refine kd_ ?_ | refine ka_ ?_ _)); refine blk_put (cs := #[.slice Ao51 t641.length co51, .int .i64 0, .int .i64 0, .string (⟨#[]⟩ : ByteArray)]) ?_ 1 _ rfl; (with_reducible repeat (first | refine kn_ ?_ _ | refine kd_ ?_ | refine ka_ ?_ _)); refine blk_put (cs := #[.slice none 0 0, .int .i64 0, .int .i64 0, .string (⟨#[]⟩ : ByteArray)]) ?_ 0 _ rfl; (with_reducible repeat (first | refine kn_ ?_ _ | refine kd_ ?_ | refine ka_ ?_ _)); exact BK648.out)) (below_size (by repeat (first | (with_reducible first | exact HB.out | apply ba_ | apply bn_ | apply bd_ | refine below_set ?_ GE648.out) | exact HB.out)))); have n2_ := Aside0.mk (blk_below (g := gb648) (o := .cells #[.slice Ao51 t641.length co51, .int .i64 t644, .int .i64 t645, .string t646] 43 (0, 0)) (by (with_reducible repeat (first | refine kn_ ?_ _ | refine kd_ ?_ | refine ka_ ?_ _)); refine blk_put (cs := #[.slice Ao51 t641.length co51, .int .i64 t644, .int .i64 t645, .string (⟨#[]⟩ : ByteArray)]) ?_ 3 _ rfl; (with_reducible repeat (first | refine kn_ ?_ _ | refine kd_ ?_ | refine ka_ ?_ _)); refine blk_put (cs := #[.slice Ao51 t641.length co51, .int .i64 t644, .int .i64 0, .string (⟨#[]⟩ : ByteArray)]) ?_ 2 _ rfl; (with_reducible repeat (first | refine kn_ ?_ _ | refine kd_ ?_ | refine ka_ ?_ _)); refine blk_put (cs := #[.slice Ao51 t641.length co51, .int .i64 0, .int .i64 0, .string (⟨#[]⟩ : ByteArray)]) ?_ 1 _ rfl; (with_reducible repeat (first | refine kn_ ?_ _ | refine kd_ ?_ | refine ka_ ?_ _)); refine blk_put (cs := #[.slice none 0 0, .int .i64 0, .int .i64 0, .string (⟨#[]⟩ : ByteArray)]) ?_ 0 _ rfl; (with_reducible repeat (first | refine kn_ ?_ _ | refine kd_ ?_ | refine ka_ ?_ _)); exact BK648.out) hb); have n3_ := Aside0.mk (below_step (by repeat (first | (with_reducible first | exact HB.out | apply ba_ | apply bn_ | apply bd_ | refine below_set ?_ GE648.out) | exact HB.out)) hb); clear HO643; clear BK648; clear HB; have HO643 := n0_; have HO651 := n1_; have BK648 := n2_; have HB := n3_; clear n0_ n1_ n2_ n3_; (try clear hb); (try clear hb2); (try clear hk); (try clear hi); (try clear ho0)) | ((with_reducible refine gate_callee (f := 16) rfl ?_); refine goesL_ (some 38) rfl rfl Try.func16 (by kernel_rfl) rfl #[.slice A1 l1.length c1] rfl (by (try simp only [mp_]); first | done | rfl | (simp only [List.length_drop, List.length_take]; rfl)) ?_; (with_reducible refine (laws_toLabelS.calls k _ _ l1 t652 _ ?side1 ?side2 A14.out).mono ?_); (case side1 => repeat (first | exact (Kd.C_below HR1.out HB.out) | (with_reducible first | refine ca_ ?_ _ | refine cn_ ?_ _ | refine cd_ ?_))); (case side2 => exact HC1.out); rintro e w54 ⟨v653, rfl, ho0, hb⟩; refine ⟨_, rfl, ?_⟩; obtain ⟨gbz653, hz653⟩ := Kd.R_name ho0; have n0_ := Aside0.mk (Kd.R_below (Kd.R_ltz hz653 (rp_ HO643.out)) hb); have n1_ := Aside0.mk (Kd.S_below (Kd.S_ltz hz653 (sp_ HO651.out)) hb); have n2_ := Aside0.mk (Kd.R_lower (Kd.R_gez hz653 ho0) (below_size (by repeat (first | (with_reducible first | exact HB.out | apply ba_ | apply bn_ | apply bd_ | refine below_set ?_ GE648.out) | exact HB.out)))); have n3_ := Aside0.mk (bb_ BK648.out hb); have n4_ := Aside0.mk (below_step (by repeat (first | (with_reducible first | exact HB.out | apply ba_ | apply bn_ | apply bd_ | refine below_set ?_ GE648.out) | exact HB.out)) hb); clear HO643; clear HO651; clear BK648; clear HB; have HO643 := n0_; have HO651 := n1_; have HO654 := n2_; have BK648 := n3_; have HB := n4_; clear n0_ n1_ n2_ n3_ n4_; (try clear hb); (try clear hb2); (try clear hk); (try clear hi); (try clear ho0); obtain ⟨Ao55, co55, eo55⟩ := Kd.S_slice HO651.out; subst eo55; obtain ⟨Ao56, co56, eo56⟩ := Kd.R_slice HO654.out; subst eo56) | ((with_reducible refine gate_callee (f := 40) rfl ?_); refine goesL_ (some 42) rfl rfl Try.func40 (by kernel_rfl) rfl #[.slice Ao55 t649.length co55, .slice Ao56 t652.length co56] rfl (by (try simp only [mp_]); first | done | rfl | (simp only [List.length_drop, List.length_take]; rfl)) ?_; (with_reducible refine (impl_FindAlarm.calls k _ _ t649 _ _ t652 t655 t658 t659 t660 t661 _ ?side1 ?side2 ?side3 ?side4 A15.out).mono ?_); (case side1 => repeat (first | exact (Kd.S_reads' HO651.out).2.2 | (with_reducible first | refine ca_ ?_ _ | refine cn_ ?_ _ | refine cd_ ?_))); (case side2 => exact (Kd.S_reads' HO651.out).2.1); (case side3 => repeat (first | exact (Kd.R_reads' HO654.out).2.2 | (with_reducible first | refine ca_ ?_ _ | refine cn_ ?_ _ | refine cd_ ?_))); (case side4 => exact (Kd.R_reads' HO654.out).2.1); rintro e w57 ⟨v656, rfl, ho0, hb⟩; refine ⟨_, rfl, ?_⟩; obtain ⟨gbz656, hz656⟩ := Kd.R_name ho0; have n0_ := Aside0.mk (Kd.R_below (Kd.R_ltz hz656 (rp_ HO643.out)) hb); have n1_ := Aside0.mk (Kd.S_below (Kd.S_ltz hz656 (sp_ HO651.out)) hb); have n2_ := Aside0.mk (Kd.R_below (Kd.R_ltz hz656 (rp_ HO654.out)) hb); have n3_ := Aside0.mk (Kd.R_lower (Kd.R_gez hz656 ho0) (below_size (by repeat (first | (with_reducible first | exact HB.out | apply ba_ | apply bn_ | apply bd_ | refine below_set ?_ GE648.out) | exact HB.out)))); have n4_ := Aside0.mk (bb_ BK648.out hb); have n5_ := Aside0.mk (below_step (by repeat (first | (with_reducible first | exact HB.out | apply ba_ | apply bn_ | apply bd_ | refine below_set ?_ GE648.out) | exact HB.out)) hb); clear HO643; clear HO651; clear HO654; clear BK648; clear HB; have HO643 := n0_; have HO651 := n1_; have HO654 := n2_; have HO657 := n3_; have BK648 := n4_; have HB := n5_; clear n0_ n1_ n2_ n3_ n4_ n5_; (try clear hb); (try clear hb2); (try clear hk); (try clear hi); (try clear ho0)) | ((with_reducible refine gate_dst (N := 10) rfl ?_); refine box_event ?hg (N := 10) ?hd (cs := #[.slice none 0 0, .int .i64 0, .int .i64 0, .string (⟨#[]⟩ : ByteArray)]) (t := 43) ?hr ?_; (case hd => rfl); (case hg => rfl); (case hr => first | (go_simp; done) | (go_simp; rfl)); intro gb662 hg w58 hbox hb; have n0_ := Aside0.mk (Kd.R_below (rp_ HO643.out) hb); have n1_ := Aside0.mk (Kd.S_below (Kd.S_elderB (sp_ HO651.out) gb662 (Nat.le_of_eq hg.symm)) hb); have n2_ := Aside0.mk (Kd.R_below (rp_ HO654.out) hb); have n3_ := Aside0.mk (Kd.R_below (rp_ HO657.out) hb); have n4_ := Aside0.mk (bb_ BK648.out hb); have n5_ := Aside0.mk (below_step (by repeat (first | (with_reducible first | exact HB.out | apply ba_ | apply bn_ | apply bd_ | refine below_set ?_ GE648.out) | exact HB.out)) hb); have n6_ := Aside0.mk (hbox); have n7_ := Aside0.mk ((by rw [hg]; exact (below_size (by repeat (first | (with_reducible first | exact HB.out | apply ba_ | apply bn_ | apply bd_ | refine below_set ?_ GE648.out) | exact HB.out))) : w.heap.size ≤ gb662)); have n8_ := n7_; have n9_ := Aside0.mk (nl_ BK648.out hg); have n10_ := Aside0.mk (ng_ BK648.out hg); clear HO643; clear HO651; clear HO654; clear HO657; clear BK648; clear HB; have HO643 := n0_; have HO651 := n1_; have HO654 := n2_; have HO657 := n3_; have BK648 := n4_; have HB := n5_; have BK662 := n6_; have GW662 := n7_; have GE662 := n8_; have NB648_662 := n9_; have NB662_648 := n10_; clear n0_ n1_ n2_ n3_ n4_ n5_ n6_ n7_ n8_ n9_ n10_; clear hb hbox hg; obtain ⟨Ao59, co59, eo59⟩ := Kd.R_slice HO657.out; subst eo59; have hnb60 := NB662_648.out; have hnc60 := NB648_662.out; have hcz61_0 : w58.cell? ⟨gb662, 0, none⟩ = some (.slice none 0 0) := (blk_cell BK662.out 0).trans rfl; have hcz61_1 : w58.cell? ⟨gb662, 1, none⟩ = some (.int .i64 0) := (blk_cell BK662.out 1).trans rfl; have hcz61_2 : w58.cell? ⟨gb662, 2, none⟩ = some (.int .i64 0) := (blk_cell BK662.out 2).trans rfl; have hcz61_3 : w58.cell? ⟨gb662, 3, none⟩ = some (.string (⟨#[]⟩ : ByteArray)) := (blk_cell BK662.out 3).trans rfl; have hfz61_0 := blk_frozen BK662.out 0; have hfz61_1 := blk_frozen BK662.out 1; have hfz61_2 := blk_frozen BK662.out 2; have hfz61_3 := blk_frozen BK662.out 3; have hcz62_0 : w58.cell? ⟨gb648, 0, none⟩ = some (.slice Ao51 t641.length co51) := (blk_cell BK648.out 0).trans rfl; have hcz62_1 : w58.cell? ⟨gb648, 1, none⟩ = some (.int .i64 t644) := (blk_cell BK648.out 1).trans rfl; have hcz62_2 : w58.cell? ⟨gb648, 2, none⟩ = some (.int .i64 t645) := (blk_cell BK648.out 2).trans rfl; have hcz62_3 : w58.cell? ⟨gb648, 3, none⟩ = some (.string t646) := (blk_cell BK648.out 3).trans rfl; have hfz62_0 := blk_frozen BK648.out 0; have hfz62_1 := blk_frozen BK648.out 1; have hfz62_2 := blk_frozen BK648.out 2; have hfz62_3 := blk_frozen BK648.out 3) | ((with_reducible refine gate_callee (f := 34) rfl ?_); refine goesL_ (some 47) rfl rfl Try.func34 (by kernel_rfl) rfl #[.agg #[.slice Ao59 t655.length co59, .int .i64 t658, .int .i64 t659, .string t660], .agg #[.slice Ao51 t641.length co51, .int .i64 t644, .int .i64 t645, .string t646]] rfl (by (try simp only [mp_]); first | done | rfl | (simp only [List.length_drop, List.length_take]; rfl)) ?_; (with_reducible refine (laws_eqAlarm.calls k _ _ t655 t658 t659 t660 _ _ t641 t644 t645 t646 true _ ?side1 ?side2 ?side3 ?side4 A16.out).mono ?_); (case side1 => refine (Kd.R_reads' (e := 88) (base := w.heap.size) (ok := fun k_ => (True ∧ gbz656 ≤ k_)) (n := t655.length) (c := co59) ?_).2.2; exact (by (with_reducible repeat (first | apply Kd.R_alloc | apply Kd.R_drewN | apply Kd.R_drew)); exact (Kd.R_mono (Kd.R_far (p := ⟨gb662, 3, none⟩) (Kd.R_far (p := ⟨gb662, 2, none⟩) (Kd.R_far (p := ⟨gb662, 1, none⟩) (Kd.R_far (p := ⟨gb662, 0, none⟩) (Kd.R_types HO657.out BK662.out (by decide)) (fun _ hk => hk.2) (.slice Ao59 t655.length co59)) (fun _ hk => hk.2) (.int .i64 t658)) (fun _ hk => hk.2) (.int .i64 t659)) (fun _ hk => hk.2) (.string t660)) (fun _ h_ => h_.1)))); (case side2 => exact (Kd.R_reads' HO657.out).2.1); (case side3 => refine (Kd.R_reads' (e := 88) (base := w.heap.size) (ok := fun k_ => ((((True ∧ gbz642 ≤ k_) ∧ k_ < gbz650) ∧ k_ < gbz653) ∧ k_ < gbz656)) (n := t641.length) (c := co51) ?_).2.2; exact (by (with_reducible repeat (first | apply Kd.R_alloc | apply Kd.R_drewN | apply Kd.R_drew)); exact (Kd.R_mono (Kd.R_far (p := ⟨gb662, 3, none⟩) (Kd.R_far (p := ⟨gb662, 2, none⟩) (Kd.R_far (p := ⟨gb662, 1, none⟩) (Kd.R_far (p := ⟨gb662, 0, none⟩) (Kd.R_types HO643.out BK662.out (by decide)) (fun _ hk => hk.2) (.slice Ao59 t655.length co59)) (fun _ hk => hk.2) (.int .i64 t658)) (fun _ hk => hk.2) (.int .i64 t659)) (fun _ hk => hk.2) (.string t660)) (fun _ h_ => h_.1)))); (case side4 => exact (Kd.R_reads' HO643.out).2.1); rintro e w63 ⟨rfl, hb⟩; refine ⟨_, rfl, ?_⟩; have n0_ := Aside0.mk (Kd.R_below (by (with_reducible repeat (first | apply Kd.R_alloc | apply Kd.R_drewN | apply Kd.R_drew)); exact (Kd.R_mono (Kd.R_far (p := ⟨gb662, 3, none⟩) (Kd.R_far (p := ⟨gb662, 2, none⟩) (Kd.R_far (p := ⟨gb662, 1, none⟩) (Kd.R_far (p := ⟨gb662, 0, none⟩) (Kd.R_types HO643.out BK662.out (by decide)) (fun _ hk => hk.2) (.slice Ao59 t655.length co59)) (fun _ hk => hk.2) (.int .i64 t658)) (fun _ hk => hk.2) (.int .i64 t659)) (fun _ hk => hk.2) (.string t660)) (fun _ h_ => h_.1))) hb); have n1_ := Aside0.mk (Kd.S_below (by (with_reducible repeat (first | apply Kd.S_alloc | apply Kd.S_drewN | apply Kd.S_drew)); exact (Kd.S_mono (Kd.S_far (p := ⟨gb662, 3, none⟩) (Kd.S_far (p := ⟨gb662, 2, none⟩) (Kd.S_far (p := ⟨gb662, 1, none⟩) (Kd.S_far (p := ⟨gb662, 0, none⟩) (Kd.S_mono HO651.out (fun k_ hk => (⟨hk, hk.2⟩ : _ ∧ k_ ≠ gb662))) (fun _ hk => hk.2) (.slice Ao59 t655.length co59)) (fun _ hk => hk.2) (.int .i64 t658)) (fun _ hk => hk.2) (.int .i64 t659)) (fun _ hk => hk.2) (.string t660)) (fun _ h_ => h_.1))) hb); have n2_ := Aside0.mk (Kd.R_below (by (with_reducible repeat (first | apply Kd.R_alloc | apply Kd.R_drewN | apply Kd.R_drew)); exact (Kd.R_mono (Kd.R_far (p := ⟨gb662, 3, none⟩) (Kd.R_far (p := ⟨gb662, 2, none⟩) (Kd.R_far (p := ⟨gb662, 1, none⟩) (Kd.R_far (p := ⟨gb662, 0, none⟩) (Kd.R_types HO654.out BK662.out (by decide)) (fun _ hk => hk.2) (.slice Ao59 t655.length co59)) (fun _ hk => hk.2) (.int .i64 t658)) (fun _ hk => hk.2) (.int .i64 t659)) (fun _ hk => hk.2) (.string t660)) (fun _ h_ => h_.1))) hb); have n3_ := Aside0.mk (Kd.R_below (by (with_reducible repeat (first | apply Kd.R_alloc | apply Kd.R_drewN | apply Kd.R_drew)); exact (Kd.R_mono (Kd.R_far (p := ⟨gb662, 3, none⟩) (Kd.R_far (p := ⟨gb662, 2, none⟩) (Kd.R_far (p := ⟨gb662, 1, none⟩) (Kd.R_far (p := ⟨gb662, 0, none⟩) (Kd.R_types HO657.out BK662.out (by decide)) (fun _ hk => hk.2) (.slice Ao59 t655.length co59)) (fun _ hk => hk.2) (.int .i64 t658)) (fun _ hk => hk.2) (.int .i64 t659)) (fun _ hk => hk.2) (.string t660)) (fun _ h_ => h_.1))) hb); have n4_ := Aside0.mk (blk_below (g := gb648) (o := .cells #[.slice Ao51 t641.length co51, .int .i64 t644, .int .i64 t645, .string t646] 43 (0, 0)) (by (with_reducible repeat (first | refine kn_ ?_ _ | refine kd_ ?_ | refine ka_ ?_ _)); refine blk_far ?_ NB648_662.out _; (with_reducible repeat (first | refine kn_ ?_ _ | refine kd_ ?_ | refine ka_ ?_ _)); refine blk_far ?_ NB648_662.out _; (with_reducible repeat (first | refine kn_ ?_ _ | refine kd_ ?_ | refine ka_ ?_ _)); refine blk_far ?_ NB648_662.out _; (with_reducible repeat (first | refine kn_ ?_ _ | refine kd_ ?_ | refine ka_ ?_ _)); refine blk_far ?_ NB648_662.out _; (with_reducible repeat (first | refine kn_ ?_ _ | refine kd_ ?_ | refine ka_ ?_ _)); exact BK648.out) hb); have n5_ := Aside0.mk (blk_below (g := gb662) (o := .cells #[.slice Ao59 t655.length co59, .int .i64 t658, .int .i64 t659, .string t660] 43 (0, 0)) (by (with_reducible repeat (first | refine kn_ ?_ _ | refine kd_ ?_ | refine ka_ ?_ _)); refine blk_put (cs := #[.slice Ao59 t655.length co59, .int .i64 t658, .int .i64 t659, .string (⟨#[]⟩ : ByteArray)]) ?_ 3 _ rfl; (with_reducible repeat (first | refine kn_ ?_ _ | refine kd_ ?_ | refine ka_ ?_ _)); refine blk_put (cs := #[.slice Ao59 t655.length co59, .int .i64 t658, .int .i64 0, .string (⟨#[]⟩ : ByteArray)]) ?_ 2 _ rfl; (with_reducible repeat (first | refine kn_ ?_ _ | refine kd_ ?_ | refine ka_ ?_ _)); refine blk_put (cs := #[.slice Ao59 t655.length co59, .int .i64 0, .int .i64 0, .string (⟨#[]⟩ : ByteArray)]) ?_ 1 _ rfl; (with_reducible repeat (first | refine kn_ ?_ _ | refine kd_ ?_ | refine ka_ ?_ _)); refine blk_put (cs := #[.slice none 0 0, .int .i64 0, .int .i64 0, .string (⟨#[]⟩ : ByteArray)]) ?_ 0 _ rfl; (with_reducible repeat (first | refine kn_ ?_ _ | refine kd_ ?_ | refine ka_ ?_ _)); exact BK662.out) hb); have n6_ := Aside0.mk (below_step (by repeat (first | (with_reducible first | exact HB.out | apply ba_ | apply bn_ | apply bd_ | refine below_set ?_ GE648.out | refine below_set ?_ GE662.out) | exact HB.out)) hb); clear HO643; clear HO651; clear HO654; clear HO657; clear BK648; clear BK662; clear HB; have HO643 := n0_; have HO651 := n1_; have HO654 := n2_; have HO657 := n3_; have BK648 := n4_; have BK662 := n5_; have HB := n6_; clear n0_ n1_ n2_ n3_ n4_ n5_ n6_; (try clear hb); (try clear hb2); (try clear hk); (try clear hi)) | ((with_reducible refine gate_callee (f := 15) rfl ?_); refine goesL_ (some 56) rfl rfl Try.func15 (by kernel_rfl) rfl #[.slice A0 l0.length c0] rfl (by (try simp only [mp_]); first | done | rfl | (simp only [List.length_drop, List.length_take]; rfl)) ?_; (with_reducible refine (laws_toPartS.calls k _ _ l0 t664 _ ?side1 ?side2 A19.out).mono ?_); (case side1 => repeat (first | exact (Kd.C_below HR0.out HB.out) | (with_reducible first | refine ca_ ?_ _ | refine cn_ ?_ _ | refine cd_ ?_))); (case side2 => exact HC0.out); rintro e w64 ⟨v665, rfl, ho0, hb⟩; refine ⟨_, rfl, ?_⟩; obtain ⟨gbz665, hz665⟩ := Kd.S_name ho0; have n0_ := Aside0.mk (Kd.R_below (Kd.R_ltz hz665 (rp_ HO643.out)) hb); have n1_ := Aside0.mk (Kd.S_below (Kd.S_ltz hz665 (sp_ HO651.out)) hb); have n2_ := Aside0.mk (Kd.R_below (Kd.R_ltz hz665 (rp_ HO654.out)) hb); have n3_ := Aside0.mk (Kd.R_below (Kd.R_ltz hz665 (rp_ HO657.out)) hb); have n4_ := Aside0.mk (Kd.S_lower (Kd.S_newB (Kd.S_newB (Kd.S_gez hz665 ho0) (g := gb648) (o := .cells #[.slice Ao51 t641.length co51, .int .i64 t644, .int .i64 t645, .string t646] 43 (0, 0)) (pb_ BK648.out)) (g := gb662) (o := .cells #[.slice Ao59 t655.length co59, .int .i64 t658, .int .i64 t659, .string t660] 43 (0, 0)) (pb_ BK662.out)) (below_size (by repeat (first | (with_reducible first | exact HB.out | apply ba_ | apply bn_ | apply bd_ | refine below_set ?_ GE648.out | refine below_set ?_ GE662.out) | exact HB.out)))); have n5_ := Aside0.mk (bb_ BK648.out hb); have n6_ := Aside0.mk (bb_ BK662.out hb); have n7_ := Aside0.mk (below_step (by repeat (first | (with_reducible first | exact HB.out | apply ba_ | apply bn_ | apply bd_ | refine below_set ?_ GE648.out | refine below_set ?_ GE662.out) | exact HB.out)) hb); clear HO643; clear HO651; clear HO654; clear HO657; clear BK648; clear BK662; clear HB; have HO643 := n0_; have HO651 := n1_; have HO654 := n2_; have HO657 := n3_; have HO666 := n4_; have BK648 := n5_; have BK662 := n6_; have HB := n7_; clear n0_ n1_ n2_ n3_ n4_ n5_ n6_ n7_; (try clear hb); (try clear hb2); (try clear hk); (try clear hi); (try clear ho0); obtain ⟨Ao65, co65, eo65⟩ := Kd.S_slice HO666.out; subst eo65) | ((with_reducible refine gate_callee (f := 18) rfl ?_); refine goesL_ (some 57) rfl rfl Try.func18 (by kernel_rfl) rfl #[.slice Ao55 t649.length co55, .slice Ao65 t664.length co65] rfl (by (try simp only [mp_]); first | done | rfl | (simp only [List.length_drop, List.length_take]; rfl)) ?_; (with_reducible refine (laws_eqPartS.calls k _ _ t649 _ _ t664 true _ ?side1 ?side2 ?side3 ?side4 A20.out).mono ?_); (case side1 => repeat (first | exact (Kd.S_reads' HO651.out).2.2 | (with_reducible first | refine ca_ ?_ _ | refine cn_ ?_ _ | refine cd_ ?_))); (case side2 => exact (Kd.S_reads' HO651.out).2.1); (case side3 => repeat (first | exact (Kd.S_reads' HO666.out).2.2 | (with_reducible first | refine ca_ ?_ _ | refine cn_ ?_ _ | refine cd_ ?_))); (case side4 => exact (Kd.S_reads' HO666.out).2.1); rintro e w66 ⟨rfl, hb⟩; refine ⟨_, rfl, ?_⟩; have n0_ := Aside0.mk (Kd.R_below (rp_ HO643.out) hb); have n1_ := Aside0.mk (Kd.S_below (sp_ HO651.out) hb); have n2_ := Aside0.mk (Kd.R_below (rp_ HO654.out) hb); have n3_ := Aside0.mk (Kd.R_below (rp_ HO657.out) hb); have n4_ := Aside0.mk (Kd.S_below (sp_ HO666.out) hb); have n5_ := Aside0.mk (bb_ BK648.out hb); have n6_ := Aside0.mk (bb_ BK662.out hb); have n7_ := Aside0.mk (below_step (by repeat (first | (with_reducible first | exact HB.out | apply ba_ | apply bn_ | apply bd_ | refine below_set ?_ GE648.out | refine below_set ?_ GE662.out) | exact HB.out)) hb); clear HO643; clear HO651; clear HO654; clear HO657; clear HO666; clear BK648; clear BK662; clear HB; have HO643 := n0_; have HO651 := n1_; have HO654 := n2_; have HO657 := n3_; have HO666 := n4_; have BK648 := n5_; have BK662 := n6_; have HB := n7_; clear n0_ n1_ n2_ n3_ n4_ n5_ n6_ n7_; (try clear hb); (try clear hb2); (try clear hk); (try clear hi)) | ((with_reducible refine gate_callee (f := 16) rfl ?_); refine goesL_ (some 61) rfl rfl Try.func16 (by kernel_rfl) rfl #[.slice A1 l1.length c1] rfl (by (try simp only [mp_]); first | done | rfl | (simp only [List.length_drop, List.length_take]; rfl)) ?_; (with_reducible refine (laws_toLabelS.calls k _ _ l1 t668 _ ?side1 ?side2 A22.out).mono ?_); (case side1 => repeat (first | exact (Kd.C_below HR1.out HB.out) | (with_reducible first | refine ca_ ?_ _ | refine cn_ ?_ _ | refine cd_ ?_))); (case side2 => exact HC1.out); rintro e w67 ⟨v669, rfl, ho0, hb⟩; refine ⟨_, rfl, ?_⟩; obtain ⟨gbz669, hz669⟩ := Kd.R_name ho0; have n0_ := Aside0.mk (Kd.R_below (Kd.R_ltz hz669 (rp_ HO643.out)) hb); have n1_ := Aside0.mk (Kd.S_below (Kd.S_ltz hz669 (sp_ HO651.out)) hb); have n2_ := Aside0.mk (Kd.R_below (Kd.R_ltz hz669 (rp_ HO654.out)) hb); have n3_ := Aside0.mk (Kd.R_below (Kd.R_ltz hz669 (rp_ HO657.out)) hb); have n4_ := Aside0.mk (Kd.R_lower (Kd.R_gez hz669 ho0) (below_size (by repeat (first | (with_reducible first | exact HB.out | apply ba_ | apply bn_ | apply bd_ | refine below_set ?_ GE648.out | refine below_set ?_ GE662.out) | exact HB.out)))); have n5_ := Aside0.mk (bb_ BK648.out hb); have n6_ := Aside0.mk (bb_ BK662.out hb); have n7_ := Aside0.mk (below_step (by repeat (first | (with_reducible first | exact HB.out | apply ba_ | apply bn_ | apply bd_ | refine below_set ?_ GE648.out | refine below_set ?_ GE662.out) | exact HB.out)) hb); clear HO643; clear HO651; clear HO654; clear HO657; clear BK648; clear BK662; clear HB; have HO643 := n0_; have HO651 := n1_; have HO654 := n2_; have HO657 := n3_; have HO670 := n4_; have BK648 := n5_; have BK662 := n6_; have HB := n7_; clear n0_ n1_ n2_ n3_ n4_ n5_ n6_ n7_; (try clear hb); (try clear hb2); (try clear hk); (try clear hi); (try clear ho0); obtain ⟨Ao68, co68, eo68⟩ := Kd.R_slice HO670.out; subst eo68) | ((with_reducible refine gate_callee (f := 19) rfl ?_); refine goesL_ (some 62) rfl rfl Try.func19 (by kernel_rfl) rfl #[.slice Ao56 t652.length co56, .slice Ao68 t668.length co68] rfl (by (try simp only [mp_]); first | done | rfl | (simp only [List.length_drop, List.length_take]; rfl)) ?_; (with_reducible refine (laws_eqLabelS.calls k _ _ t652 _ _ t668 true _ ?side1 ?side2 ?side3 ?side4 A23.out).mono ?_); (case side1 => repeat (first | exact (Kd.R_reads' HO654.out).2.2 | (with_reducible first | refine ca_ ?_ _ | refine cn_ ?_ _ | refine cd_ ?_))); (case side2 => exact (Kd.R_reads' HO654.out).2.1); (case side3 => repeat (first | exact (Kd.R_reads' HO670.out).2.2 | (with_reducible first | refine ca_ ?_ _ | refine cn_ ?_ _ | refine cd_ ?_))); (case side4 => exact (Kd.R_reads' HO670.out).2.1); rintro e w69 ⟨rfl, hb⟩; refine ⟨_, rfl, ?_⟩; have n0_ := Aside0.mk (Kd.R_below (rp_ HO643.out) hb); have n1_ := Aside0.mk (Kd.S_below (sp_ HO651.out) hb); have n2_ := Aside0.mk (Kd.R_below (rp_ HO654.out) hb); have n3_ := Aside0.mk (Kd.R_below (rp_ HO657.out) hb); have n4_ := Aside0.mk (Kd.R_below (rp_ HO670.out) hb); have n5_ := Aside0.mk (bb_ BK648.out hb); have n6_ := Aside0.mk (bb_ BK662.out hb); have n7_ := Aside0.mk (below_step (by repeat (first | (with_reducible first | exact HB.out | apply ba_ | apply bn_ | apply bd_ | refine below_set ?_ GE648.out | refine below_set ?_ GE662.out) | exact HB.out)) hb); clear HO643; clear HO651; clear HO654; clear HO657; clear HO670; clear BK648; clear BK662; clear HB; have HO643 := n0_; have HO651 := n1_; have HO654 := n2_; have HO657 := n3_; have HO670 := n4_; have BK648 := n5_; have BK662 := n6_; have HB := n7_; clear n0_ n1_ n2_ n3_ n4_ n5_ n6_ n7_; (try clear hb); (try clear hb2); (try clear hk); (try clear hi); obtain ⟨PXP70, hPXP70, hPlP70⟩ := Kd.S_fp HO651.out) | ((with_reducible refine gate_callee (f := 41) rfl ?_); refine goesL_ (some 66) rfl rfl Try.func41 (by kernel_rfl) rfl #[.slice Ao55 t649.length co55, .int .i64 1] rfl (by (try simp only [mp_]); first | done | rfl | (simp only [List.length_drop, List.length_take]; rfl)) ?_; (with_reducible refine (laws_markPartS.calls k PXP70 (.slice Ao55 t649.length co55) t649 1 t672 t673 w _ ?side1 ?side2 A25.out).mono ?_); (case side1 => repeat (first | (with_reducible first | exact HB.out | apply ba_ | apply bn_ | apply bd_ | refine below_set ?_ GE648.out | refine below_set ?_ GE662.out) | exact HB.out)); (case side2 => exact hPXP70); rintro e w71 ⟨rfl, hy0, hb, hkp⟩; refine ⟨_, rfl, ?_⟩; have n0_ := Aside0.mk (Kd.R_mono (ok' := fun k_ => gbz642 ≤ k_ ∧ k_ < gbz650 ∧ k_ < gbz653 ∧ k_ < gbz656 ∧ k_ < gbz665 ∧ k_ < gbz669) (Kd.R_keptB (HO643.out) hkp (fun k_ hk_ hs_ => (fun e_ => Nat.lt_irrefl _ (Nat.lt_of_lt_of_le hk_.1.1.1.1.2 (hPlP70 _ e_).1.1.1.1.1.1.1.2)) hs_)) (fun k_ hk_ => ⟨hk_.1.1.1.1.1.1.2, hk_.1.1.1.1.1.2, hk_.1.1.1.1.2, hk_.1.1.1.2, hk_.1.1.2, hk_.1.2⟩)); have n1_ := Aside0.mk (blk_kept (pb_ BK648.out) hkp (fun hs_ => (fun e_ => ((hPlP70 _ e_).1.1.1.1.1.1.2) rfl) hs_)); have n2_ := Aside0.mk (Kd.S_mono hy0 (fun k_ hk_ => (hPlP70 k_ hk_).1)); have n3_ := Aside0.mk (Kd.R_mono (ok' := fun k_ => gbz653 ≤ k_ ∧ k_ < gbz656 ∧ k_ < gbz665 ∧ k_ < gbz669) (Kd.R_keptB (HO654.out) hkp (fun k_ hk_ hs_ => (fun e_ => Nat.lt_irrefl _ (Nat.lt_of_lt_of_le (hPlP70 _ e_).1.1.1.1.1.2 hk_.1.1.1.2)) hs_)) (fun k_ hk_ => ⟨hk_.1.1.1.1.2, hk_.1.1.1.2, hk_.1.1.2, hk_.1.2⟩)); have n4_ := Aside0.mk (Kd.R_mono (ok' := fun k_ => gbz656 ≤ k_ ∧ k_ < gbz665 ∧ k_ < gbz669) (Kd.R_keptB (HO657.out) hkp (fun k_ hk_ hs_ => (fun e_ => Nat.lt_irrefl _ (Nat.lt_of_lt_of_le (hPlP70 _ e_).1.1.1.1.2 hk_.1.1.2)) hs_)) (fun k_ hk_ => ⟨hk_.1.1.1.2, hk_.1.1.2, hk_.1.2⟩)); have n5_ := Aside0.mk (blk_kept (pb_ BK662.out) hkp (fun hs_ => (fun e_ => ((hPlP70 _ e_).1.1.1.2) rfl) hs_)); have n6_ := Aside0.mk (hb); clear HO643; clear BK648; clear HO651; clear HO654; clear HO657; clear BK662; clear HB; have HO643 := n0_; have BK648 := n1_; have HO651 := n2_; have HO654 := n3_; have HO657 := n4_; have BK662 := n5_; have HB := n6_; clear n0_ n1_ n2_ n3_ n4_ n5_ n6_; (try clear hb); (try clear hkp); (try clear hy0); obtain ⟨PXP72, hPXP72, hPlP72⟩ := Kd.R_fpt rfl HO654.out) | ((with_reducible refine gate_callee (f := 36) rfl ?_); refine goesL_ (some 69) rfl rfl Try.func36 (by kernel_rfl) rfl #[.slice Ao56 t652.length co56, .int .i64 t672] rfl (by (try simp only [mp_]); first | done | rfl | (simp only [List.length_drop, List.length_take]; rfl)) ?_; (with_reducible refine (laws_markLabelS.calls k PXP72 (.slice Ao56 t652.length co56) t652 t672 t674 t675 w _ ?side1 ?side2 A26.out).mono ?_); (case side1 => repeat (first | (with_reducible first | exact HB.out | apply ba_ | apply bn_ | apply bd_ | refine below_set ?_ GE648.out | refine below_set ?_ GE662.out) | exact HB.out)); (case side2 => exact hPXP72); rintro e w73 ⟨rfl, hy0, hb, hkp⟩; refine ⟨_, rfl, ?_⟩; have n0_ := Aside0.mk (Kd.R_mono (ok' := fun k_ => gbz642 ≤ k_ ∧ k_ < gbz650 ∧ k_ < gbz653 ∧ k_ < gbz656 ∧ k_ < gbz665 ∧ k_ < gbz669) (Kd.R_keptB (HO643.out) hkp (fun k_ hk_ hs_ => (fun e_ => Nat.lt_irrefl _ (Nat.lt_of_lt_of_le hk_.2.2.1 (hPlP72 _ e_).1.1.1)) hs_)) (fun k_ hk_ => ⟨hk_.1.1, hk_.1.2.1, hk_.1.2.2.1, hk_.1.2.2.2.1, hk_.1.2.2.2.2.1, hk_.1.2.2.2.2.2⟩)); have n1_ := Aside0.mk (blk_kept (pb_ BK648.out) hkp (fun hs_ => (fun e_ => no_blk (pb_ BK648.out) (by decide) (hPlP72 _ e_).2.2) hs_)); have n2_ := Aside0.mk (Kd.R_reok rfl hy0 (fun k_ e_ => HO654.out.1 k_ e_)); have n3_ := Aside0.mk (Kd.R_mono (ok' := fun k_ => gbz656 ≤ k_ ∧ k_ < gbz665 ∧ k_ < gbz669) (Kd.R_keptB (HO657.out) hkp (fun k_ hk_ hs_ => (fun e_ => Nat.lt_irrefl _ (Nat.lt_of_lt_of_le (hPlP72 _ e_).1.1.2.1 hk_.1)) hs_)) (fun k_ hk_ => ⟨hk_.1.1, hk_.1.2.1, hk_.1.2.2⟩)); have n4_ := Aside0.mk (blk_kept (pb_ BK662.out) hkp (fun hs_ => (fun e_ => no_blk (pb_ BK662.out) (by decide) (hPlP72 _ e_).2.2) hs_)); have n5_ := Aside0.mk (hb); clear HO643; clear BK648; clear HO654; clear HO657; clear BK662; clear HB; have HO643 := n0_; have BK648 := n1_; have HO654 := n2_; have HO657 := n3_; have BK662 := n4_; have HB := n5_; clear n0_ n1_ n2_ n3_ n4_ n5_; (try clear hb); (try clear hkp); (try clear hy0); have hcz74_0 : w73.cell? ⟨gb662, 0, none⟩ = some (.slice Ao59 t655.length co59) := (blk_cell BK662.out 0).trans rfl; have hcz74_1 : w73.cell? ⟨gb662, 1, none⟩ = some (.int .i64 t658) := (blk_cell BK662.out 1).trans rfl; have hcz74_2 : w73.cell? ⟨gb662, 2, none⟩ = some (.int .i64 t659) := (blk_cell BK662.out 2).trans rfl; have hcz74_3 : w73.cell? ⟨gb662, 3, none⟩ = some (.string t660) := (blk_cell BK662.out 3).trans rfl; have hfz74_0 := blk_frozen BK662.out 0; have hfz74_1 := blk_frozen BK662.out 1; have hfz74_2 := blk_frozen BK662.out 2; have hfz74_3 := blk_frozen BK662.out 3; have hcz75_0 : w73.cell? ⟨gb648, 0, none⟩ = some (.slice Ao51 t641.length co51) := (blk_cell BK648.out 0).trans rfl; have hcz75_1 : w73.cell? ⟨gb648, 1, none⟩ = some (.int .i64 t644) := (blk_cell BK648.out 1).trans rfl; have hcz75_2 : w73.cell? ⟨gb648, 2, none⟩ = some (.int .i64 t645) := (blk_cell BK648.out 2).trans rfl; have hcz75_3 : w73.cell? ⟨gb648, 3, none⟩ = some (.string t646) := (blk_cell BK648.out 3).trans rfl; have hfz75_0 := blk_frozen BK648.out 0; have hfz75_1 := blk_frozen BK648.out 1; have hfz75_2 := blk_frozen BK648.out 2; have hfz75_3 := blk_frozen BK648.out 3) | (go_at_call 34; (with_reducible refine (laws_eqAlarm.calls k _ _ t655 t658 t659 t660 _ _ t641 t644 t645 t646 true _ ?side1 ?side2 ?side3 ?side4 A28.out).mono ?_); (case side1 => repeat (first | exact (Kd.R_reads' HO657.out).2.2 | (with_reducible first | refine ca_ ?_ _ | refine cn_ ?_ _ | refine cd_ ?_))); (case side2 => exact (Kd.R_reads' HO657.out).2.1); (case side3 => repeat (first | exact (Kd.R_reads' HO643.out).2.2 | (with_reducible first | refine ca_ ?_ _ | refine cn_ ?_ _ | refine cd_ ?_))); (case side4 => exact (Kd.R_reads' HO643.out).2.1); rintro e w76 ⟨rfl, hb⟩; have n0_ := Aside0.mk (Kd.R_below (rp_ HO643.out) hb); have n1_ := Aside0.mk (Kd.R_below (rp_ HO657.out) hb); have n2_ := Aside0.mk (bb_ BK648.out hb); have n3_ := Aside0.mk (bb_ BK662.out hb); have n4_ := Aside0.mk (below_step (by repeat (first | (with_reducible first | exact HB.out | apply ba_ | apply bn_ | apply bd_ | refine below_set ?_ GE648.out | refine below_set ?_ GE662.out) | exact HB.out)) hb); clear HO643; clear HO657; clear BK648; clear BK662; clear HB; have HO643 := n0_; have HO657 := n1_; have BK648 := n2_; have BK662 := n3_; have HB := n4_; clear n0_ n1_ n2_ n3_ n4_; (try clear hb); (try clear hb2); (try clear hk); (try clear hi); have hcz77_0 : w76.cell? ⟨gb662, 0, none⟩ = some (.slice Ao59 t655.length co59) := (blk_cell BK662.out 0).trans rfl; have hcz77_1 : w76.cell? ⟨gb662, 1, none⟩ = some (.int .i64 t658) := (blk_cell BK662.out 1).trans rfl; have hcz77_2 : w76.cell? ⟨gb662, 2, none⟩ = some (.int .i64 t659) := (blk_cell BK662.out 2).trans rfl; have hcz77_3 : w76.cell? ⟨gb662, 3, none⟩ = some (.string t660) := (blk_cell BK662.out 3).trans rfl; have hfz77_0 := blk_frozen BK662.out 0; have hfz77_1 := blk_frozen BK662.out 1; have hfz77_2 := blk_frozen BK662.out 2; have hfz77_3 := blk_frozen BK662.out 3; obtain ⟨PXP78, hPXP78, hPlP78⟩ := Kd.R_fpt rfl HO657.out) | ((with_reducible refine gate_callee (f := 37) rfl ?_); refine goesL_ (some 85) rfl rfl Try.func37 (by kernel_rfl) rfl #[.agg #[.slice Ao59 t655.length co59, .int .i64 t658, .int .i64 t659, .string t660], .int .i64 1] rfl (by (try simp only [mp_]); first | done | rfl | (simp only [List.length_drop, List.length_take]; rfl)) ?_; (with_reducible refine (laws_markAlarm.calls k PXP78 (.slice Ao59 t655.length co59) t655 t658 t659 t660 1 t677 t678 w _ ?side1 ?side2 A30.out).mono ?_); (case side1 => repeat (first | (with_reducible first | exact HB.out | apply ba_ | apply bn_ | apply bd_ | refine below_set ?_ GE648.out | refine below_set ?_ GE662.out) | exact HB.out)); (case side2 => exact hPXP78); rintro e w79 ⟨rfl, hy0, hb, hkp⟩; refine ⟨_, rfl, ?_⟩; have n0_ := Aside0.mk (Kd.R_mono (ok' := fun k_ => gbz642 ≤ k_ ∧ k_ < gbz650 ∧ k_ < gbz653 ∧ k_ < gbz656 ∧ k_ < gbz665 ∧ k_ < gbz669) (Kd.R_keptB (HO643.out) hkp (fun k_ hk_ hs_ => (fun e_ => Nat.lt_irrefl _ (Nat.lt_of_lt_of_le hk_.2.2.2.1 (hPlP78 _ e_).1.1.1)) hs_)) (fun k_ hk_ => ⟨hk_.1.1, hk_.1.2.1, hk_.1.2.2.1, hk_.1.2.2.2.1, hk_.1.2.2.2.2.1, hk_.1.2.2.2.2.2⟩)); have n1_ := Aside0.mk (blk_kept (pb_ BK648.out) hkp (fun hs_ => (fun e_ => no_blk (pb_ BK648.out) (by decide) (hPlP78 _ e_).2.2) hs_)); have n2_ := Aside0.mk (Kd.R_reok rfl hy0 (fun k_ e_ => HO657.out.1 k_ e_)); have n3_ := Aside0.mk (blk_kept (pb_ BK662.out) hkp (fun hs_ => (fun e_ => no_blk (pb_ BK662.out) (by decide) (hPlP78 _ e_).2.2) hs_)); have n4_ := Aside0.mk (hb); clear HO643; clear BK648; clear HO657; clear BK662; clear HB; have HO643 := n0_; have BK648 := n1_; have HO657 := n2_; have BK662 := n3_; have HB := n4_; clear n0_ n1_ n2_ n3_ n4_; (try clear hb); (try clear hkp); (try clear hy0); have hcz80_0 : w79.cell? ⟨gb662, 0, none⟩ = some (.slice Ao59 t655.length co59) := (blk_cell BK662.out 0).trans rfl; have hcz80_1 : w79.cell? ⟨gb662, 1, none⟩ = some (.int .i64 t658) := (blk_cell BK662.out 1).trans rfl; have hcz80_2 : w79.cell? ⟨gb662, 2, none⟩ = some (.int .i64 t659) := (blk_cell BK662.out 2).trans rfl; have hcz80_3 : w79.cell? ⟨gb662, 3, none⟩ = some (.string t660) := (blk_cell BK662.out 3).trans rfl; have hfz80_0 := blk_frozen BK662.out 0; have hfz80_1 := blk_frozen BK662.out 1; have hfz80_2 := blk_frozen BK662.out 2; have hfz80_3 := blk_frozen BK662.out 3) | ((with_reducible refine gate_callee (f := 38) rfl ?_); refine goesL_ (some 88) rfl rfl Try.func38 (by kernel_rfl) rfl #[.agg #[.slice Ao59 t678.length co59, .int .i64 t658, .int .i64 t659, .string t660], .int .i64 1] rfl (by (try simp only [mp_]); first | done | (rw [show t678.length = t655.length from (Kd.R_reads' HO657.out).1.symm] <;> rfl) | rfl | (simp only [List.length_drop, List.length_take]; rfl)) ?_; (with_reducible refine (laws_heldAlarm.calls k _ _ t678 t658 t659 t660 1 t679 _ ?side1 ?side2 A31.out).mono ?_); (case side1 => repeat (first | exact (Kd.R_reads' HO657.out).2.2 | (with_reducible first | refine ca_ ?_ _ | refine cn_ ?_ _ | refine cd_ ?_))); (case side2 => rw [show t678.length = t655.length from (Kd.R_reads' HO657.out).1.symm]; exact (Kd.R_reads' HO657.out).2.1); rintro e w81 ⟨rfl, hb⟩; refine ⟨_, rfl, ?_⟩; have n0_ := Aside0.mk (Kd.R_below (rp_ HO643.out) hb); have n1_ := Aside0.mk (Kd.R_below (rp_ HO657.out) hb); have n2_ := Aside0.mk (bb_ BK648.out hb); have n3_ := Aside0.mk (bb_ BK662.out hb); have n4_ := Aside0.mk (below_step (by repeat (first | (with_reducible first | exact HB.out | apply ba_ | apply bn_ | apply bd_ | refine below_set ?_ GE648.out | refine below_set ?_ GE662.out) | exact HB.out)) hb); clear HO643; clear HO657; clear BK648; clear BK662; clear HB; have HO643 := n0_; have HO657 := n1_; have BK648 := n2_; have BK662 := n3_; have HB := n4_; clear n0_ n1_ n2_ n3_ n4_; (try clear hb); (try clear hb2); (try clear hk); (try clear hi)) | ((with_reducible refine gate_callee (f := 15) rfl ?_); refine goesL_ (some 96) rfl rfl Try.func15 (by kernel_rfl) rfl #[.slice A0 l0.length c0] rfl (by (try simp only [mp_]); first | done | rfl | (simp only [List.length_drop, List.length_take]; rfl)) ?_; (with_reducible refine (laws_toPartS.calls k _ _ l0 t680 _ ?side1 ?side2 A34.out).mono ?_); (case side1 => repeat (first | exact (Kd.C_below HR0.out HB.out) | (with_reducible first | refine ca_ ?_ _ | refine cn_ ?_ _ | refine cd_ ?_))); (case side2 => exact HC0.out); rintro e w82 ⟨v681, rfl, ho0, hb⟩; refine ⟨_, rfl, ?_⟩; obtain ⟨gbz681, hz681⟩ := Kd.S_name ho0; have n0_ := Aside0.mk (Kd.R_below (Kd.R_ltz hz681 (rp_ HO643.out)) hb); have n1_ := Aside0.mk (Kd.R_below (Kd.R_ltz hz681 (rp_ HO657.out)) hb); have n2_ := Aside0.mk (Kd.S_lower (Kd.S_newB (Kd.S_newB (Kd.S_gez hz681 ho0) (g := gb648) (o := .cells #[.slice Ao51 t641.length co51, .int .i64 t644, .int .i64 t645, .string t646] 43 (0, 0)) (pb_ BK648.out)) (g := gb662) (o := .cells #[.slice Ao59 t655.length co59, .int .i64 t658, .int .i64 t659, .string t660] 43 (0, 0)) (pb_ BK662.out)) (below_size (by repeat (first | (with_reducible first | exact HB.out | apply ba_ | apply bn_ | apply bd_ | refine below_set ?_ GE648.out | refine below_set ?_ GE662.out) | exact HB.out)))); have n3_ := Aside0.mk (bb_ BK648.out hb); have n4_ := Aside0.mk (bb_ BK662.out hb); have n5_ := Aside0.mk (below_step (by repeat (first | (with_reducible first | exact HB.out | apply ba_ | apply bn_ | apply bd_ | refine below_set ?_ GE648.out | refine below_set ?_ GE662.out) | exact HB.out)) hb); clear HO643; clear HO657; clear BK648; clear BK662; clear HB; have HO643 := n0_; have HO657 := n1_; have HO682 := n2_; have BK648 := n3_; have BK662 := n4_; have HB := n5_; clear n0_ n1_ n2_ n3_ n4_ n5_; (try clear hb); (try clear hb2); (try clear hk); (try clear hi); (try clear ho0)) | ((with_reducible refine gate_callee (f := 16) rfl ?_); refine goesL_ (some 98) rfl rfl Try.func16 (by kernel_rfl) rfl #[.slice A1 l1.length c1] rfl (by (try simp only [mp_]); first | done | rfl | (simp only [List.length_drop, List.length_take]; rfl)) ?_; (with_reducible refine (laws_toLabelS.calls k _ _ l1 t683 _ ?side1 ?side2 A35.out).mono ?_); (case side1 => repeat (first | exact (Kd.C_below HR1.out HB.out) | (with_reducible first | refine ca_ ?_ _ | refine cn_ ?_ _ | refine cd_ ?_))); (case side2 => exact HC1.out); rintro e w83 ⟨v684, rfl, ho0, hb⟩; refine ⟨_, rfl, ?_⟩; obtain ⟨gbz684, hz684⟩ := Kd.R_name ho0; have n0_ := Aside0.mk (Kd.R_below (Kd.R_ltz hz684 (rp_ HO643.out)) hb); have n1_ := Aside0.mk (Kd.R_below (Kd.R_ltz hz684 (rp_ HO657.out)) hb); have n2_ := Aside0.mk (Kd.S_below (Kd.S_ltz hz684 (sp_ HO682.out)) hb); have n3_ := Aside0.mk (Kd.R_lower (Kd.R_gez hz684 ho0) (below_size (by repeat (first | (with_reducible first | exact HB.out | apply ba_ | apply bn_ | apply bd_ | refine below_set ?_ GE648.out | refine below_set ?_ GE662.out) | exact HB.out)))); have n4_ := Aside0.mk (bb_ BK648.out hb); have n5_ := Aside0.mk (bb_ BK662.out hb); have n6_ := Aside0.mk (below_step (by repeat (first | (with_reducible first | exact HB.out | apply ba_ | apply bn_ | apply bd_ | refine below_set ?_ GE648.out | refine below_set ?_ GE662.out) | exact HB.out)) hb); clear HO643; clear HO657; clear HO682; clear BK648; clear BK662; clear HB; have HO643 := n0_; have HO657 := n1_; have HO682 := n2_; have HO685 := n3_; have BK648 := n4_; have BK662 := n5_; have HB := n6_; clear n0_ n1_ n2_ n3_ n4_ n5_ n6_; (try clear hb); (try clear hb2); (try clear hk); (try clear hi); (try clear ho0); obtain ⟨Ao84, co84, eo84⟩ := Kd.S_slice HO682.out; subst eo84; obtain ⟨Ao85, co85, eo85⟩ := Kd.R_slice HO685.out; subst eo85) | ((with_reducible refine gate_callee (f := 40) rfl ?_); refine goesL_ (some 99) rfl rfl Try.func40 (by kernel_rfl) rfl #[.slice Ao84 t680.length co84, .slice Ao85 t683.length co85] rfl (by (try simp only [mp_]); first | done | rfl | (simp only [List.length_drop, List.length_take]; rfl)) ?_; (with_reducible refine (impl_FindAlarm.calls k _ _ t680 _ _ t683 t686 t689 t690 t691 t692 _ ?side1 ?side2 ?side3 ?side4 A36.out).mono ?_); (case side1 => repeat (first | exact (Kd.S_reads' HO682.out).2.2 | (with_reducible first | refine ca_ ?_ _ | refine cn_ ?_ _ | refine cd_ ?_))); (case side2 => exact (Kd.S_reads' HO682.out).2.1); (case side3 => repeat (first | exact (Kd.R_reads' HO685.out).2.2 | (with_reducible first | refine ca_ ?_ _ | refine cn_ ?_ _ | refine cd_ ?_))); (case side4 => exact (Kd.R_reads' HO685.out).2.1); rintro e w86 ⟨v687, rfl, ho0, hb⟩; refine ⟨_, rfl, ?_⟩; obtain ⟨gbz687, hz687⟩ := Kd.R_name ho0; have n0_ := Aside0.mk (Kd.R_below (Kd.R_ltz hz687 (rp_ HO643.out)) hb); have n1_ := Aside0.mk (Kd.R_below (Kd.R_ltz hz687 (rp_ HO657.out)) hb); have n2_ := Aside0.mk (Kd.S_below (Kd.S_ltz hz687 (sp_ HO682.out)) hb); have n3_ := Aside0.mk (Kd.R_below (Kd.R_ltz hz687 (rp_ HO685.out)) hb); have n4_ := Aside0.mk (Kd.R_lower (Kd.R_gez hz687 ho0) (below_size (by repeat (first | (with_reducible first | exact HB.out | apply ba_ | apply bn_ | apply bd_ | refine below_set ?_ GE648.out | refine below_set ?_ GE662.out) | exact HB.out)))); have n5_ := Aside0.mk (bb_ BK648.out hb); have n6_ := Aside0.mk (bb_ BK662.out hb); have n7_ := Aside0.mk (below_step (by repeat (first | (with_reducible first | exact HB.out | apply ba_ | apply bn_ | apply bd_ | refine below_set ?_ GE648.out | refine below_set ?_ GE662.out) | exact HB.out)) hb); clear HO643; clear HO657; clear HO682; clear HO685; clear BK648; clear BK662; clear HB; have HO643 := n0_; have HO657 := n1_; have HO682 := n2_; have HO685 := n3_; have HO688 := n4_; have BK648 := n5_; have BK662 := n6_; have HB := n7_; clear n0_ n1_ n2_ n3_ n4_ n5_ n6_ n7_; (try clear hb); (try clear hb2); (try clear hk); (try clear hi); (try clear ho0)) | ((with_reducible refine gate_dst (N := 15) rfl ?_); refine box_event ?hg (N := 15) ?hd (cs := #[.slice none 0 0, .int .i64 0, .int .i64 0, .string (⟨#[]⟩ : ByteArray)]) (t := 43) ?hr ?_; (case hd => rfl); (case hg => rfl); (case hr => first | (go_simp; done) | (go_simp; rfl)); intro gb693 hg w87 hbox hb; have n0_ := Aside0.mk (Kd.R_below (rp_ HO643.out) hb); have n1_ := Aside0.mk (Kd.R_below (rp_ HO657.out) hb); have n2_ := Aside0.mk (Kd.R_below (rp_ HO688.out) hb); have n3_ := Aside0.mk (bb_ BK648.out hb); have n4_ := Aside0.mk (bb_ BK662.out hb); have n5_ := Aside0.mk (below_step (by repeat (first | (with_reducible first | exact HB.out | apply ba_ | apply bn_ | apply bd_ | refine below_set ?_ GE648.out | refine below_set ?_ GE662.out) | exact HB.out)) hb); have n6_ := Aside0.mk (hbox); have n7_ := Aside0.mk ((by rw [hg]; exact (below_size (by repeat (first | (with_reducible first | exact HB.out | apply ba_ | apply bn_ | apply bd_ | refine below_set ?_ GE648.out | refine below_set ?_ GE662.out) | exact HB.out))) : w.heap.size ≤ gb693)); have n8_ := n7_; have n9_ := Aside0.mk (nl_ BK648.out hg); have n10_ := Aside0.mk (ng_ BK648.out hg); have n11_ := Aside0.mk (nl_ BK662.out hg); have n12_ := Aside0.mk (ng_ BK662.out hg); clear HO643; clear HO657; clear HO688; clear BK648; clear BK662; clear HB; have HO643 := n0_; have HO657 := n1_; have HO688 := n2_; have BK648 := n3_; have BK662 := n4_; have HB := n5_; have BK693 := n6_; have GW693 := n7_; have GE693 := n8_; have NB648_693 := n9_; have NB693_648 := n10_; have NB662_693 := n11_; have NB693_662 := n12_; clear n0_ n1_ n2_ n3_ n4_ n5_ n6_ n7_ n8_ n9_ n10_ n11_ n12_; clear hb hbox hg; obtain ⟨Ao88, co88, eo88⟩ := Kd.R_slice HO688.out; subst eo88; have hnb89 := NB693_648.out; have hnc89 := NB648_693.out; have hnb90 := NB693_662.out; have hnc90 := NB662_693.out; have hcz91_0 : w87.cell? ⟨gb693, 0, none⟩ = some (.slice none 0 0) := (blk_cell BK693.out 0).trans rfl; have hcz91_1 : w87.cell? ⟨gb693, 1, none⟩ = some (.int .i64 0) := (blk_cell BK693.out 1).trans rfl; have hcz91_2 : w87.cell? ⟨gb693, 2, none⟩ = some (.int .i64 0) := (blk_cell BK693.out 2).trans rfl; have hcz91_3 : w87.cell? ⟨gb693, 3, none⟩ = some (.string (⟨#[]⟩ : ByteArray)) := (blk_cell BK693.out 3).trans rfl; have hfz91_0 := blk_frozen BK693.out 0; have hfz91_1 := blk_frozen BK693.out 1; have hfz91_2 := blk_frozen BK693.out 2; have hfz91_3 := blk_frozen BK693.out 3; have hcz92_0 : w87.cell? ⟨gb648, 0, none⟩ = some (.slice Ao51 t641.length co51) := (blk_cell BK648.out 0).trans rfl; have hcz92_1 : w87.cell? ⟨gb648, 1, none⟩ = some (.int .i64 t644) := (blk_cell BK648.out 1).trans rfl; have hcz92_2 : w87.cell? ⟨gb648, 2, none⟩ = some (.int .i64 t645) := (blk_cell BK648.out 2).trans rfl; have hcz92_3 : w87.cell? ⟨gb648, 3, none⟩ = some (.string t646) := (blk_cell BK648.out 3).trans rfl; have hfz92_0 := blk_frozen BK648.out 0; have hfz92_1 := blk_frozen BK648.out 1; have hfz92_2 := blk_frozen BK648.out 2; have hfz92_3 := blk_frozen BK648.out 3) | ((with_reducible refine gate_callee (f := 34) rfl ?_); refine goesL_ (some 104) rfl rfl Try.func34 (by kernel_rfl) rfl #[.agg #[.slice Ao88 t686.length co88, .int .i64 t689, .int .i64 t690, .string t691], .agg #[.slice Ao51 t641.length co51, .int .i64 t644, .int .i64 t645, .string t646]] rfl (by (try simp only [mp_]); first | done | rfl | (simp only [List.length_drop, List.length_take]; rfl)) ?_; (with_reducible refine (laws_eqAlarm.calls k _ _ t686 t689 t690 t691 _ _ t641 t644 t645 t646 true _ ?side1 ?side2 ?side3 ?side4 A37.out).mono ?_); (case side1 => refine (Kd.R_reads' (e := 88) (base := w.heap.size) (ok := fun k_ => (True ∧ gbz687 ≤ k_)) (n := t686.length) (c := co88) ?_).2.2; exact (by (with_reducible repeat (first | apply Kd.R_alloc | apply Kd.R_drewN | apply Kd.R_drew)); exact (Kd.R_mono (Kd.R_far (p := ⟨gb693, 3, none⟩) (Kd.R_far (p := ⟨gb693, 2, none⟩) (Kd.R_far (p := ⟨gb693, 1, none⟩) (Kd.R_far (p := ⟨gb693, 0, none⟩) (Kd.R_types HO688.out BK693.out (by decide)) (fun _ hk => hk.2) (.slice Ao88 t686.length co88)) (fun _ hk => hk.2) (.int .i64 t689)) (fun _ hk => hk.2) (.int .i64 t690)) (fun _ hk => hk.2) (.string t691)) (fun _ h_ => h_.1)))); (case side2 => exact (Kd.R_reads' HO688.out).2.1); (case side3 => refine (Kd.R_reads' (e := 88) (base := w.heap.size) (ok := fun k_ => ((((gbz642 ≤ k_ ∧ (k_ < gbz650 ∧ (k_ < gbz653 ∧ (k_ < gbz656 ∧ (k_ < gbz665 ∧ k_ < gbz669))))) ∧ k_ < gbz681) ∧ k_ < gbz684) ∧ k_ < gbz687)) (n := t641.length) (c := co51) ?_).2.2; exact (by (with_reducible repeat (first | apply Kd.R_alloc | apply Kd.R_drewN | apply Kd.R_drew)); exact (Kd.R_mono (Kd.R_far (p := ⟨gb693, 3, none⟩) (Kd.R_far (p := ⟨gb693, 2, none⟩) (Kd.R_far (p := ⟨gb693, 1, none⟩) (Kd.R_far (p := ⟨gb693, 0, none⟩) (Kd.R_types HO643.out BK693.out (by decide)) (fun _ hk => hk.2) (.slice Ao88 t686.length co88)) (fun _ hk => hk.2) (.int .i64 t689)) (fun _ hk => hk.2) (.int .i64 t690)) (fun _ hk => hk.2) (.string t691)) (fun _ h_ => h_.1)))); (case side4 => exact (Kd.R_reads' HO643.out).2.1); rintro e w93 ⟨rfl, hb⟩; refine ⟨_, rfl, ?_⟩; have n0_ := Aside0.mk (Kd.R_below (by (with_reducible repeat (first | apply Kd.R_alloc | apply Kd.R_drewN | apply Kd.R_drew)); exact (Kd.R_mono (Kd.R_far (p := ⟨gb693, 3, none⟩) (Kd.R_far (p := ⟨gb693, 2, none⟩) (Kd.R_far (p := ⟨gb693, 1, none⟩) (Kd.R_far (p := ⟨gb693, 0, none⟩) (Kd.R_types HO643.out BK693.out (by decide)) (fun _ hk => hk.2) (.slice Ao88 t686.length co88)) (fun _ hk => hk.2) (.int .i64 t689)) (fun _ hk => hk.2) (.int .i64 t690)) (fun _ hk => hk.2) (.string t691)) (fun _ h_ => h_.1))) hb); have n1_ := Aside0.mk (Kd.R_below (by (with_reducible repeat (first | apply Kd.R_alloc | apply Kd.R_drewN | apply Kd.R_drew)); exact (Kd.R_mono (Kd.R_far (p := ⟨gb693, 3, none⟩) (Kd.R_far (p := ⟨gb693, 2, none⟩) (Kd.R_far (p := ⟨gb693, 1, none⟩) (Kd.R_far (p := ⟨gb693, 0, none⟩) (Kd.R_types HO657.out BK693.out (by decide)) (fun _ hk => hk.2) (.slice Ao88 t686.length co88)) (fun _ hk => hk.2) (.int .i64 t689)) (fun _ hk => hk.2) (.int .i64 t690)) (fun _ hk => hk.2) (.string t691)) (fun _ h_ => h_.1))) hb); have n2_ := Aside0.mk (Kd.R_below (by (with_reducible repeat (first | apply Kd.R_alloc | apply Kd.R_drewN | apply Kd.R_drew)); exact (Kd.R_mono (Kd.R_far (p := ⟨gb693, 3, none⟩) (Kd.R_far (p := ⟨gb693, 2, none⟩) (Kd.R_far (p := ⟨gb693, 1, none⟩) (Kd.R_far (p := ⟨gb693, 0, none⟩) (Kd.R_types HO688.out BK693.out (by decide)) (fun _ hk => hk.2) (.slice Ao88 t686.length co88)) (fun _ hk => hk.2) (.int .i64 t689)) (fun _ hk => hk.2) (.int .i64 t690)) (fun _ hk => hk.2) (.string t691)) (fun _ h_ => h_.1))) hb); have n3_ := Aside0.mk (blk_below (g := gb648) (o := .cells #[.slice Ao51 t641.length co51, .int .i64 t644, .int .i64 t645, .string t646] 43 (0, 0)) (by (with_reducible repeat (first | refine kn_ ?_ _ | refine kd_ ?_ | refine ka_ ?_ _)); refine blk_far ?_ NB648_693.out _; (with_reducible repeat (first | refine kn_ ?_ _ | refine kd_ ?_ | refine ka_ ?_ _)); refine blk_far ?_ NB648_693.out _; (with_reducible repeat (first | refine kn_ ?_ _ | refine kd_ ?_ | refine ka_ ?_ _)); refine blk_far ?_ NB648_693.out _; (with_reducible repeat (first | refine kn_ ?_ _ | refine kd_ ?_ | refine ka_ ?_ _)); refine blk_far ?_ NB648_693.out _; (with_reducible repeat (first | refine kn_ ?_ _ | refine kd_ ?_ | refine ka_ ?_ _)); exact BK648.out) hb); have n4_ := Aside0.mk (blk_below (g := gb662) (o := .cells #[.slice Ao59 t655.length co59, .int .i64 t658, .int .i64 t659, .string t660] 43 (0, 0)) (by (with_reducible repeat (first | refine kn_ ?_ _ | refine kd_ ?_ | refine ka_ ?_ _)); refine blk_far ?_ NB662_693.out _; (with_reducible repeat (first | refine kn_ ?_ _ | refine kd_ ?_ | refine ka_ ?_ _)); refine blk_far ?_ NB662_693.out _; (with_reducible repeat (first | refine kn_ ?_ _ | refine kd_ ?_ | refine ka_ ?_ _)); refine blk_far ?_ NB662_693.out _; (with_reducible repeat (first | refine kn_ ?_ _ | refine kd_ ?_ | refine ka_ ?_ _)); refine blk_far ?_ NB662_693.out _; (with_reducible repeat (first | refine kn_ ?_ _ | refine kd_ ?_ | refine ka_ ?_ _)); exact BK662.out) hb); have n5_ := Aside0.mk (blk_below (g := gb693) (o := .cells #[.slice Ao88 t686.length co88, .int .i64 t689, .int .i64 t690, .string t691] 43 (0, 0)) (by (with_reducible repeat (first | refine kn_ ?_ _ | refine kd_ ?_ | refine ka_ ?_ _)); refine blk_put (cs := #[.slice Ao88 t686.length co88, .int .i64 t689, .int .i64 t690, .string (⟨#[]⟩ : ByteArray)]) ?_ 3 _ rfl; (with_reducible repeat (first | refine kn_ ?_ _ | refine kd_ ?_ | refine ka_ ?_ _)); refine blk_put (cs := #[.slice Ao88 t686.length co88, .int .i64 t689, .int .i64 0, .string (⟨#[]⟩ : ByteArray)]) ?_ 2 _ rfl; (with_reducible repeat (first | refine kn_ ?_ _ | refine kd_ ?_ | refine ka_ ?_ _)); refine blk_put (cs := #[.slice Ao88 t686.length co88, .int .i64 0, .int .i64 0, .string (⟨#[]⟩ : ByteArray)]) ?_ 1 _ rfl; (with_reducible repeat (first | refine kn_ ?_ _ | refine kd_ ?_ | refine ka_ ?_ _)); refine blk_put (cs := #[.slice none 0 0, .int .i64 0, .int .i64 0, .string (⟨#[]⟩ : ByteArray)]) ?_ 0 _ rfl; (with_reducible repeat (first | refine kn_ ?_ _ | refine kd_ ?_ | refine ka_ ?_ _)); exact BK693.out) hb); have n6_ := Aside0.mk (below_step (by repeat (first | (with_reducible first | exact HB.out | apply ba_ | apply bn_ | apply bd_ | refine below_set ?_ GE648.out | refine below_set ?_ GE662.out | refine below_set ?_ GE693.out) | exact HB.out)) hb); clear HO643; clear HO657; clear HO688; clear BK648; clear BK662; clear BK693; clear HB; have HO643 := n0_; have HO657 := n1_; have HO688 := n2_; have BK648 := n3_; have BK662 := n4_; have BK693 := n5_; have HB := n6_; clear n0_ n1_ n2_ n3_ n4_ n5_ n6_; (try clear hb); (try clear hb2); (try clear hk); (try clear hi); have hcz94_0 : w93.cell? ⟨gb662, 0, none⟩ = some (.slice Ao59 t655.length co59) := (blk_cell BK662.out 0).trans rfl; have hcz94_1 : w93.cell? ⟨gb662, 1, none⟩ = some (.int .i64 t658) := (blk_cell BK662.out 1).trans rfl; have hcz94_2 : w93.cell? ⟨gb662, 2, none⟩ = some (.int .i64 t659) := (blk_cell BK662.out 2).trans rfl; have hcz94_3 : w93.cell? ⟨gb662, 3, none⟩ = some (.string t660) := (blk_cell BK662.out 3).trans rfl; have hfz94_0 := blk_frozen BK662.out 0; have hfz94_1 := blk_frozen BK662.out 1; have hfz94_2 := blk_frozen BK662.out 2; have hfz94_3 := blk_frozen BK662.out 3) | ((with_reducible refine gate_callee (f := 38) rfl ?_); refine goesL_ (some 113) rfl rfl Try.func38 (by kernel_rfl) rfl #[.agg #[.slice Ao59 t678.length co59, .int .i64 t658, .int .i64 t659, .string t660], .int .i64 1] rfl (by (try simp only [mp_]); first | done | (rw [show t678.length = t655.length from (Kd.R_reads' HO657.out).1.symm] <;> rfl) | rfl | (simp only [List.length_drop, List.length_take]; rfl)) ?_; (with_reducible refine (laws_heldAlarm.calls k _ _ t678 t658 t659 t660 1 t695 _ ?side1 ?side2 A40.out).mono ?_); (case side1 => repeat (first | exact (Kd.R_reads' HO657.out).2.2 | (with_reducible first | refine ca_ ?_ _ | refine cn_ ?_ _ | refine cd_ ?_))); (case side2 => rw [show t678.length = t655.length from (Kd.R_reads' HO657.out).1.symm]; exact (Kd.R_reads' HO657.out).2.1); rintro e w95 ⟨rfl, hb⟩; refine ⟨_, rfl, ?_⟩; have n0_ := Aside0.mk (Kd.R_below (rp_ HO657.out) hb); have n1_ := Aside0.mk (below_step (by repeat (first | (with_reducible first | exact HB.out | apply ba_ | apply bn_ | apply bd_) | exact HB.out)) hb); clear HO657; clear HB; have HO657 := n0_; have HB := n1_; clear n0_ n1_; (try clear hb); (try clear hb2); (try clear hk); (try clear hi)))
        go_ret
        exact ⟨by first | rfl | (simp [errW_none, errW_some] <;> rfl) | (simp [*, errW_none, errW_some] <;> rfl), by repeat (first | (with_reducible first | exact HB.out | apply ba_ | apply bn_ | apply bd_) | exact HB.out)⟩
       rw [if_neg c42] at H
       exact absurd H (by simp)
      replace c38 := Bool.eq_false_iff.mpr c38
      subst c38
      rw [if_neg (show ¬ (false = true) by decide)] at H
      exact absurd H (by simp)
     rw [if_neg c33] at H
     exact absurd H (by simp)
    replace c29 := Bool.eq_false_iff.mpr c29
    subst c29
    rw [if_neg (show ¬ (false = true) by decide)] at H
    exact absurd H (by simp)
   replace c24 := Bool.eq_false_iff.mpr c24
   subst c24
   rw [if_neg (show ¬ (false = true) by decide)] at H
   exact absurd H (by simp)
  replace c21 := Bool.eq_false_iff.mpr c21
  subst c21
  rw [if_neg (show ¬ (false = true) by decide)] at H
  exact absurd H (by simp)
 replace c17 := Bool.eq_false_iff.mpr c17
 subst c17
 rw [if_neg (show ¬ (false = true) by decide)] at H
 exact absurd H (by simp)
end Go.Proofs.Yticgekgojgkbgaa.Print
end
section
namespace Go.Proofs.Yticgekgojgkbgaa.Print
open Go.RowKit Go.Proofs.YticgekgojgkbgaaV.PrintWords Go.Proofs.YticgekgojgkbgaaV.PrintLast Go.Proofs.YticgekgojgkbgaaV.PrintMore
set_option linter.unusedVariables false
/-- The pure statement of laws_FnExactFindAlarm. -/
def laws_FnExactFindAlarm.Pure : Prop := ∀ (l0 : List (S52)) (l1 : List (S85)), (l0.length ≤ maxLen ∧ ∀ y ∈ l0, B52 y) → (l1.length ≤ maxLen ∧ ∀ y ∈ l1, B85 y) → ∃ k, laws_FnExactFindAlarm.f k l0 l1 = some true
end Go.Proofs.Yticgekgojgkbgaa.Print
end
section
namespace Go.Proofs.Yticgekgojgkbgaa.Print
open Go.RowKit Go.Proofs.YticgekgojgkbgaaV.PrintWords Go.Proofs.YticgekgojgkbgaaV.PrintLast Go.Proofs.YticgekgojgkbgaaV.PrintMore
set_option linter.unusedVariables false
set_option linter.unusedSimpArgs false
theorem wrap_id {x : Int} (h1 : -9223372036854775808 ≤ x) (h2 : x ≤ 9223372036854775807) : wrap64 x = x := by unfold wrap64; omega
theorem wrap_up (n : Nat) (h : n < 9223372036854775807) : wrap64 ((n : Int) + 1) = ((n + 1 : Nat) : Int) := by unfold wrap64; omega
theorem Ev.const {α : Type} {o : Option α} {r : α} (h : o = some r) : Ev (fun _ => o) r := ⟨0, fun _ _ => h⟩
theorem Ev.uniq {α : Type} {g : Nat → Option α} {a b : α} (h : Ev g a) (h' : Ev g b) : a = b := by
  obtain ⟨K, h⟩ := h
  obtain ⟨K', h'⟩ := h'
  exact Option.some.inj ((h (max K K') (Nat.le_max_left _ _)).symm.trans (h' _ (Nat.le_max_right _ _)))
theorem getD_mid {α : Type} (pre suf : List α) (y z : α) : (pre ++ y :: suf).getD pre.length z = y := by simp
theorem set_mid {α : Type} (pre suf : List α) (y v : α) : (pre ++ y :: suf).set pre.length v = pre ++ v :: suf := by simp
theorem lt_mid {α : Type} (pre suf : List α) (y : α) : (pre.length : Int) < ((pre ++ y :: suf).length : Int) := by simp only [List.length_append, List.length_cons]; omega
theorem not_lt_end {α : Type} (pre : List α) : ¬ ((pre.length : Int) < ((pre ++ []).length : Int)) := by simp
theorem nn (n : Nat) : (0 : Int) ≤ (n : Int) := by omega
theorem mid_assoc {α : Type} (pre suf : List α) (y : α) : pre ++ y :: suf = (pre ++ [y]) ++ suf := by simp
theorem not_neg12 (n : Nat) : ¬ (1 + 2 * (n : Int) < 0) := by omega
def cvLabel (x : S85) : S88 := ⟨x.f0, x.f1⟩
def WLabel (x : S85) : Prop := x.f0.size ≤ 1048576 ∧ x.f1.size ≤ 1048576
def WiLabel (x : S88) : Prop := x.f0.size ≤ 4000000 ∧ x.f1.size ≤ 4000000
theorem Wi_cvLabel {x : S85} (h : WLabel x) : WiLabel (cvLabel x) := ⟨Nat.le_trans h.1 (by decide), Nat.le_trans h.2 (by decide)⟩
theorem szLabel_ev (x : S85) (hB : B85 x) (n : Int) (h0 : 0 ≤ n) (h1 : n ≤ 1048576) : ∃ r, Ev (fun k => laws_szLabel.f x.f0 x.f1 n) r ∧ r ≤ n ∧ (0 ≤ r → WLabel x) := by
  have q1 : x.f0.size ≤ 9223372036854775807 := hB.1
  have e1 : wrap64 (n - (x.f0.size : Int)) = n - (x.f0.size : Int) := wrap_id (by omega) (by omega)
  by_cases c1 : n - (x.f0.size : Int) < 0
  · exact ⟨-1, ⟨0, fun k hk => by simp [laws_szLabel.f, e1, c1]⟩, by omega, by omega⟩
  have q2 : x.f1.size ≤ 9223372036854775807 := hB.2
  have e2 : wrap64 ((n - (x.f0.size : Int)) - (x.f1.size : Int)) = (n - (x.f0.size : Int)) - (x.f1.size : Int) := wrap_id (by omega) (by omega)
  by_cases c2 : (n - (x.f0.size : Int)) - (x.f1.size : Int) < 0
  · exact ⟨-1, ⟨0, fun k hk => by simp [laws_szLabel.f, e1, c1, e2, c2]⟩, by omega, by omega⟩
  exact ⟨((n - (x.f0.size : Int)) - (x.f1.size : Int)), ⟨0, fun k hk => by simp [laws_szLabel.f, e1, c1, e2, c2]⟩, by omega, fun _ => ⟨(by omega), (by omega)⟩⟩
theorem toLabel_ev (x : S85) (h : WLabel x) : Ev (fun k => laws_toLabel.f x.f0 x.f1) ((cvLabel x).f0, (cvLabel x).f1) := by
  exact ⟨0, fun k hk => by simp [laws_toLabel.f, cvLabel]⟩
theorem eqLabel_ev (x : S88) (h : WiLabel x) : Ev (fun k => laws_eqLabel.f x.f0 x.f1 x.f0 x.f1) true := by
  exact ⟨0, fun k hk => by simp [laws_eqLabel.f]⟩
theorem rdmidLabell (pre suf : List S85) (y : S85) : rd_T85 (pre ++ y :: suf) (pre.length : Int) = y := by unfold rd_T85; simp
theorem rdmidLabeli (pre suf : List S88) (y : S88) : rd_T88 (pre ++ y :: suf) (pre.length : Int) = y := by unfold rd_T88; simp
theorem szLabelS_l0 : ∀ (suf pre : List S85) (n : Int), 0 ≤ n → n ≤ 1048576 → (∀ y ∈ suf, B85 y) → (pre ++ suf).length < 4611686018427387904 → ∃ r, Ev (fun k => laws_szLabelS.l0 k (pre ++ suf) n (pre.length : Int)) r ∧ r ≤ n ∧ (0 ≤ r → ∀ y ∈ suf, WLabel y)
  | [], pre, n, h0, h1, hB, h => by
    refine ⟨n, Ev.step (f := fun _ => some n) (fun k => ?_) (Ev.now _), Int.le_refl _, fun _ y hy => by cases hy⟩
    simp only [laws_szLabelS.l0]
    rw [if_neg (not_lt_end pre)]
  | y :: suf, pre, n, h0, h1, hB, h => by
    have hp : pre.length < 4611686018427387904 := by simp at h; omega
    have hy := hB y List.mem_cons_self
    obtain ⟨r1, g1, l1, w1⟩ := szLabel_ev y hy n h0 h1
    by_cases c : r1 < 0
    · refine ⟨-1, Ev.step (f := fun k => (laws_szLabel.f y.f0 y.f1 n).bind fun t => if t < 0 then some (-1) else laws_szLabelS.l0 k (pre ++ y :: suf) t (wrap64 ((pre.length : Int) + 1))) (fun k => ?_) (Ev.bind g1 ?_), by omega, by omega⟩
      · simp only [laws_szLabelS.l0]
        rw [if_pos (lt_mid pre suf y), if_pos (nn _), rdmidLabell]
      · simp only [if_pos c]
        exact Ev.now _
    · obtain ⟨r, g, hl, hw⟩ := szLabelS_l0 suf (pre ++ [y]) r1 (by omega) (by omega) (fun z hz => hB z (List.mem_cons_of_mem _ hz)) (by simpa using h)
      refine ⟨r, Ev.step (f := fun k => (laws_szLabel.f y.f0 y.f1 n).bind fun t => if t < 0 then some (-1) else laws_szLabelS.l0 k ((pre ++ [y]) ++ suf) t ((pre ++ [y]).length : Int)) (fun k => ?_) (Ev.bind g1 ?_), by omega, fun hr z hz => ?_⟩
      · simp only [laws_szLabelS.l0]
        rw [if_pos (lt_mid pre suf y), if_pos (nn _), rdmidLabell, wrap_up _ (by omega)]
        simp
      · simp only [if_neg c]
        exact g
      · rcases List.mem_cons.1 hz with rfl | hz
        · exact w1 (by omega)
        · exact hw hr z hz
theorem szLabelS_ev (l : List S85) (hB : l.length ≤ maxLen ∧ ∀ y ∈ l, B85 y) (n : Int) (h0 : 0 ≤ n) (h1 : n ≤ 1048576) : ∃ r, Ev (fun k => laws_szLabelS.f k l n) r ∧ r ≤ n ∧ (0 ≤ r → l.length ≤ 1048576 ∧ ∀ y ∈ l, WLabel y) := by
  have q : l.length ≤ 9223372036854775807 := hB.1
  have e : wrap64 (n - (l.length : Int)) = n - (l.length : Int) := wrap_id (by omega) (by omega)
  by_cases c : n - (l.length : Int) < 0
  · exact ⟨-1, ⟨0, fun k _ => by simp [laws_szLabelS.f, e, c]⟩, by omega, by omega⟩
  · obtain ⟨r, g, hl, hw⟩ := szLabelS_l0 l [] (n - (l.length : Int)) (by omega) (by omega) hB.2 (by simp; omega)
    refine ⟨r, Ev.congr (fun k => ?_) g, by omega, fun hr => ⟨by omega, hw hr⟩⟩
    unfold laws_szLabelS.f
    rw [e, if_neg c]
    rfl
theorem toLabelS_l0 : ∀ (suf pre : List S85), (pre ++ suf).length < 4611686018427387904 → (∀ y ∈ suf, WLabel y) → Ev (fun k => laws_toLabelS.l0 k (pre ++ suf) ((pre.map cvLabel) ++ List.replicate suf.length z88) (pre.length : Int)) ((pre ++ suf).map cvLabel)
  | [], pre, h, hW => by
    refine Ev.step (f := fun _ => some ((pre ++ []).map cvLabel)) (fun k => ?_) (Ev.now _)
    simp only [laws_toLabelS.l0]
    rw [if_neg (not_lt_end pre)]
    simp
  | y :: suf, pre, h, hW => by
    have hp : pre.length < 4611686018427387904 := by simp at h; omega
    have ih := toLabelS_l0 suf (pre ++ [y]) (by simpa using h) (fun z hz => hW z (List.mem_cons_of_mem _ hz))
    have g := toLabel_ev y (hW y List.mem_cons_self)
    refine Ev.step (f := fun k => (laws_toLabel.f y.f0 y.f1).bind fun t => laws_toLabelS.l0 k ((pre ++ [y]) ++ suf) ((pre.map cvLabel) ++ (⟨t.1, t.2⟩ : S88) :: List.replicate suf.length z88) ((pre ++ [y]).length : Int)) (fun k => ?_) (Ev.bind g ?_)
    · simp only [laws_toLabelS.l0]
      rw [if_pos (lt_mid pre suf y), if_pos (nn _), rdmidLabell, wrap_up _ (by omega)]
      congr 1
      funext t
      rw [if_pos (by simp; omega)]
      congr 1
      · simp
      · simp [List.replicate_succ]
      · simp
    · rw [mid_assoc pre suf y]
      have e : (pre.map cvLabel) ++ (cvLabel y) :: List.replicate suf.length z88 = ((pre ++ [y]).map cvLabel) ++ List.replicate suf.length z88 := by simp
      rw [← e] at ih
      exact ih
theorem toLabelS_ev (l : List S85) (h : l.length ≤ 1048576 ∧ ∀ y ∈ l, WLabel y) : Ev (fun k => laws_toLabelS.f k l) (l.map cvLabel) := by
  have h1 := h.1
  refine Ev.congr (fun k => ?_) (toLabelS_l0 l [] (by simp; omega) h.2)
  unfold laws_toLabelS.f
  rw [if_pos (nn l.length), Int.toNat_natCast, if_pos (by omega)]
  rfl
theorem eqLabelS_l0 : ∀ (suf pre : List S88), (pre ++ suf).length < 4611686018427387904 → (∀ y ∈ suf, WiLabel y) → Ev (fun k => laws_eqLabelS.l0 k (pre ++ suf) (pre ++ suf) (pre.length : Int)) true
  | [], pre, h, hW => by
    refine Ev.step (f := fun _ => some true) (fun k => ?_) (Ev.now _)
    simp only [laws_eqLabelS.l0]
    rw [if_neg (not_lt_end pre)]
  | y :: suf, pre, h, hW => by
    have hp : pre.length < 4611686018427387904 := by simp at h; omega
    have ih := eqLabelS_l0 suf (pre ++ [y]) (by simpa using h) (fun z hz => hW z (List.mem_cons_of_mem _ hz))
    have g := eqLabel_ev y (hW y List.mem_cons_self)
    refine Ev.step (f := fun k => (laws_eqLabel.f y.f0 y.f1 y.f0 y.f1).bind fun t => if t = true then laws_eqLabelS.l0 k ((pre ++ [y]) ++ suf) ((pre ++ [y]) ++ suf) ((pre ++ [y]).length : Int) else none) (fun k => ?_) (Ev.bind g ?_)
    · simp only [laws_eqLabelS.l0]
      rw [if_pos (lt_mid pre suf y), if_pos (nn _), if_pos (lt_mid pre suf y), rdmidLabeli, wrap_up _ (by omega)]
      simp
    · simp only [if_true]
      exact ih
theorem eqLabelS_ev (l : List S88) (h : l.length ≤ 4000000 ∧ ∀ y ∈ l, WiLabel y) : Ev (fun k => laws_eqLabelS.f k l l) true := by
  have h1 := h.1
  refine Ev.congr (fun k => ?_) (eqLabelS_l0 l [] (by simp; omega) h.2)
  unfold laws_eqLabelS.f
  rw [if_pos rfl]
  rfl
def cvAlarm (x : S35) : S43 := ⟨(x.f0.map cvLabel), x.f1, x.f2, x.f3⟩
def WAlarm (x : S35) : Prop := (x.f0.length ≤ 1048576 ∧ ∀ y ∈ x.f0, WLabel y) ∧ True ∧ True ∧ x.f3.size ≤ 1048576
def WiAlarm (x : S43) : Prop := (x.f0.length ≤ 4000000 ∧ ∀ y ∈ x.f0, WiLabel y) ∧ True ∧ True ∧ x.f3.size ≤ 4000000
theorem Wi_cvAlarm {x : S35} (h : WAlarm x) : WiAlarm (cvAlarm x) := ⟨⟨by show (List.map cvLabel x.f0).length ≤ 4000000; rw [List.length_map]; exact Nat.le_trans h.1.1 (by decide), fun y hy => by obtain ⟨z, hz, rfl⟩ := List.mem_map.1 hy; exact Wi_cvLabel (h.1.2 z hz)⟩, trivial, trivial, Nat.le_trans h.2.2.2 (by decide)⟩
theorem szAlarm_ev (x : S35) (hB : B35 x) (n : Int) (h0 : 0 ≤ n) (h1 : n ≤ 1048576) : ∃ r, Ev (fun k => laws_szAlarm.f k x.f0 x.f1 x.f2 x.f3 n) r ∧ r ≤ n ∧ (0 ≤ r → WAlarm x) := by
  obtain ⟨r1, ⟨K1, g1⟩, l1, w1⟩ := szLabelS_ev x.f0 hB.1 n (by omega) (by omega)
  by_cases c1 : r1 < 0
  · exact ⟨-1, ⟨K1, fun k hk => by simp [laws_szAlarm.f, g1 k (by omega), c1]⟩, by omega, by omega⟩
  have q2 : x.f3.size ≤ 9223372036854775807 := hB.2.2.2
  have e2 : wrap64 (r1 - (x.f3.size : Int)) = r1 - (x.f3.size : Int) := wrap_id (by omega) (by omega)
  by_cases c2 : r1 - (x.f3.size : Int) < 0
  · exact ⟨-1, ⟨K1, fun k hk => by simp [laws_szAlarm.f, g1 k (by omega), c1, e2, c2]⟩, by omega, by omega⟩
  exact ⟨(r1 - (x.f3.size : Int)), ⟨K1, fun k hk => by simp [laws_szAlarm.f, g1 k (by omega), c1, e2, c2]⟩, by omega, fun _ => ⟨(w1 (by omega)), trivial, trivial, (by omega)⟩⟩
theorem toAlarm_ev (x : S35) (h : WAlarm x) : Ev (fun k => laws_toAlarm.f k x.f0 x.f1 x.f2 x.f3) ((cvAlarm x).f0, (cvAlarm x).f1, (cvAlarm x).f2, (cvAlarm x).f3) := by
  obtain ⟨K0, g0⟩ := toLabelS_ev x.f0 h.1
  exact ⟨K0, fun k hk => by simp [laws_toAlarm.f, cvAlarm, g0 k (by omega)]⟩
theorem eqAlarm_ev (x : S43) (h : WiAlarm x) : Ev (fun k => laws_eqAlarm.f k x.f0 x.f1 x.f2 x.f3 x.f0 x.f1 x.f2 x.f3) true := by
  obtain ⟨K0, g0⟩ := eqLabelS_ev x.f0 h.1
  exact ⟨K0, fun k hk => by simp [laws_eqAlarm.f, g0 k (by omega)]⟩
theorem rdmidAlarml (pre suf : List S35) (y : S35) : rd_T35 (pre ++ y :: suf) (pre.length : Int) = y := by unfold rd_T35; simp
theorem rdmidAlarmi (pre suf : List S43) (y : S43) : rd_T43 (pre ++ y :: suf) (pre.length : Int) = y := by unfold rd_T43; simp
theorem szAlarmS_l0 : ∀ (suf pre : List S35) (n : Int), 0 ≤ n → n ≤ 1048576 → (∀ y ∈ suf, B35 y) → (pre ++ suf).length < 4611686018427387904 → ∃ r, Ev (fun k => laws_szAlarmS.l0 k (pre ++ suf) n (pre.length : Int)) r ∧ r ≤ n ∧ (0 ≤ r → ∀ y ∈ suf, WAlarm y)
  | [], pre, n, h0, h1, hB, h => by
    refine ⟨n, Ev.step (f := fun _ => some n) (fun k => ?_) (Ev.now _), Int.le_refl _, fun _ y hy => by cases hy⟩
    simp only [laws_szAlarmS.l0]
    rw [if_neg (not_lt_end pre)]
  | y :: suf, pre, n, h0, h1, hB, h => by
    have hp : pre.length < 4611686018427387904 := by simp at h; omega
    have hy := hB y List.mem_cons_self
    obtain ⟨r1, g1, l1, w1⟩ := szAlarm_ev y hy n h0 h1
    by_cases c : r1 < 0
    · refine ⟨-1, Ev.step (f := fun k => (laws_szAlarm.f k y.f0 y.f1 y.f2 y.f3 n).bind fun t => if t < 0 then some (-1) else laws_szAlarmS.l0 k (pre ++ y :: suf) t (wrap64 ((pre.length : Int) + 1))) (fun k => ?_) (Ev.bind g1 ?_), by omega, by omega⟩
      · simp only [laws_szAlarmS.l0]
        rw [if_pos (lt_mid pre suf y), if_pos (nn _), rdmidAlarml]
      · simp only [if_pos c]
        exact Ev.now _
    · obtain ⟨r, g, hl, hw⟩ := szAlarmS_l0 suf (pre ++ [y]) r1 (by omega) (by omega) (fun z hz => hB z (List.mem_cons_of_mem _ hz)) (by simpa using h)
      refine ⟨r, Ev.step (f := fun k => (laws_szAlarm.f k y.f0 y.f1 y.f2 y.f3 n).bind fun t => if t < 0 then some (-1) else laws_szAlarmS.l0 k ((pre ++ [y]) ++ suf) t ((pre ++ [y]).length : Int)) (fun k => ?_) (Ev.bind g1 ?_), by omega, fun hr z hz => ?_⟩
      · simp only [laws_szAlarmS.l0]
        rw [if_pos (lt_mid pre suf y), if_pos (nn _), rdmidAlarml, wrap_up _ (by omega)]
        simp
      · simp only [if_neg c]
        exact g
      · rcases List.mem_cons.1 hz with rfl | hz
        · exact w1 (by omega)
        · exact hw hr z hz
theorem szAlarmS_ev (l : List S35) (hB : l.length ≤ maxLen ∧ ∀ y ∈ l, B35 y) (n : Int) (h0 : 0 ≤ n) (h1 : n ≤ 1048576) : ∃ r, Ev (fun k => laws_szAlarmS.f k l n) r ∧ r ≤ n ∧ (0 ≤ r → l.length ≤ 1048576 ∧ ∀ y ∈ l, WAlarm y) := by
  have q : l.length ≤ 9223372036854775807 := hB.1
  have e : wrap64 (n - (l.length : Int)) = n - (l.length : Int) := wrap_id (by omega) (by omega)
  by_cases c : n - (l.length : Int) < 0
  · exact ⟨-1, ⟨0, fun k _ => by simp [laws_szAlarmS.f, e, c]⟩, by omega, by omega⟩
  · obtain ⟨r, g, hl, hw⟩ := szAlarmS_l0 l [] (n - (l.length : Int)) (by omega) (by omega) hB.2 (by simp; omega)
    refine ⟨r, Ev.congr (fun k => ?_) g, by omega, fun hr => ⟨by omega, hw hr⟩⟩
    unfold laws_szAlarmS.f
    rw [e, if_neg c]
    rfl
theorem toAlarmS_l0 : ∀ (suf pre : List S35), (pre ++ suf).length < 4611686018427387904 → (∀ y ∈ suf, WAlarm y) → Ev (fun k => laws_toAlarmS.l0 k (pre ++ suf) ((pre.map cvAlarm) ++ List.replicate suf.length z43) (pre.length : Int)) ((pre ++ suf).map cvAlarm)
  | [], pre, h, hW => by
    refine Ev.step (f := fun _ => some ((pre ++ []).map cvAlarm)) (fun k => ?_) (Ev.now _)
    simp only [laws_toAlarmS.l0]
    rw [if_neg (not_lt_end pre)]
    simp
  | y :: suf, pre, h, hW => by
    have hp : pre.length < 4611686018427387904 := by simp at h; omega
    have ih := toAlarmS_l0 suf (pre ++ [y]) (by simpa using h) (fun z hz => hW z (List.mem_cons_of_mem _ hz))
    have g := toAlarm_ev y (hW y List.mem_cons_self)
    refine Ev.step (f := fun k => (laws_toAlarm.f k y.f0 y.f1 y.f2 y.f3).bind fun t => laws_toAlarmS.l0 k ((pre ++ [y]) ++ suf) ((pre.map cvAlarm) ++ (⟨t.1, t.2.1, t.2.2.1, t.2.2.2⟩ : S43) :: List.replicate suf.length z43) ((pre ++ [y]).length : Int)) (fun k => ?_) (Ev.bind g ?_)
    · simp only [laws_toAlarmS.l0]
      rw [if_pos (lt_mid pre suf y), if_pos (nn _), rdmidAlarml, wrap_up _ (by omega)]
      congr 1
      funext t
      rw [if_pos (by simp; omega)]
      congr 1
      · simp
      · simp [List.replicate_succ]
      · simp
    · rw [mid_assoc pre suf y]
      have e : (pre.map cvAlarm) ++ (cvAlarm y) :: List.replicate suf.length z43 = ((pre ++ [y]).map cvAlarm) ++ List.replicate suf.length z43 := by simp
      rw [← e] at ih
      exact ih
theorem toAlarmS_ev (l : List S35) (h : l.length ≤ 1048576 ∧ ∀ y ∈ l, WAlarm y) : Ev (fun k => laws_toAlarmS.f k l) (l.map cvAlarm) := by
  have h1 := h.1
  refine Ev.congr (fun k => ?_) (toAlarmS_l0 l [] (by simp; omega) h.2)
  unfold laws_toAlarmS.f
  rw [if_pos (nn l.length), Int.toNat_natCast, if_pos (by omega)]
  rfl
theorem eqAlarmS_l0 : ∀ (suf pre : List S43), (pre ++ suf).length < 4611686018427387904 → (∀ y ∈ suf, WiAlarm y) → Ev (fun k => laws_eqAlarmS.l0 k (pre ++ suf) (pre ++ suf) (pre.length : Int)) true
  | [], pre, h, hW => by
    refine Ev.step (f := fun _ => some true) (fun k => ?_) (Ev.now _)
    simp only [laws_eqAlarmS.l0]
    rw [if_neg (not_lt_end pre)]
  | y :: suf, pre, h, hW => by
    have hp : pre.length < 4611686018427387904 := by simp at h; omega
    have ih := eqAlarmS_l0 suf (pre ++ [y]) (by simpa using h) (fun z hz => hW z (List.mem_cons_of_mem _ hz))
    have g := eqAlarm_ev y (hW y List.mem_cons_self)
    refine Ev.step (f := fun k => (laws_eqAlarm.f k y.f0 y.f1 y.f2 y.f3 y.f0 y.f1 y.f2 y.f3).bind fun t => if t = true then laws_eqAlarmS.l0 k ((pre ++ [y]) ++ suf) ((pre ++ [y]) ++ suf) ((pre ++ [y]).length : Int) else none) (fun k => ?_) (Ev.bind g ?_)
    · simp only [laws_eqAlarmS.l0]
      rw [if_pos (lt_mid pre suf y), if_pos (nn _), if_pos (lt_mid pre suf y), rdmidAlarmi, wrap_up _ (by omega)]
      simp
    · simp only [if_true]
      exact ih
theorem eqAlarmS_ev (l : List S43) (h : l.length ≤ 4000000 ∧ ∀ y ∈ l, WiAlarm y) : Ev (fun k => laws_eqAlarmS.f k l l) true := by
  have h1 := h.1
  refine Ev.congr (fun k => ?_) (eqAlarmS_l0 l [] (by simp; omega) h.2)
  unfold laws_eqAlarmS.f
  rw [if_pos rfl]
  rfl
end Go.Proofs.Yticgekgojgkbgaa.Print
end
section
namespace Go.Proofs.Yticgekgojgkbgaa.Print
open Go.RowKit Go.Proofs.YticgekgojgkbgaaV.PrintWords Go.Proofs.YticgekgojgkbgaaV.PrintLast Go.Proofs.YticgekgojgkbgaaV.PrintMore
attribute [local go_sem] max2_int min2_int max_two min_two max_three min_three max_four min_four
set_option linter.unusedVariables false
set_option linter.unusedSimpArgs false
set_option maxHeartbeats 8000000
set_option maxRecDepth 100000
def laws_heldAlarmS.l0 : Nat → List (S43) → Int → Int → Option (Int)
 | 0, _, _, _ => none
 | k + 1, x0, x1, x5 => if x5 < (x0.length : Int) then (if 0 ≤ x5 then ((laws_heldLabelS.f k ((rd_T43 x0 x5).f0) x1).bind fun t1014 => (if t1014 < 0 then (none) else (if ((rd_T43 x0 x5).f1) = t1014 then (if ((rd_T43 x0 x5).f2) = (wrap64 (t1014 + 1)) then ((laws_markText.f k (wrap64 ((wrap64 (t1014 + 1)) + 1))).bind fun t1018 => (if ((rd_T43 x0 x5).f3).toList = t1018.toList then (laws_heldAlarmS.l0 k x0 (wrap64 ((wrap64 ((wrap64 (t1014 + 1)) + 1)) + 1)) (wrap64 (x5 + 1))) else (none))) else (none)) else (none)))) else (none)) else (some x1)
def laws_heldAlarmS.f (k : Nat) (l0 : List (S43)) (a1 : Int) : Option (Int) := laws_heldAlarmS.l0 k l0 a1 0
theorem laws_heldAlarmS.mono_l : ∀ k, (∀ y0 y1 y2, LeO (laws_heldAlarmS.l0 k y0 y1 y2) (laws_heldAlarmS.l0 (k + 1) y0 y1 y2))
 | 0 => fun _ _ _ r h => by simp [laws_heldAlarmS.l0] at h
 | k + 1 => by
  have ih0 := laws_heldAlarmS.mono_l k
  intro y0 y1 y2
  unfold laws_heldAlarmS.l0
  repeat' first
  | (with_reducible exact ih0 _ _ _)
  | (with_reducible exact laws_heldLabelS.mono _ _ _)
  | (with_reducible exact laws_markText.mono _ _)
  | (with_reducible exact LeO.refl _)
  | (with_reducible exact LeO.none _)
  | (with_reducible refine LeO.ite ?_ ?_)
  | (with_reducible refine LeO.bind ?_ (fun _ => ?_))
  | exact ih0 _ _ _
  | exact laws_heldLabelS.mono _ _ _
  | exact laws_markText.mono _ _
theorem laws_heldAlarmS.mono : ∀ a0 a1 k, LeO (laws_heldAlarmS.f k a0 a1) (laws_heldAlarmS.f (k + 1) a0 a1) := by
 intro a0 a1 k
 have ih0 := laws_heldAlarmS.mono_l k
 unfold laws_heldAlarmS.f
 repeat' first
   | (with_reducible exact ih0 _ _ _)
   | (with_reducible exact laws_heldLabelS.mono _ _ _)
   | (with_reducible exact laws_markText.mono _ _)
   | (with_reducible exact LeO.refl _)
   | (with_reducible exact LeO.none _)
   | (with_reducible refine LeO.ite ?_ ?_)
   | (with_reducible refine LeO.bind ?_ (fun _ => ?_))
   | exact ih0 _ _ _
   | exact laws_heldLabelS.mono _ _ _
   | exact laws_markText.mono _ _
def laws_heldAlarmS.T13 : Bool × List (List Nat × List Nat) := (true, [([], []), ([], []), ([0, 1], [0, 1]), ([2], [2]), ([3], [3]), ([], []), ([5], [5]), ([4, 6], [4, 6])])
def laws_heldAlarmS.B13 : List Nat := [0, 0, 3, 7, 15, 0, 32, 127]
theorem laws_heldAlarmS.tab13 : rtab .any (opsOf Try.f54 13) = laws_heldAlarmS.T13 := by kernel_rfl
theorem laws_heldAlarmS.bits13 : waitsOk laws_heldAlarmS.T13.2 laws_heldAlarmS.B13 = true := by kernel_rfl
theorem laws_heldAlarmS.calls (k : Nat) (A0 : Option Addr) (c0 : Nat) (l0 : List (S43)) (a1 : Int) (r : Int) (w : World) (hr0 : Kd.C k43 w A0 l0.length l0) (hc0 : l0.length ≤ c0) (h : laws_heldAlarmS.f k l0 a1 = some r) :
  Calls Try.prog 54 #[.slice A0 l0.length c0, .int .i64 a1] w fun e w' => e = .returned (.int .i64 r) ∧ Below w.heap.size w w' := by
 have HR0 := Aside0.mk hr0
 have HC0 := Aside0.mk hc0
 clear hr0 hc0
 have HB := Aside0.mk (Below.refl w.heap.size w)
 have H : (laws_heldAlarmS.l0 k l0 a1 0) = some r := h
 clear h
 have H' := Aside0.mk H
 clear H
 go_enter Try.func54, Try.ntmps54
 go_wp2
 go_loopg [1, 5] k (fun kq v1 v5 w' => ∃ (x1_1 : Int) (x5_1 : Int), v1 = .int .i64 x1_1 ∧ v5 = .int .i64 x5_1 ∧ Aside0 (laws_heldAlarmS.l0 kq l0 x1_1 x5_1 = some r) ∧ Aside0 (kq ≤ k) ∧ Aside0 (Below w.heap.size w w'))
 case atStart => exact ⟨(a1), (0), (by first | rfl | (simp; done) | (simp [*]; done)), (by first | rfl | (simp; done) | (simp [*]; done)), H', ⟨Nat.le_refl _⟩, ⟨by repeat (first | (with_reducible first | exact HB.out | apply ba_ | apply bn_ | apply bd_) | exact HB.out)⟩⟩
 case round =>
  clear H'
  try clear p2
  obtain ⟨x1_1, x5_1, rfl, rfl, HA, HK1, HB⟩ := hrel
  cases gk with
  | zero => exact absurd HA.out (by simp [laws_heldAlarmS.l0])
  | succ k1 =>
   have H := HA.out
   clear HA
   simp only [laws_heldAlarmS.l0] at H
   by_cases c3 : x5_1 < (l0.length : Int)
   ·
    rw [if_pos c3] at H
    have c3b0 := decide_eq_true c3
    clear c3
    by_cases c4 : 0 ≤ x5_1
    ·
     rw [if_pos c4] at H
     have c4b0 := decide_eq_true c4
     clear c4
     replace H := Option.bind_eq_some_iff.mp H
     obtain ⟨t1014, A50, H⟩ := H
     have A5 := Aside0.mk A50
     clear A50
     by_cases c6 : t1014 < 0
     ·
      rw [if_pos c6] at H
      exact absurd H (by simp)
     rw [if_neg c6] at H
     have c6b0 : decide (t1014 < 0) = false := decide_eq_false c6
     clear c6
     by_cases c7 : ((rd_T43 l0 x5_1).f1) = t1014
     ·
      rw [if_pos c7] at H
      have c7b0 : (((rd_T43 l0 x5_1).f1) == t1014) = true := beq_iff_eq.mpr c7
      have c7b1 : (((rd_T43 l0 x5_1).f1) != t1014) = false := bne_eq_false_iff_eq.mpr c7
      clear c7
      by_cases c8 : ((rd_T43 l0 x5_1).f2) = (wrap64 (t1014 + 1))
      ·
       rw [if_pos c8] at H
       have c8b0 : (((rd_T43 l0 x5_1).f2) == (wrap64 (t1014 + 1))) = true := beq_iff_eq.mpr c8
       have c8b1 : (((rd_T43 l0 x5_1).f2) != (wrap64 (t1014 + 1))) = false := bne_eq_false_iff_eq.mpr c8
       clear c8
       replace H := Option.bind_eq_some_iff.mp H
       obtain ⟨t1018, A90, H⟩ := H
       have A9 := Aside0.mk A90
       clear A90
       by_cases c10 : ((rd_T43 l0 x5_1).f3).toList = t1018.toList
       ·
        rw [if_pos c10] at H
        have c10b0 : (((rd_T43 l0 x5_1).f3).toList == t1018.toList) = true := beq_iff_eq.mpr c10
        have c10b1 : (((rd_T43 l0 x5_1).f3).toList != t1018.toList) = false := bne_eq_false_iff_eq.mpr c10
        clear c10
        have H' := Aside0.mk H
        clear H
        have p1013 : 0 ≤ (x5_1 : Int) := of_decide_eq_true (by with_reducible assumption)
        have q1013 : x5_1 < (l0.length : Int) := of_decide_eq_true (by with_reducible assumption)
        obtain ⟨ad1013, A1013_0, c1013_0, e1013, hx1013_0, hx1013_1, hx1013_2, hx1013_3, hl1013_0, hi1013_0⟩ := at_T43 HR0.out x5_1 p1013 q1013
        cases e1013
        replace hx1013_0 := cl_ HB.out hx1013_0
        replace hx1013_1 := cl_ HB.out hx1013_1
        replace hx1013_2 := cl_ HB.out hx1013_2
        replace hx1013_3 := cl_ HB.out hx1013_3
        have HR1013_0 := Aside0.mk hi1013_0
        have HC1013_0 := Aside0.mk hl1013_0
        clear hi1013_0 hl1013_0
        replace p1013 := eq_true p1013
        replace q1013 := eq_true q1013
        try go_wp2_with (first | ((with_reducible refine gate_callee (f := 83) rfl ?_); refine goesL_ (some 18) rfl rfl Try.func83 (by kernel_rfl) rfl #[.slice A1013_0 ((rd_T43 l0 x5_1).f0).length c1013_0, .int .i64 x1_1] rfl (by (try simp only [mp_]); first | done | rfl | (simp only [List.length_drop, List.length_take]; rfl)) ?_; (with_reducible refine (laws_heldLabelS.calls k1 _ _ ((rd_T43 l0 x5_1).f0) x1_1 t1014 _ ?side1 ?side2 A5.out).mono ?_); (case side1 => repeat (first | exact (Kd.C_below HR1013_0.out HB.out) | (with_reducible first | refine ca_ ?_ _ | refine cn_ ?_ _ | refine cd_ ?_))); (case side2 => exact HC1013_0.out); rintro e w11 ⟨rfl, hb⟩; refine ⟨_, rfl, ?_⟩; have n0_ := Aside0.mk (below_step (by repeat (first | (with_reducible first | exact HB.out | apply ba_ | apply bn_ | apply bd_) | exact HB.out)) hb); clear HB; have HB := n0_; clear n0_; (try clear hb); (try clear hb2); (try clear hk); (try clear hi); have p1015 : 0 ≤ (x5_1 : Int) := of_decide_eq_true (by with_reducible assumption); have q1015 : x5_1 < (l0.length : Int) := of_decide_eq_true (by with_reducible assumption); obtain ⟨ad1015, A1015_0, c1015_0, e1015, hx1015_0, hx1015_1, hx1015_2, hx1015_3, hl1015_0, hi1015_0⟩ := at_T43 HR0.out x5_1 p1015 q1015; obtain rfl : ad1013 = ad1015 := (by injection e1015); replace hx1015_0 := cl_ HB.out hx1015_0; replace hx1015_1 := cl_ HB.out hx1015_1; replace hx1015_2 := cl_ HB.out hx1015_2; replace hx1015_3 := cl_ HB.out hx1015_3; have HR1015_0 := Aside0.mk hi1015_0; have HC1015_0 := Aside0.mk hl1015_0; clear hi1015_0 hl1015_0; replace p1015 := eq_true p1015; replace q1015 := eq_true q1015; have p1016 : 0 ≤ (x5_1 : Int) := of_decide_eq_true (by with_reducible assumption); have q1016 : x5_1 < (l0.length : Int) := of_decide_eq_true (by with_reducible assumption); obtain ⟨ad1016, A1016_0, c1016_0, e1016, hx1016_0, hx1016_1, hx1016_2, hx1016_3, hl1016_0, hi1016_0⟩ := at_T43 HR0.out x5_1 p1016 q1016; obtain rfl : ad1013 = ad1016 := (by injection e1016); replace hx1016_0 := cl_ HB.out hx1016_0; replace hx1016_1 := cl_ HB.out hx1016_1; replace hx1016_2 := cl_ HB.out hx1016_2; replace hx1016_3 := cl_ HB.out hx1016_3; have HR1016_0 := Aside0.mk hi1016_0; have HC1016_0 := Aside0.mk hl1016_0; clear hi1016_0 hl1016_0; replace p1016 := eq_true p1016; replace q1016 := eq_true q1016; have ea_ := Option.some.inj (hx1015_0.symm.trans hx1016_0); injection ea_ with ea_ en_ ec_; subst ea_; subst ec_; clear en_))
        have n0_ := Aside0.mk (bd_ HB.out)
        clear HB
        have HB := n0_
        clear n0_
        have p1017 : 0 ≤ (x5_1 : Int) := of_decide_eq_true (by with_reducible assumption)
        have q1017 : x5_1 < (l0.length : Int) := of_decide_eq_true (by with_reducible assumption)
        obtain ⟨ad1017, A1017_0, c1017_0, e1017, hx1017_0, hx1017_1, hx1017_2, hx1017_3, hl1017_0, hi1017_0⟩ := at_T43 HR0.out x5_1 p1017 q1017
        have hw1017_3 := hx1017_3
        have hw1017_2 := hx1017_2
        have hw1017_1 := hx1017_1
        have hw1017_0 := hx1017_0
        obtain rfl : ad1013 = ad1017 := (by injection e1017)
        replace hx1017_0 := cl_ HB.out hx1017_0
        replace hx1017_1 := cl_ HB.out hx1017_1
        replace hx1017_2 := cl_ HB.out hx1017_2
        replace hx1017_3 := cl_ HB.out hx1017_3
        have HR1017_0 := Aside0.mk hi1017_0
        have HC1017_0 := Aside0.mk hl1017_0
        clear hi1017_0 hl1017_0
        replace p1017 := eq_true p1017
        replace q1017 := eq_true q1017
        refine start_ (n := 8) (S := fun w' => w'.cell? (ad1013.add ((x5_1).toNat * 4)) = some (.slice A1017_0 ((rd_T43 l0 x5_1).f0).length c1017_0) ∧ w'.cell? ⟨(ad1013.add ((x5_1).toNat * 4)).block, (ad1013.add ((x5_1).toNat * 4)).off + 1, none⟩ = some (.int .i64 ((rd_T43 l0 x5_1).f1)) ∧ w'.cell? ⟨(ad1013.add ((x5_1).toNat * 4)).block, (ad1013.add ((x5_1).toNat * 4)).off + 2, none⟩ = some (.int .i64 ((rd_T43 l0 x5_1).f2)) ∧ w'.cell? ⟨(ad1013.add ((x5_1).toNat * 4)).block, (ad1013.add ((x5_1).toNat * 4)).off + 3, none⟩ = some (.string ((rd_T43 l0 x5_1).f3))) (ds := []) #[f_,f_,f_,f_,f_,f_,f_,f_] (by kernel_rfl) rfl rfl ⟨((HB.out.cell (World.block_lt_of_cell? w _ hw1017_0)).trans hw1017_0), ((HB.out.cell (World.block_lt_of_cell? w _ hw1017_1)).trans hw1017_1), ((HB.out.cell (World.block_lt_of_cell? w _ hw1017_2)).trans hw1017_2), ((HB.out.cell (World.block_lt_of_cell? w _ hw1017_3)).trans hw1017_3)⟩ (fun hHeld => ?_); refine with_tabW laws_heldAlarmS.tab13 laws_heldAlarmS.bits13 (fun HT_ HW_ => ?_)
        generalize w11.drew = w12 at HB HR1017_0 hx1017_0 hx1017_1 hx1017_2 hx1017_3 hHeld ⊢
        refine pu_ 0 39 ?_ (b_ 1 7) rfl rfl HT_.out ?_ ?_ ?_ ?_; rotate_left; intro w'; go_simp; with_reducible rfl; rotate_left; simp only [fr_]; rfl
        refine pu_ 1 40 ?_ (b_ 2 6) rfl rfl HT_.out ?_ ?_ ?_ ?_; rotate_left; intro w'; go_simp; with_reducible rfl; rotate_left; simp only [fr_]; rfl
        refine pu_ 2 41 ?_ (b_ 3 5) rfl rfl HT_.out ?_ ?_ ?_ ?_; rotate_left; intro w'; go_simp; with_reducible rfl; rotate_left; simp only [fr_]; rfl
        refine pu_ 3 42 ?_ (b_ 4 4) rfl rfl HT_.out ?_ ?_ ?_ ?_; rotate_left; intro w'; go_simp; with_reducible rfl; rotate_left; simp only [fr_]; rfl
        refine pu_ 5 44 ?_ #[t_,t_,t_,t_,f_,t_,f_,f_] rfl rfl HT_.out ?_ ?_ ?_ ?_; rotate_left; intro w'; go_simp; with_reducible rfl; rotate_left; simp only [fr_]; rfl
        refine take_ (i := 4) (N := some 43) (v := ?_) (a' := ?_) #[t_,t_,t_,t_,t_,t_,f_,f_] rfl rfl (take_ofW HT_.out HW_.out (by kernel_rfl)) (fun _ _ _ h => h) (Or.inl ⟨by rfl, ?_⟩) hHeld ?_ ?_
        rotate_left
        ·
         rintro w' ⟨s0, s1, s2, s3⟩
         go_simp
         with_reducible rfl
        rotate_left
        ·
         simp only [fr_]
         rfl
        refine one_ (i := 6) (N := some 45) #[t_,t_,t_,t_,t_,t_,t_,f_] rfl rfl (one_of HT_.out (by kernel_rfl)) (by decide) (fun K hK => ?_)
        refine goes_ Try.func82 (by kernel_rfl) rfl #[.int .i64 (wrap64 ((wrap64 (t1014 + 1)) + 1))] (by rfl) rfl rfl (by (try simp only [mp_]); first | done | rfl | (simp only [List.length_drop, List.length_take]; rfl)) ?_
        with_reducible refine (laws_markText.calls k1 (wrap64 ((wrap64 (t1014 + 1)) + 1)) t1018 _ A9.out).mono ?_
        rintro e w13 ⟨rfl, hb⟩
        refine ⟨_, rfl, ?_⟩
        have n0_ := Aside0.mk (below_step (by repeat (first | (with_reducible first | exact HB.out | apply ba_ | apply bn_ | apply bd_) | exact HB.out)) hb)
        clear HB
        have HB := n0_
        clear n0_
        (try clear hb)
        (try clear hb2)
        (try clear hk)
        (try clear hi)
        refine hK.out _ _ ⟨((HB.out.cell (World.block_lt_of_cell? w _ hw1017_0)).trans hw1017_0), ((HB.out.cell (World.block_lt_of_cell? w _ hw1017_1)).trans hw1017_1), ((HB.out.cell (World.block_lt_of_cell? w _ hw1017_2)).trans hw1017_2), ((HB.out.cell (World.block_lt_of_cell? w _ hw1017_3)).trans hw1017_3)⟩ (fun hHeld => ?_)
        clear hK K
        refine norm_ (a' := ?_) ?_ ?_
        rotate_left
        ·
         show Act.put _ (some 45) _ = _
         simp only [fr_]
         rfl
        refine pu_ 7 46 ?_ (b_ 8 0) rfl rfl HT_.out ?_ ?_ ?_ ?_; rotate_left; intro w'; go_simp; with_reducible rfl; rotate_left; simp only [fr_]; rfl
        refine done_ (done_of HT_.out (by kernel_rfl)) ?_
        try go_wp2
        go_roundg k1
        case measure => have := HK1.out; omega
        case rel => exact ⟨(wrap64 ((wrap64 ((wrap64 (t1014 + 1)) + 1)) + 1)), (wrap64 (x5_1 + 1)), (by first | rfl | (simp; done) | (simp [*]; done)), (by first | rfl | (simp; done) | (simp [*]; done)), H', ⟨by have := HK1.out; omega⟩, ⟨by repeat (first | (with_reducible first | exact HB.out | apply ba_ | apply bn_ | apply bd_) | exact HB.out)⟩⟩
       rw [if_neg c10] at H
       exact absurd H (by simp)
      rw [if_neg c8] at H
      exact absurd H (by simp)
     rw [if_neg c7] at H
     exact absurd H (by simp)
    rw [if_neg c4] at H
    exact absurd H (by simp)
   rw [if_neg c3] at H
   have c3b0 : decide (x5_1 < (l0.length : Int)) = false := decide_eq_false c3
   clear c3
   obtain rfl := Option.some.inj H
   go_wp2
   go_ret
   exact ⟨by first | rfl | (simp [errW_none, errW_some] <;> rfl) | (simp [*, errW_none, errW_some] <;> rfl), by repeat (first | (with_reducible first | exact HB.out | apply ba_ | apply bn_ | apply bd_) | exact HB.out)⟩
end Go.Proofs.Yticgekgojgkbgaa.Print
end
section
namespace Go.Proofs.Yticgekgojgkbgaa.Print
open Go.RowKit Go.Proofs.YticgekgojgkbgaaV.PrintWords Go.Proofs.YticgekgojgkbgaaV.PrintLast Go.Proofs.YticgekgojgkbgaaV.PrintMore
set_option linter.unusedVariables false
set_option linter.unusedSimpArgs false
theorem markText_l0 : ∀ (n : Nat) (x : Int) (acc : ByteArray), 0 ≤ x → x.toNat = n → acc.size + n < 4611686018427387904 → ∃ s, Ev (fun k => laws_markText.l0 k x acc) s := by
  intro n
  induction n using Nat.strongRecOn with
  | _ n ih =>
    intro x acc h0 hx hs
    by_cases c : x > 0
    · have e : wrap64 (Int.tdiv x 10) = x / 10 := by rw [Int.tdiv_eq_ediv_of_nonneg h0]; exact wrap_id (by omega) (by omega)
      have hz : (strOfNums [(wrap64 (48 + (Int.tmod x 10))) % 256]).size = 1 := by rw [strOfNums_size]; rfl
      have hsz : ((strOfNums [(wrap64 (48 + (Int.tmod x 10))) % 256]) ++ acc).size = 1 + acc.size := by rw [ByteArray.size_append, hz]
      obtain ⟨s, g⟩ := ih (x / 10).toNat (by omega) (x / 10) ((strOfNums [(wrap64 (48 + (Int.tmod x 10))) % 256]) ++ acc) (by omega) rfl (by rw [hsz]; omega)
      refine ⟨s, Ev.step (fun k => ?_) g⟩
      simp only [laws_markText.l0]
      rw [if_pos c, Option.bind_some, if_pos (by rw [hz]; omega), e]
    · refine ⟨(⟨#[109]⟩ : ByteArray) ++ acc, Ev.step (f := fun _ => some ((⟨#[109]⟩ : ByteArray) ++ acc)) (fun k => ?_) (Ev.now _)⟩
      simp only [laws_markText.l0]
      rw [if_neg c, if_pos (by omega)]
theorem markText_some (x : Int) (h0 : 0 ≤ x) (h1 : x < 4611686018427387904) : ∃ s, Ev (fun k => laws_markText.f k x) s := by
  by_cases c : x ≤ 0
  · exact ⟨⟨#[109, 48]⟩, 0, fun k _ => by show laws_markText.f k x = _; unfold laws_markText.f; exact if_pos c⟩
  · obtain ⟨s, g⟩ := markText_l0 x.toNat x ⟨#[]⟩ h0 rfl (by have : (⟨#[]⟩ : ByteArray).size = 0 := rfl; omega)
    exact ⟨s, Ev.congr (fun k => by show laws_markText.f k x = laws_markText.l0 k x ⟨#[]⟩; unfold laws_markText.f; exact if_neg c) g⟩
open Classical in
noncomputable def mkText (x : Int) : ByteArray := if h : ∃ s, Ev (fun k => laws_markText.f k x) s then h.choose else ⟨#[]⟩
theorem markText_ev (x : Int) (h0 : 0 ≤ x) (h1 : x < 4611686018427387904) : Ev (fun k => laws_markText.f k x) (mkText x) := by
  have h := markText_some x h0 h1
  unfold mkText
  rw [dif_pos h]
  exact h.choose_spec
def cnLabels : List S88 → Nat
  | [] => 0
  | _ :: ys => 2 + cnLabels ys
noncomputable def mkLabels : Int → List S88 → List S88
  | _, [] => []
  | k0, _ :: ys => ⟨mkText k0, mkText (k0 + 1)⟩ :: mkLabels (k0 + 2) ys
theorem mkLabels_length : ∀ (k0 : Int) (l : List S88), (mkLabels k0 l).length = l.length
  | _, [] => rfl
  | k0, y :: ys => by simp [mkLabels, mkLabels_length _ ys]
theorem cnLabels_le : ∀ (l : List S88), l.length ≤ cnLabels l
  | [] => Nat.le_refl _
  | y :: ys => by have := cnLabels_le ys; simp only [cnLabels, List.length_cons]; omega
theorem rdmmLabel (pre suf : List S88) (y : S88) : rd_T88 (pre ++ y :: suf) (pre.length : Int) = y := by unfold rd_T88; simp
theorem markLabelS_l0 : ∀ (suf pre : List S88) (k0 : Int), 0 ≤ k0 → k0 + (cnLabels suf : Int) < 4611686018427387904 → (pre ++ suf).length < 4611686018427387904 → Ev (fun k => laws_markLabelS.l0 k (pre ++ suf) k0 (pre.length : Int)) (k0 + (cnLabels suf : Int), pre ++ mkLabels k0 suf)
  | [], pre, k0, h0, h1, h => by
    refine Ev.step (f := fun _ => some (k0, pre ++ [])) (fun k => ?_) (by rw [show (k0 + (cnLabels [] : Int), pre ++ mkLabels k0 []) = (k0, pre ++ []) from by simp [cnLabels, mkLabels]]; exact Ev.now _)
    simp only [laws_markLabelS.l0]
    rw [if_neg (not_lt_end pre)]
  | y :: suf, pre, k0, h0, h1, h => by
    have hp : pre.length < 4611686018427387904 := by simp at h; omega
    have hc : cnLabels (y :: suf) = 2 + cnLabels suf := rfl
    rw [hc] at h1 ⊢
    obtain ⟨K, g⟩ := markLabelS_l0 suf (pre ++ [(⟨mkText k0, mkText (k0 + 1)⟩ : S88)]) (k0 + 2) (by omega) (by omega) (by simpa using h)
    obtain ⟨K0, g0⟩ := markText_ev k0 (by omega) (by omega)
    obtain ⟨K1, g1⟩ := markText_ev (k0 + 1) (by omega) (by omega)
    refine ⟨K + K0 + K1 + 1, fun k hk => ?_⟩
    obtain ⟨k, rfl⟩ : ∃ m, k = m + 1 := ⟨k - 1, by omega⟩
    have G := g k (by omega)
    have G0 := g0 k (by omega)
    have G1 := g1 k (by omega)
    dsimp only at G G0 G1
    have w0 : wrap64 (k0 + 1) = (k0 + 1) := (wrap_id (by omega) (by omega)).trans (by omega)
    have w1 : wrap64 ((k0 + 1) + 1) = (k0 + 2) := (wrap_id (by omega) (by omega)).trans (by omega)
    simp only [laws_markLabelS.l0]
    rw [if_pos (lt_mid pre suf y)]
    simp only [nn, if_true, rdmmLabel, Option.bind_some, Int.toNat_natCast, set_mid, wrap_up pre.length (by omega), G0, G1, w0, w1]
    have eL : pre ++ (⟨mkText k0, mkText (k0 + 1)⟩ : S88) :: suf = (pre ++ [(⟨mkText k0, mkText (k0 + 1)⟩ : S88)]) ++ suf := by simp
    have eN : ((pre.length + 1 : Nat) : Int) = ((pre ++ [(⟨mkText k0, mkText (k0 + 1)⟩ : S88)]).length : Int) := by simp
    rw [eL, eN, G]
    refine congrArg some (Prod.ext ?_ ?_)
    · simp only []; push_cast; omega
    · simp [mkLabels]
theorem markLabelS_ev (l : List S88) (k0 : Int) (h0 : 0 ≤ k0) (h1 : k0 + (cnLabels l : Int) < 4611686018427387904) : Ev (fun k => laws_markLabelS.f k l k0) (k0 + (cnLabels l : Int), mkLabels k0 l) := by
  have := cnLabels_le l
  exact Ev.congr (fun k => by unfold laws_markLabelS.f; rfl) (markLabelS_l0 l [] k0 h0 h1 (by simp; omega))
theorem heldLabelS_l0 : ∀ (suf pre : List S88) (k0 : Int), 0 ≤ k0 → k0 + (cnLabels suf : Int) < 4611686018427387904 → (pre ++ suf).length < 4611686018427387904 → Ev (fun k => laws_heldLabelS.l0 k (pre ++ mkLabels k0 suf) k0 (pre.length : Int)) (k0 + (cnLabels suf : Int))
  | [], pre, k0, h0, h1, h => by
    refine Ev.step (f := fun _ => some k0) (fun k => ?_) (by simpa [cnLabels] using Ev.now k0)
    rw [show mkLabels k0 [] = [] from rfl]
    simp only [laws_heldLabelS.l0]
    rw [if_neg (not_lt_end pre)]
  | y :: suf, pre, k0, h0, h1, h => by
    have hp : pre.length < 4611686018427387904 := by simp at h; omega
    have hc : cnLabels (y :: suf) = 2 + cnLabels suf := rfl
    rw [hc] at h1 ⊢
    obtain ⟨K, g⟩ := heldLabelS_l0 suf (pre ++ [(⟨mkText k0, mkText (k0 + 1)⟩ : S88)]) (k0 + 2) (by omega) (by omega) (by simpa using h)
    obtain ⟨K0, g0⟩ := markText_ev k0 (by omega) (by omega)
    obtain ⟨K1, g1⟩ := markText_ev (k0 + 1) (by omega) (by omega)
    refine ⟨K + K0 + K1 + 1, fun k hk => ?_⟩
    obtain ⟨k, rfl⟩ : ∃ m, k = m + 1 := ⟨k - 1, by omega⟩
    have G := g k (by omega)
    have G0 := g0 k (by omega)
    have G1 := g1 k (by omega)
    dsimp only at G G0 G1
    have w0 : wrap64 (k0 + 1) = (k0 + 1) := (wrap_id (by omega) (by omega)).trans (by omega)
    have w1 : wrap64 ((k0 + 1) + 1) = (k0 + 2) := (wrap_id (by omega) (by omega)).trans (by omega)
    rw [show mkLabels k0 (y :: suf) = ⟨mkText k0, mkText (k0 + 1)⟩ :: mkLabels (k0 + 2) suf from rfl]
    simp only [laws_heldLabelS.l0]
    rw [if_pos (lt_mid pre _ _)]
    simp only [nn, if_true, if_false, rdmmLabel, Option.bind_some, wrap_up pre.length (by omega), G0, G1, w0, w1, bne_self_eq_false, Bool.false_eq_true]
    have eL : pre ++ (⟨mkText k0, mkText (k0 + 1)⟩ : S88) :: mkLabels (k0 + 2) suf = (pre ++ [(⟨mkText k0, mkText (k0 + 1)⟩ : S88)]) ++ mkLabels (k0 + 2) suf := by simp
    have eN : ((pre.length + 1 : Nat) : Int) = ((pre ++ [(⟨mkText k0, mkText (k0 + 1)⟩ : S88)]).length : Int) := by simp
    rw [eL, eN, G]
    refine congrArg some ?_
    push_cast; omega
theorem heldLabelS_ev (l : List S88) (k0 : Int) (h0 : 0 ≤ k0) (h1 : k0 + (cnLabels l : Int) < 4611686018427387904) : Ev (fun k => laws_heldLabelS.f k (mkLabels k0 l) k0) (k0 + (cnLabels l : Int)) := by
  have := cnLabels_le l
  exact Ev.congr (fun k => by unfold laws_heldLabelS.f; rfl) (heldLabelS_l0 l [] k0 h0 h1 (by simp; omega))
def cnAlarms : List S43 → Nat
  | [] => 0
  | y :: ys => cnLabels y.f0 + 3 + cnAlarms ys
noncomputable def mkAlarms : Int → List S43 → List S43
  | _, [] => []
  | k0, y :: ys => ⟨mkLabels k0 y.f0, (k0 + (cnLabels y.f0 : Int)), (k0 + (cnLabels y.f0 : Int) + 1), mkText (k0 + (cnLabels y.f0 : Int) + 2)⟩ :: mkAlarms (k0 + (cnLabels y.f0 : Int) + 3) ys
theorem mkAlarms_length : ∀ (k0 : Int) (l : List S43), (mkAlarms k0 l).length = l.length
  | _, [] => rfl
  | k0, y :: ys => by simp [mkAlarms, mkAlarms_length _ ys]
theorem cnAlarms_le : ∀ (l : List S43), l.length ≤ cnAlarms l
  | [] => Nat.le_refl _
  | y :: ys => by have := cnAlarms_le ys; simp only [cnAlarms, List.length_cons]; omega
theorem rdmmAlarm (pre suf : List S43) (y : S43) : rd_T43 (pre ++ y :: suf) (pre.length : Int) = y := by unfold rd_T43; simp
theorem markAlarmS_l0 : ∀ (suf pre : List S43) (k0 : Int), 0 ≤ k0 → k0 + (cnAlarms suf : Int) < 4611686018427387904 → (pre ++ suf).length < 4611686018427387904 → Ev (fun k => laws_markAlarmS.l0 k (pre ++ suf) k0 (pre.length : Int)) (k0 + (cnAlarms suf : Int), pre ++ mkAlarms k0 suf)
  | [], pre, k0, h0, h1, h => by
    refine Ev.step (f := fun _ => some (k0, pre ++ [])) (fun k => ?_) (by rw [show (k0 + (cnAlarms [] : Int), pre ++ mkAlarms k0 []) = (k0, pre ++ []) from by simp [cnAlarms, mkAlarms]]; exact Ev.now _)
    simp only [laws_markAlarmS.l0]
    rw [if_neg (not_lt_end pre)]
  | y :: suf, pre, k0, h0, h1, h => by
    have hp : pre.length < 4611686018427387904 := by simp at h; omega
    have hc : cnAlarms (y :: suf) = cnLabels y.f0 + 3 + cnAlarms suf := rfl
    rw [hc] at h1 ⊢
    obtain ⟨K, g⟩ := markAlarmS_l0 suf (pre ++ [(⟨mkLabels k0 y.f0, (k0 + (cnLabels y.f0 : Int)), (k0 + (cnLabels y.f0 : Int) + 1), mkText (k0 + (cnLabels y.f0 : Int) + 2)⟩ : S43)]) (k0 + (cnLabels y.f0 : Int) + 3) (by omega) (by omega) (by simpa using h)
    obtain ⟨K0, g0⟩ := markLabelS_ev y.f0 k0 (by omega) (by omega)
    obtain ⟨K1, g1⟩ := markText_ev (k0 + (cnLabels y.f0 : Int) + 2) (by omega) (by omega)
    refine ⟨K + K0 + K1 + 1, fun k hk => ?_⟩
    obtain ⟨k, rfl⟩ : ∃ m, k = m + 1 := ⟨k - 1, by omega⟩
    have G := g k (by omega)
    have G0 := g0 k (by omega)
    have G1 := g1 k (by omega)
    dsimp only at G G0 G1
    have w1 : wrap64 ((k0 + (cnLabels y.f0 : Int)) + 1) = (k0 + (cnLabels y.f0 : Int) + 1) := (wrap_id (by omega) (by omega)).trans (by omega)
    have w2 : wrap64 ((k0 + (cnLabels y.f0 : Int) + 1) + 1) = (k0 + (cnLabels y.f0 : Int) + 2) := (wrap_id (by omega) (by omega)).trans (by omega)
    have w3 : wrap64 ((k0 + (cnLabels y.f0 : Int) + 2) + 1) = (k0 + (cnLabels y.f0 : Int) + 3) := (wrap_id (by omega) (by omega)).trans (by omega)
    simp only [laws_markAlarmS.l0]
    rw [if_pos (lt_mid pre suf y)]
    simp only [nn, if_true, rdmmAlarm, Option.bind_some, Int.toNat_natCast, set_mid, wrap_up pre.length (by omega), G0, G1, w1, w2, w3]
    have eL : pre ++ (⟨mkLabels k0 y.f0, (k0 + (cnLabels y.f0 : Int)), (k0 + (cnLabels y.f0 : Int) + 1), mkText (k0 + (cnLabels y.f0 : Int) + 2)⟩ : S43) :: suf = (pre ++ [(⟨mkLabels k0 y.f0, (k0 + (cnLabels y.f0 : Int)), (k0 + (cnLabels y.f0 : Int) + 1), mkText (k0 + (cnLabels y.f0 : Int) + 2)⟩ : S43)]) ++ suf := by simp
    have eN : ((pre.length + 1 : Nat) : Int) = ((pre ++ [(⟨mkLabels k0 y.f0, (k0 + (cnLabels y.f0 : Int)), (k0 + (cnLabels y.f0 : Int) + 1), mkText (k0 + (cnLabels y.f0 : Int) + 2)⟩ : S43)]).length : Int) := by simp
    rw [eL, eN, G]
    refine congrArg some (Prod.ext ?_ ?_)
    · simp only []; push_cast; omega
    · simp [mkAlarms]
theorem markAlarmS_ev (l : List S43) (k0 : Int) (h0 : 0 ≤ k0) (h1 : k0 + (cnAlarms l : Int) < 4611686018427387904) : Ev (fun k => laws_markAlarmS.f k l k0) (k0 + (cnAlarms l : Int), mkAlarms k0 l) := by
  have := cnAlarms_le l
  exact Ev.congr (fun k => by unfold laws_markAlarmS.f; rfl) (markAlarmS_l0 l [] k0 h0 h1 (by simp; omega))
theorem heldAlarmS_l0 : ∀ (suf pre : List S43) (k0 : Int), 0 ≤ k0 → k0 + (cnAlarms suf : Int) < 4611686018427387904 → (pre ++ suf).length < 4611686018427387904 → Ev (fun k => laws_heldAlarmS.l0 k (pre ++ mkAlarms k0 suf) k0 (pre.length : Int)) (k0 + (cnAlarms suf : Int))
  | [], pre, k0, h0, h1, h => by
    refine Ev.step (f := fun _ => some k0) (fun k => ?_) (by simpa [cnAlarms] using Ev.now k0)
    rw [show mkAlarms k0 [] = [] from rfl]
    simp only [laws_heldAlarmS.l0]
    rw [if_neg (not_lt_end pre)]
  | y :: suf, pre, k0, h0, h1, h => by
    have hp : pre.length < 4611686018427387904 := by simp at h; omega
    have hc : cnAlarms (y :: suf) = cnLabels y.f0 + 3 + cnAlarms suf := rfl
    rw [hc] at h1 ⊢
    obtain ⟨K, g⟩ := heldAlarmS_l0 suf (pre ++ [(⟨mkLabels k0 y.f0, (k0 + (cnLabels y.f0 : Int)), (k0 + (cnLabels y.f0 : Int) + 1), mkText (k0 + (cnLabels y.f0 : Int) + 2)⟩ : S43)]) (k0 + (cnLabels y.f0 : Int) + 3) (by omega) (by omega) (by simpa using h)
    obtain ⟨K0, g0⟩ := heldLabelS_ev y.f0 k0 (by omega) (by omega)
    obtain ⟨K1, g1⟩ := markText_ev (k0 + (cnLabels y.f0 : Int) + 2) (by omega) (by omega)
    refine ⟨K + K0 + K1 + 1, fun k hk => ?_⟩
    obtain ⟨k, rfl⟩ : ∃ m, k = m + 1 := ⟨k - 1, by omega⟩
    have G := g k (by omega)
    have G0 := g0 k (by omega)
    have G1 := g1 k (by omega)
    dsimp only at G G0 G1
    have w1 : wrap64 ((k0 + (cnLabels y.f0 : Int)) + 1) = (k0 + (cnLabels y.f0 : Int) + 1) := (wrap_id (by omega) (by omega)).trans (by omega)
    have w2 : wrap64 ((k0 + (cnLabels y.f0 : Int) + 1) + 1) = (k0 + (cnLabels y.f0 : Int) + 2) := (wrap_id (by omega) (by omega)).trans (by omega)
    have w3 : wrap64 ((k0 + (cnLabels y.f0 : Int) + 2) + 1) = (k0 + (cnLabels y.f0 : Int) + 3) := (wrap_id (by omega) (by omega)).trans (by omega)
    have n0 : ¬ (k0 + (cnLabels y.f0 : Int) < 0) := by omega
    rw [show mkAlarms k0 (y :: suf) = ⟨mkLabels k0 y.f0, (k0 + (cnLabels y.f0 : Int)), (k0 + (cnLabels y.f0 : Int) + 1), mkText (k0 + (cnLabels y.f0 : Int) + 2)⟩ :: mkAlarms (k0 + (cnLabels y.f0 : Int) + 3) suf from rfl]
    simp only [laws_heldAlarmS.l0]
    rw [if_pos (lt_mid pre _ _)]
    simp only [nn, if_true, if_false, rdmmAlarm, Option.bind_some, wrap_up pre.length (by omega), G0, G1, w1, w2, w3, n0, bne_self_eq_false, Bool.false_eq_true]
    have eL : pre ++ (⟨mkLabels k0 y.f0, (k0 + (cnLabels y.f0 : Int)), (k0 + (cnLabels y.f0 : Int) + 1), mkText (k0 + (cnLabels y.f0 : Int) + 2)⟩ : S43) :: mkAlarms (k0 + (cnLabels y.f0 : Int) + 3) suf = (pre ++ [(⟨mkLabels k0 y.f0, (k0 + (cnLabels y.f0 : Int)), (k0 + (cnLabels y.f0 : Int) + 1), mkText (k0 + (cnLabels y.f0 : Int) + 2)⟩ : S43)]) ++ mkAlarms (k0 + (cnLabels y.f0 : Int) + 3) suf := by simp
    have eN : ((pre.length + 1 : Nat) : Int) = ((pre ++ [(⟨mkLabels k0 y.f0, (k0 + (cnLabels y.f0 : Int)), (k0 + (cnLabels y.f0 : Int) + 1), mkText (k0 + (cnLabels y.f0 : Int) + 2)⟩ : S43)]).length : Int) := by simp
    rw [eL, eN, G]
    refine congrArg some ?_
    push_cast; omega
theorem heldAlarmS_ev (l : List S43) (k0 : Int) (h0 : 0 ≤ k0) (h1 : k0 + (cnAlarms l : Int) < 4611686018427387904) : Ev (fun k => laws_heldAlarmS.f k (mkAlarms k0 l) k0) (k0 + (cnAlarms l : Int)) := by
  have := cnAlarms_le l
  exact Ev.congr (fun k => by unfold laws_heldAlarmS.f; rfl) (heldAlarmS_l0 l [] k0 h0 h1 (by simp; omega))
theorem cnLabels_eq : ∀ l : List S88, cnLabels l = 2 * l.length
  | [] => rfl
  | y :: ys => by have := cnLabels_eq ys; simp only [cnLabels, List.length_cons]; omega
theorem cnLabels_wi {l : List S88} (h : l.length ≤ 4000000 ∧ ∀ y ∈ l, WiLabel y) : cnLabels l ≤ 8000000 := by have := h.1; rw [cnLabels_eq]; omega
theorem cnAlarms_le2 : ∀ l : List S43, (∀ y ∈ l, WiAlarm y) → cnAlarms l ≤ l.length * 8000003
  | [], _ => Nat.le_refl _
  | y :: ys, h => by
    have h1 := cnAlarms_le2 ys (fun z hz => h z (List.mem_cons_of_mem _ hz))
    have h2 := cnLabels_wi (h y List.mem_cons_self).1
    simp only [cnAlarms, List.length_cons]
    omega
theorem cnAlarms_wi {l : List S43} (h : l.length ≤ 4000000 ∧ ∀ y ∈ l, WiAlarm y) : cnAlarms l ≤ 40000000000000 := by
  have h1 := cnAlarms_le2 l h.2
  have h2 := Nat.mul_le_mul_right 8000003 h.1
  omega
def cvChain (x : S119) : S100 := ⟨x.f0, (x.f1.map cvAlarm)⟩
def WChain (x : S119) : Prop := True ∧ (x.f1.length ≤ 1048576 ∧ ∀ y ∈ x.f1, WAlarm y)
def WiChain (x : S100) : Prop := True ∧ (x.f1.length ≤ 4000000 ∧ ∀ y ∈ x.f1, WiAlarm y)
theorem Wi_cvChain {x : S119} (h : WChain x) : WiChain (cvChain x) := ⟨trivial, ⟨by show (List.map cvAlarm x.f1).length ≤ 4000000; rw [List.length_map]; exact Nat.le_trans h.2.1 (by decide), fun y hy => by obtain ⟨z, hz, rfl⟩ := List.mem_map.1 hy; exact Wi_cvAlarm (h.2.2 z hz)⟩⟩
theorem szChain_ev (x : S119) (hB : B119 x) (n : Int) (h0 : 0 ≤ n) (h1 : n ≤ 1048576) : ∃ r, Ev (fun k => laws_szChain.f k x.f0 x.f1 n) r ∧ r ≤ n ∧ (0 ≤ r → WChain x) := by
  obtain ⟨r1, ⟨K1, g1⟩, l1, w1⟩ := szAlarmS_ev x.f1 hB.2 n (by omega) (by omega)
  by_cases c1 : r1 < 0
  · exact ⟨-1, ⟨K1, fun k hk => by simp [laws_szChain.f, g1 k (by omega), c1]⟩, by omega, by omega⟩
  exact ⟨r1, ⟨K1, fun k hk => by simp [laws_szChain.f, g1 k (by omega), c1]⟩, by omega, fun _ => ⟨trivial, (w1 (by omega))⟩⟩
theorem toChain_ev (x : S119) (h : WChain x) : Ev (fun k => laws_toChain.f k x.f0 x.f1) ((cvChain x).f0, (cvChain x).f1) := by
  obtain ⟨K1, g1⟩ := toAlarmS_ev x.f1 h.2
  exact ⟨K1, fun k hk => by simp [laws_toChain.f, cvChain, g1 k (by omega)]⟩
theorem eqChain_ev (x : S100) (h : WiChain x) : Ev (fun k => laws_eqChain.f k x.f0 x.f1 x.f0 x.f1) true := by
  obtain ⟨K1, g1⟩ := eqAlarmS_ev x.f1 h.2
  exact ⟨K1, fun k hk => by simp [laws_eqChain.f, g1 k (by omega)]⟩
theorem rdmidChainl (pre suf : List S119) (y : S119) : rd_T119 (pre ++ y :: suf) (pre.length : Int) = y := by unfold rd_T119; simp
theorem rdmidChaini (pre suf : List S100) (y : S100) : rd_T100 (pre ++ y :: suf) (pre.length : Int) = y := by unfold rd_T100; simp
theorem szChainS_l0 : ∀ (suf pre : List S119) (n : Int), 0 ≤ n → n ≤ 1048576 → (∀ y ∈ suf, B119 y) → (pre ++ suf).length < 4611686018427387904 → ∃ r, Ev (fun k => laws_szChainS.l0 k (pre ++ suf) n (pre.length : Int)) r ∧ r ≤ n ∧ (0 ≤ r → ∀ y ∈ suf, WChain y)
  | [], pre, n, h0, h1, hB, h => by
    refine ⟨n, Ev.step (f := fun _ => some n) (fun k => ?_) (Ev.now _), Int.le_refl _, fun _ y hy => by cases hy⟩
    simp only [laws_szChainS.l0]
    rw [if_neg (not_lt_end pre)]
  | y :: suf, pre, n, h0, h1, hB, h => by
    have hp : pre.length < 4611686018427387904 := by simp at h; omega
    have hy := hB y List.mem_cons_self
    obtain ⟨r1, g1, l1, w1⟩ := szChain_ev y hy n h0 h1
    by_cases c : r1 < 0
    · refine ⟨-1, Ev.step (f := fun k => (laws_szChain.f k y.f0 y.f1 n).bind fun t => if t < 0 then some (-1) else laws_szChainS.l0 k (pre ++ y :: suf) t (wrap64 ((pre.length : Int) + 1))) (fun k => ?_) (Ev.bind g1 ?_), by omega, by omega⟩
      · simp only [laws_szChainS.l0]
        rw [if_pos (lt_mid pre suf y), if_pos (nn _), rdmidChainl]
      · simp only [if_pos c]
        exact Ev.now _
    · obtain ⟨r, g, hl, hw⟩ := szChainS_l0 suf (pre ++ [y]) r1 (by omega) (by omega) (fun z hz => hB z (List.mem_cons_of_mem _ hz)) (by simpa using h)
      refine ⟨r, Ev.step (f := fun k => (laws_szChain.f k y.f0 y.f1 n).bind fun t => if t < 0 then some (-1) else laws_szChainS.l0 k ((pre ++ [y]) ++ suf) t ((pre ++ [y]).length : Int)) (fun k => ?_) (Ev.bind g1 ?_), by omega, fun hr z hz => ?_⟩
      · simp only [laws_szChainS.l0]
        rw [if_pos (lt_mid pre suf y), if_pos (nn _), rdmidChainl, wrap_up _ (by omega)]
        simp
      · simp only [if_neg c]
        exact g
      · rcases List.mem_cons.1 hz with rfl | hz
        · exact w1 (by omega)
        · exact hw hr z hz
theorem szChainS_ev (l : List S119) (hB : l.length ≤ maxLen ∧ ∀ y ∈ l, B119 y) (n : Int) (h0 : 0 ≤ n) (h1 : n ≤ 1048576) : ∃ r, Ev (fun k => laws_szChainS.f k l n) r ∧ r ≤ n ∧ (0 ≤ r → l.length ≤ 1048576 ∧ ∀ y ∈ l, WChain y) := by
  have q : l.length ≤ 9223372036854775807 := hB.1
  have e : wrap64 (n - (l.length : Int)) = n - (l.length : Int) := wrap_id (by omega) (by omega)
  by_cases c : n - (l.length : Int) < 0
  · exact ⟨-1, ⟨0, fun k _ => by simp [laws_szChainS.f, e, c]⟩, by omega, by omega⟩
  · obtain ⟨r, g, hl, hw⟩ := szChainS_l0 l [] (n - (l.length : Int)) (by omega) (by omega) hB.2 (by simp; omega)
    refine ⟨r, Ev.congr (fun k => ?_) g, by omega, fun hr => ⟨by omega, hw hr⟩⟩
    unfold laws_szChainS.f
    rw [e, if_neg c]
    rfl
theorem toChainS_l0 : ∀ (suf pre : List S119), (pre ++ suf).length < 4611686018427387904 → (∀ y ∈ suf, WChain y) → Ev (fun k => laws_toChainS.l0 k (pre ++ suf) ((pre.map cvChain) ++ List.replicate suf.length z100) (pre.length : Int)) ((pre ++ suf).map cvChain)
  | [], pre, h, hW => by
    refine Ev.step (f := fun _ => some ((pre ++ []).map cvChain)) (fun k => ?_) (Ev.now _)
    simp only [laws_toChainS.l0]
    rw [if_neg (not_lt_end pre)]
    simp
  | y :: suf, pre, h, hW => by
    have hp : pre.length < 4611686018427387904 := by simp at h; omega
    have ih := toChainS_l0 suf (pre ++ [y]) (by simpa using h) (fun z hz => hW z (List.mem_cons_of_mem _ hz))
    have g := toChain_ev y (hW y List.mem_cons_self)
    refine Ev.step (f := fun k => (laws_toChain.f k y.f0 y.f1).bind fun t => laws_toChainS.l0 k ((pre ++ [y]) ++ suf) ((pre.map cvChain) ++ (⟨t.1, t.2⟩ : S100) :: List.replicate suf.length z100) ((pre ++ [y]).length : Int)) (fun k => ?_) (Ev.bind g ?_)
    · simp only [laws_toChainS.l0]
      rw [if_pos (lt_mid pre suf y), if_pos (nn _), rdmidChainl, wrap_up _ (by omega)]
      congr 1
      funext t
      rw [if_pos (by simp; omega)]
      congr 1
      · simp
      · simp [List.replicate_succ]
      · simp
    · rw [mid_assoc pre suf y]
      have e : (pre.map cvChain) ++ (cvChain y) :: List.replicate suf.length z100 = ((pre ++ [y]).map cvChain) ++ List.replicate suf.length z100 := by simp
      rw [← e] at ih
      exact ih
theorem toChainS_ev (l : List S119) (h : l.length ≤ 1048576 ∧ ∀ y ∈ l, WChain y) : Ev (fun k => laws_toChainS.f k l) (l.map cvChain) := by
  have h1 := h.1
  refine Ev.congr (fun k => ?_) (toChainS_l0 l [] (by simp; omega) h.2)
  unfold laws_toChainS.f
  rw [if_pos (nn l.length), Int.toNat_natCast, if_pos (by omega)]
  rfl
theorem eqChainS_l0 : ∀ (suf pre : List S100), (pre ++ suf).length < 4611686018427387904 → (∀ y ∈ suf, WiChain y) → Ev (fun k => laws_eqChainS.l0 k (pre ++ suf) (pre ++ suf) (pre.length : Int)) true
  | [], pre, h, hW => by
    refine Ev.step (f := fun _ => some true) (fun k => ?_) (Ev.now _)
    simp only [laws_eqChainS.l0]
    rw [if_neg (not_lt_end pre)]
  | y :: suf, pre, h, hW => by
    have hp : pre.length < 4611686018427387904 := by simp at h; omega
    have ih := eqChainS_l0 suf (pre ++ [y]) (by simpa using h) (fun z hz => hW z (List.mem_cons_of_mem _ hz))
    have g := eqChain_ev y (hW y List.mem_cons_self)
    refine Ev.step (f := fun k => (laws_eqChain.f k y.f0 y.f1 y.f0 y.f1).bind fun t => if t = true then laws_eqChainS.l0 k ((pre ++ [y]) ++ suf) ((pre ++ [y]) ++ suf) ((pre ++ [y]).length : Int) else none) (fun k => ?_) (Ev.bind g ?_)
    · simp only [laws_eqChainS.l0]
      rw [if_pos (lt_mid pre suf y), if_pos (nn _), if_pos (lt_mid pre suf y), rdmidChaini, wrap_up _ (by omega)]
      simp
    · simp only [if_true]
      exact ih
theorem eqChainS_ev (l : List S100) (h : l.length ≤ 4000000 ∧ ∀ y ∈ l, WiChain y) : Ev (fun k => laws_eqChainS.f k l l) true := by
  have h1 := h.1
  refine Ev.congr (fun k => ?_) (eqChainS_l0 l [] (by simp; omega) h.2)
  unfold laws_eqChainS.f
  rw [if_pos rfl]
  rfl
def cvPart (x : S52) : S57 := ⟨x.f0, x.f1, (x.f2.map cvChain)⟩
def WPart (x : S52) : Prop := True ∧ True ∧ (x.f2.length ≤ 1048576 ∧ ∀ y ∈ x.f2, WChain y)
def WiPart (x : S57) : Prop := True ∧ True ∧ (x.f2.length ≤ 4000000 ∧ ∀ y ∈ x.f2, WiChain y)
theorem Wi_cvPart {x : S52} (h : WPart x) : WiPart (cvPart x) := ⟨trivial, trivial, ⟨by show (List.map cvChain x.f2).length ≤ 4000000; rw [List.length_map]; exact Nat.le_trans h.2.2.1 (by decide), fun y hy => by obtain ⟨z, hz, rfl⟩ := List.mem_map.1 hy; exact Wi_cvChain (h.2.2.2 z hz)⟩⟩
theorem szPart_ev (x : S52) (hB : B52 x) (n : Int) (h0 : 0 ≤ n) (h1 : n ≤ 1048576) : ∃ r, Ev (fun k => laws_szPart.f k x.f0 x.f1 x.f2 n) r ∧ r ≤ n ∧ (0 ≤ r → WPart x) := by
  obtain ⟨r1, ⟨K1, g1⟩, l1, w1⟩ := szChainS_ev x.f2 hB.2.2 n (by omega) (by omega)
  by_cases c1 : r1 < 0
  · exact ⟨-1, ⟨K1, fun k hk => by simp [laws_szPart.f, g1 k (by omega), c1]⟩, by omega, by omega⟩
  exact ⟨r1, ⟨K1, fun k hk => by simp [laws_szPart.f, g1 k (by omega), c1]⟩, by omega, fun _ => ⟨trivial, trivial, (w1 (by omega))⟩⟩
theorem toPart_ev (x : S52) (h : WPart x) : Ev (fun k => laws_toPart.f k x.f0 x.f1 x.f2) ((cvPart x).f0, (cvPart x).f1, (cvPart x).f2) := by
  obtain ⟨K2, g2⟩ := toChainS_ev x.f2 h.2.2
  exact ⟨K2, fun k hk => by simp [laws_toPart.f, cvPart, g2 k (by omega)]⟩
theorem eqPart_ev (x : S57) (h : WiPart x) : Ev (fun k => laws_eqPart.f k x.f0 x.f1 x.f2 x.f0 x.f1 x.f2) true := by
  obtain ⟨K2, g2⟩ := eqChainS_ev x.f2 h.2.2
  exact ⟨K2, fun k hk => by simp [laws_eqPart.f, g2 k (by omega)]⟩
theorem rdmidPartl (pre suf : List S52) (y : S52) : rd_T52 (pre ++ y :: suf) (pre.length : Int) = y := by unfold rd_T52; simp
theorem rdmidParti (pre suf : List S57) (y : S57) : rd_T57 (pre ++ y :: suf) (pre.length : Int) = y := by unfold rd_T57; simp
theorem szPartS_l0 : ∀ (suf pre : List S52) (n : Int), 0 ≤ n → n ≤ 1048576 → (∀ y ∈ suf, B52 y) → (pre ++ suf).length < 4611686018427387904 → ∃ r, Ev (fun k => laws_szPartS.l0 k (pre ++ suf) n (pre.length : Int)) r ∧ r ≤ n ∧ (0 ≤ r → ∀ y ∈ suf, WPart y)
  | [], pre, n, h0, h1, hB, h => by
    refine ⟨n, Ev.step (f := fun _ => some n) (fun k => ?_) (Ev.now _), Int.le_refl _, fun _ y hy => by cases hy⟩
    simp only [laws_szPartS.l0]
    rw [if_neg (not_lt_end pre)]
  | y :: suf, pre, n, h0, h1, hB, h => by
    have hp : pre.length < 4611686018427387904 := by simp at h; omega
    have hy := hB y List.mem_cons_self
    obtain ⟨r1, g1, l1, w1⟩ := szPart_ev y hy n h0 h1
    by_cases c : r1 < 0
    · refine ⟨-1, Ev.step (f := fun k => (laws_szPart.f k y.f0 y.f1 y.f2 n).bind fun t => if t < 0 then some (-1) else laws_szPartS.l0 k (pre ++ y :: suf) t (wrap64 ((pre.length : Int) + 1))) (fun k => ?_) (Ev.bind g1 ?_), by omega, by omega⟩
      · simp only [laws_szPartS.l0]
        rw [if_pos (lt_mid pre suf y), if_pos (nn _), rdmidPartl]
      · simp only [if_pos c]
        exact Ev.now _
    · obtain ⟨r, g, hl, hw⟩ := szPartS_l0 suf (pre ++ [y]) r1 (by omega) (by omega) (fun z hz => hB z (List.mem_cons_of_mem _ hz)) (by simpa using h)
      refine ⟨r, Ev.step (f := fun k => (laws_szPart.f k y.f0 y.f1 y.f2 n).bind fun t => if t < 0 then some (-1) else laws_szPartS.l0 k ((pre ++ [y]) ++ suf) t ((pre ++ [y]).length : Int)) (fun k => ?_) (Ev.bind g1 ?_), by omega, fun hr z hz => ?_⟩
      · simp only [laws_szPartS.l0]
        rw [if_pos (lt_mid pre suf y), if_pos (nn _), rdmidPartl, wrap_up _ (by omega)]
        simp
      · simp only [if_neg c]
        exact g
      · rcases List.mem_cons.1 hz with rfl | hz
        · exact w1 (by omega)
        · exact hw hr z hz
theorem szPartS_ev (l : List S52) (hB : l.length ≤ maxLen ∧ ∀ y ∈ l, B52 y) (n : Int) (h0 : 0 ≤ n) (h1 : n ≤ 1048576) : ∃ r, Ev (fun k => laws_szPartS.f k l n) r ∧ r ≤ n ∧ (0 ≤ r → l.length ≤ 1048576 ∧ ∀ y ∈ l, WPart y) := by
  have q : l.length ≤ 9223372036854775807 := hB.1
  have e : wrap64 (n - (l.length : Int)) = n - (l.length : Int) := wrap_id (by omega) (by omega)
  by_cases c : n - (l.length : Int) < 0
  · exact ⟨-1, ⟨0, fun k _ => by simp [laws_szPartS.f, e, c]⟩, by omega, by omega⟩
  · obtain ⟨r, g, hl, hw⟩ := szPartS_l0 l [] (n - (l.length : Int)) (by omega) (by omega) hB.2 (by simp; omega)
    refine ⟨r, Ev.congr (fun k => ?_) g, by omega, fun hr => ⟨by omega, hw hr⟩⟩
    unfold laws_szPartS.f
    rw [e, if_neg c]
    rfl
theorem toPartS_l0 : ∀ (suf pre : List S52), (pre ++ suf).length < 4611686018427387904 → (∀ y ∈ suf, WPart y) → Ev (fun k => laws_toPartS.l0 k (pre ++ suf) ((pre.map cvPart) ++ List.replicate suf.length z57) (pre.length : Int)) ((pre ++ suf).map cvPart)
  | [], pre, h, hW => by
    refine Ev.step (f := fun _ => some ((pre ++ []).map cvPart)) (fun k => ?_) (Ev.now _)
    simp only [laws_toPartS.l0]
    rw [if_neg (not_lt_end pre)]
    simp
  | y :: suf, pre, h, hW => by
    have hp : pre.length < 4611686018427387904 := by simp at h; omega
    have ih := toPartS_l0 suf (pre ++ [y]) (by simpa using h) (fun z hz => hW z (List.mem_cons_of_mem _ hz))
    have g := toPart_ev y (hW y List.mem_cons_self)
    refine Ev.step (f := fun k => (laws_toPart.f k y.f0 y.f1 y.f2).bind fun t => laws_toPartS.l0 k ((pre ++ [y]) ++ suf) ((pre.map cvPart) ++ (⟨t.1, t.2.1, t.2.2⟩ : S57) :: List.replicate suf.length z57) ((pre ++ [y]).length : Int)) (fun k => ?_) (Ev.bind g ?_)
    · simp only [laws_toPartS.l0]
      rw [if_pos (lt_mid pre suf y), if_pos (nn _), rdmidPartl, wrap_up _ (by omega)]
      congr 1
      funext t
      rw [if_pos (by simp; omega)]
      congr 1
      · simp
      · simp [List.replicate_succ]
      · simp
    · rw [mid_assoc pre suf y]
      have e : (pre.map cvPart) ++ (cvPart y) :: List.replicate suf.length z57 = ((pre ++ [y]).map cvPart) ++ List.replicate suf.length z57 := by simp
      rw [← e] at ih
      exact ih
theorem toPartS_ev (l : List S52) (h : l.length ≤ 1048576 ∧ ∀ y ∈ l, WPart y) : Ev (fun k => laws_toPartS.f k l) (l.map cvPart) := by
  have h1 := h.1
  refine Ev.congr (fun k => ?_) (toPartS_l0 l [] (by simp; omega) h.2)
  unfold laws_toPartS.f
  rw [if_pos (nn l.length), Int.toNat_natCast, if_pos (by omega)]
  rfl
theorem eqPartS_l0 : ∀ (suf pre : List S57), (pre ++ suf).length < 4611686018427387904 → (∀ y ∈ suf, WiPart y) → Ev (fun k => laws_eqPartS.l0 k (pre ++ suf) (pre ++ suf) (pre.length : Int)) true
  | [], pre, h, hW => by
    refine Ev.step (f := fun _ => some true) (fun k => ?_) (Ev.now _)
    simp only [laws_eqPartS.l0]
    rw [if_neg (not_lt_end pre)]
  | y :: suf, pre, h, hW => by
    have hp : pre.length < 4611686018427387904 := by simp at h; omega
    have ih := eqPartS_l0 suf (pre ++ [y]) (by simpa using h) (fun z hz => hW z (List.mem_cons_of_mem _ hz))
    have g := eqPart_ev y (hW y List.mem_cons_self)
    refine Ev.step (f := fun k => (laws_eqPart.f k y.f0 y.f1 y.f2 y.f0 y.f1 y.f2).bind fun t => if t = true then laws_eqPartS.l0 k ((pre ++ [y]) ++ suf) ((pre ++ [y]) ++ suf) ((pre ++ [y]).length : Int) else none) (fun k => ?_) (Ev.bind g ?_)
    · simp only [laws_eqPartS.l0]
      rw [if_pos (lt_mid pre suf y), if_pos (nn _), if_pos (lt_mid pre suf y), rdmidParti, wrap_up _ (by omega)]
      simp
    · simp only [if_true]
      exact ih
theorem eqPartS_ev (l : List S57) (h : l.length ≤ 4000000 ∧ ∀ y ∈ l, WiPart y) : Ev (fun k => laws_eqPartS.f k l l) true := by
  have h1 := h.1
  refine Ev.congr (fun k => ?_) (eqPartS_l0 l [] (by simp; omega) h.2)
  unfold laws_eqPartS.f
  rw [if_pos rfl]
  rfl
theorem Wi_mapLabel {l : List S85} (h : l.length ≤ 1048576 ∧ ∀ y ∈ l, WLabel y) : (l.map cvLabel).length ≤ 4000000 ∧ ∀ y ∈ l.map cvLabel, WiLabel y :=
  ⟨by rw [List.length_map]; exact Nat.le_trans h.1 (by decide), fun y hy => by obtain ⟨z, hz, rfl⟩ := List.mem_map.1 hy; exact Wi_cvLabel (h.2 z hz)⟩
theorem Wi_mapPart {l : List S52} (h : l.length ≤ 1048576 ∧ ∀ y ∈ l, WPart y) : (l.map cvPart).length ≤ 4000000 ∧ ∀ y ∈ l.map cvPart, WiPart y :=
  ⟨by rw [List.length_map]; exact Nat.le_trans h.1 (by decide), fun y hy => by obtain ⟨z, hz, rfl⟩ := List.mem_map.1 hy; exact Wi_cvPart (h.2 z hz)⟩
/-- A loop that goes on or stops with an answer. -/
def scan {ρ : Type} (step : Nat → Option ρ) (fin : ρ) : Nat → Nat → ρ
  | 0, _ => fin
  | d + 1, i => match step i with
    | some r => r
    | none => scan step fin d (i + 1)
/-- What one round does. -/
def goOn {ρ : Type} (o : Option ρ) (next : Option ρ) : Option ρ := match o with
  | some r => some r
  | none => next
theorem goOn_none {ρ : Type} (next : Option ρ) : goOn none next = next := rfl
theorem goOn_some {ρ : Type} (r : ρ) (next : Option ρ) : goOn (some r) next = some r := rfl
theorem scan_ev2 {ρ : Type} {F : Nat → Int → Option ρ} {n : Nat} {step : Nat → Option ρ} {fin : ρ} (hend : ∃ K, ∀ k, K ≤ k → F (k + 1) (n : Int) = some fin)
    (hstep : ∀ i, i < n → ∃ K, ∀ k, K ≤ k → F (k + 1) (i : Int) = goOn (step i) (F k ((i + 1 : Nat) : Int))) : ∀ d i, d + i = n → Ev (fun k => F k (i : Int)) (scan step fin d i)
  | 0, i, h => by
    obtain rfl : i = n := by omega
    obtain ⟨K, hK⟩ := hend
    refine ⟨K + 1, fun k hk => ?_⟩
    obtain ⟨m, rfl⟩ : ∃ m, k = m + 1 := ⟨k - 1, by omega⟩
    exact hK m (by omega)
  | d + 1, i, h => by
    obtain ⟨K, hK⟩ := hstep i (by omega)
    unfold scan
    cases hs : step i with
    | some r =>
      refine ⟨K + 1, fun k hk => ?_⟩
      obtain ⟨m, rfl⟩ : ∃ m, k = m + 1 := ⟨k - 1, by omega⟩
      have := hK m (by omega)
      rw [hs] at this
      exact this
    | none =>
      obtain ⟨K', hK'⟩ := scan_ev2 hend hstep d (i + 1) (by omega)
      refine ⟨max K K' + 1, fun k hk => ?_⟩
      obtain ⟨m, rfl⟩ : ∃ m, k = m + 1 := ⟨k - 1, by omega⟩
      have := hK m (by omega)
      rw [hs] at this
      exact this.trans (hK' m (by omega))
theorem scan_ev {ρ : Type} {F : Nat → Int → Option ρ} {n : Nat} {step : Nat → Option ρ} {fin : ρ} (hend : ∀ k, F (k + 1) (n : Int) = some fin)
    (hstep : ∀ i, i < n → ∃ K, ∀ k, K ≤ k → F (k + 1) (i : Int) = goOn (step i) (F k ((i + 1 : Nat) : Int))) : ∀ d i, d + i = n → Ev (fun k => F k (i : Int)) (scan step fin d i) := scan_ev2 ⟨0, fun k _ => hend k⟩ hstep
theorem scan_congr {ρ : Type} {s s' : Nat → Option ρ} {f : ρ} : ∀ d i, (∀ j, i ≤ j → j < i + d → s j = s' j) → scan s f d i = scan s' f d i
  | 0, _, _ => rfl
  | d + 1, i, h => by
    unfold scan
    rw [h i (Nat.le_refl _) (by omega)]
    cases s' i with
    | some r => rfl
    | none => exact scan_congr d (i + 1) (fun j h1 h2 => h j (by omega) (by omega))
/-- All of a list, and e. -/
theorem scan_all {α : Type} (p : α → Bool) (z : α) (e : Bool) : ∀ (suf pre : List α), scan (fun i => if p ((pre ++ suf).getD i z) = true then none else some false) e suf.length pre.length = (suf.all p && e)
  | [], pre => by simp [scan]
  | y :: suf, pre => by
    have ih := scan_all p z e suf (pre ++ [y])
    simp only [List.append_assoc, List.singleton_append, List.length_append, List.length_singleton] at ih
    simp only [List.length_cons, scan]
    rw [show (pre ++ y :: suf).getD pre.length z = y by simp]
    cases hp : p y with
    | true => simp only [if_true]; rw [ih]; simp [hp]
    | false => simp [hp]
theorem scan_all0 {α : Type} (p : α → Bool) (z : α) (e : Bool) (l : List α) : scan (fun i => if p (l.getD i z) = true then none else some false) e l.length 0 = (l.all p && e) := scan_all p z e l []
/-- Two lists of one length, element by element. -/
theorem scan_same {α β : Type} [DecidableEq β] (f : α → β) (z : α) : ∀ (a b pa pb : List α), a.length = b.length → pa.length = pb.length →
    scan (fun i => if f ((pa ++ a).getD i z) = f ((pb ++ b).getD i z) then none else some false) true a.length pa.length = decide (a.map f = b.map f)
  | [], [], pa, pb, _, _ => by simp [scan]
  | [], _ :: _, _, _, h, _ => by simp at h
  | _ :: _, [], _, _, h, _ => by simp at h
  | x :: a, y :: b, pa, pb, h, h2 => by
    have ih := scan_same f z a b (pa ++ [x]) (pb ++ [y]) (by simpa using h) (by simp [h2])
    simp only [List.append_assoc, List.singleton_append, List.length_append, List.length_singleton] at ih
    simp only [List.length_cons, scan]
    rw [show (pa ++ x :: a).getD pa.length z = x by simp, show (pb ++ y :: b).getD pa.length z = y by rw [h2]; simp]
    by_cases he : f x = f y
    · simp only [if_pos he]; rw [ih]; simp [he]
    · simp [he]
theorem scan_same0 {α β : Type} [DecidableEq β] (f : α → β) (z : α) (a b : List α) (h : a.length = b.length) : scan (fun i => if f (a.getD i z) = f (b.getD i z) then none else some false) true a.length 0 = decide (a.map f = b.map f) := scan_same f z a b [] [] h rfl
/-- The place of the first that is so, or -1. -/
def place {α : Type} (p : α → Bool) : List α → Nat → Int
  | [], _ => -1
  | x :: l, i => if p x = true then (i : Int) else place p l (i + 1)
theorem scan_place {α : Type} (p : α → Bool) (z : α) : ∀ (suf pre : List α), scan (fun i => if p ((pre ++ suf).getD i z) = true then some (i : Int) else none) (-1) suf.length pre.length = place p suf pre.length
  | [], pre => by simp [scan, place]
  | y :: suf, pre => by
    have ih := scan_place p z suf (pre ++ [y])
    simp only [List.append_assoc, List.singleton_append, List.length_append, List.length_singleton] at ih
    simp only [List.length_cons, scan, place]
    rw [show (pre ++ y :: suf).getD pre.length z = y by simp]
    by_cases hp : p y = true
    · simp [hp]
    · simp only [if_neg hp]; exact ih
theorem scan_place0 {α : Type} (p : α → Bool) (z : α) (l : List α) : scan (fun i => if p (l.getD i z) = true then some (i : Int) else none) (-1) l.length 0 = place p l 0 := scan_place p z l []
theorem getD_eq {α : Type} (l : List α) (i : Nat) (z : α) (h : i < l.length) : l.getD i z = l[i] := by simp [List.getD_eq_getElem?_getD, List.getElem?_eq_getElem h]
theorem getD_mem {α : Type} (l : List α) (i : Nat) (z : α) (h : i < l.length) : l.getD i z ∈ l := by rw [getD_eq l i z h]; exact List.getElem_mem h
theorem place_ge {α : Type} (p : α → Bool) : ∀ (l : List α) (i : Nat), (0 ≤ place p l i) ↔ l.any p = true
  | [], i => by simp [place]
  | x :: l, i => by
    unfold place
    by_cases h : p x = true
    · rw [if_pos h]; simp [h]
    · rw [if_neg h, place_ge p l (i + 1)]; simp [h]
theorem place_lo {α : Type} (p : α → Bool) : ∀ (l : List α) (i : Nat), -1 ≤ place p l i
  | [], i => by simp [place]
  | x :: l, i => by
    unfold place
    split
    · omega
    · exact place_lo p l (i + 1)
theorem rdnLabel (l : List S88) (i : Nat) : rd_T88 l (i : Int) = l.getD i z88 := by unfold rd_T88; simp
theorem rdnAlarm (l : List S43) (i : Nat) : rd_T43 l (i : Int) = l.getD i z43 := by unfold rd_T43; simp
/-- A label as two lists of bytes; an alarm as what it holds. -/
def lab (x : S88) : List UInt8 × List UInt8 := (x.f0.toList, x.f1.toList)
def sameSet (a b : List S88) : Bool := decide (a.map lab = b.map lab)
theorem map_ne_of_length {α β : Type} {f : α → β} {a b : List α} (h : ¬ a.length = b.length) : ¬ (a.map f = b.map f) := fun e => h (by simpa using congrArg List.length e)
theorem labNe (x y : S88) : ((!(x.f0.toList == y.f0.toList) || (!(x.f1.toList == y.f1.toList))) = true) ↔ ¬ lab x = lab y := by
  unfold lab
  simp only [Prod.mk.injEq, Bool.or_eq_true, Bool.not_eq_true', beq_eq_false_iff_ne]
  constructor
  · rintro (h | h) ⟨h1, h2⟩
    · exact h h1
    · exact h h2
  · intro h
    by_cases h1 : x.f0.toList = y.f0.toList
    · exact .inr fun h2 => h ⟨h1, h2⟩
    · exact .inl h1
theorem implSameSet_ev (a b : List S88) (h : a.length < 4611686018427387904) : Ev (fun k => impl_SameSet.f k a b) (sameSet a b) := by
  unfold impl_SameSet.f sameSet
  by_cases hl : a.length = b.length
  · simp only [if_pos (show (a.length : Int) = (b.length : Int) by omega)]
    rw [← scan_same0 lab z88 a b hl]
    refine scan_ev (F := fun k i => impl_SameSet.l0 k a b (a.length : Int) i) (n := a.length) (fun k => ?_) (fun i hi => ⟨0, fun k _ => ?_⟩) a.length 0 (by omega)
    · simp only [impl_SameSet.l0]; rw [if_neg (by omega)]
    · simp only [impl_SameSet.l0]
      rw [if_pos (by omega), if_pos (by omega), if_pos (by omega), if_pos (by omega), rdnLabel, rdnLabel, wrap_up i (by omega)]
      by_cases hc : lab (a.getD i z88) = lab (b.getD i z88)
      · rw [if_neg (fun e => (labNe _ _).1 e hc), if_pos hc]; rfl
      · rw [if_pos ((labNe _ _).2 hc), if_neg hc]; rfl
  · simp only [if_neg (show ¬ (a.length : Int) = (b.length : Int) by omega), decide_eq_false (map_ne_of_length hl)]
    exact Ev.now _
theorem specSameSet_ev (a b : List S88) (h : a.length < 4611686018427387904) : Ev (fun k => spec_SameSet.f k a b) (sameSet a b) := by
  unfold spec_SameSet.f sameSet
  by_cases hl : a.length = b.length
  · simp only [if_pos (show (a.length : Int) = (b.length : Int) by omega)]
    rw [← scan_same0 lab z88 a b hl]
    refine scan_ev (F := fun k i => spec_SameSet.l0 k a b i) (n := a.length) (fun k => ?_) (fun i hi => ⟨0, fun k _ => ?_⟩) a.length 0 (by omega)
    · simp only [spec_SameSet.l0]; rw [if_neg (by omega)]
    · simp only [spec_SameSet.l0]
      rw [if_pos (by omega), if_pos (by omega), if_pos (by omega), rdnLabel, rdnLabel, wrap_up i (by omega)]
      by_cases hc : lab (a.getD i z88) = lab (b.getD i z88)
      · rw [if_neg (fun e => (labNe _ _).1 e hc), if_pos hc]; rfl
      · rw [if_pos ((labNe _ _).2 hc), if_neg hc]; rfl
  · simp only [if_neg (show ¬ (a.length : Int) = (b.length : Int) by omega), decide_eq_false (map_ne_of_length hl)]
    exact Ev.now _
def labelsAt (l : List S43) (s : List S88) : Int := place (fun a => sameSet a.f0 s) l 0
theorem implLabelsAt_ev (l : List S43) (s : List S88) (h : l.length ≤ 4000000 ∧ ∀ y ∈ l, WiAlarm y) : Ev (fun k => impl_labelsAt.f k l s) (labelsAt l s) := by
  have h1 := h.1
  unfold impl_labelsAt.f labelsAt
  rw [← scan_place0 (fun a : S43 => sameSet a.f0 s) z43 l]
  refine scan_ev (F := fun k i => impl_labelsAt.l0 k s l (l.length : Int) i) (n := l.length) (fun k => ?_) (fun i hi => ?_) l.length 0 (by omega)
  · simp only [impl_labelsAt.l0]; rw [if_neg (by omega)]
  · have hw := (h.2 _ (getD_mem l i z43 hi)).1.1
    obtain ⟨K, g⟩ := implSameSet_ev (l.getD i z43).f0 s (by omega)
    refine ⟨K, fun k hk => ?_⟩
    have e := g k hk
    simp only at e
    simp only [impl_labelsAt.l0]
    rw [if_pos (by omega), if_pos (by omega), if_pos (by omega), rdnAlarm, e, Option.bind_some, wrap_up i (by omega)]
    cases sameSet (l.getD i z43).f0 s <;> simp [goOn]
theorem inEq (a b c : Int) : impl_in.f a b c = some (decide (b ≤ a) && decide (a ≤ c)) := by
  unfold impl_in.f
  by_cases h : a ≥ b
  · rw [if_pos h]; simp [show b ≤ a from h]
  · rw [if_neg h]; simp [show ¬ b ≤ a from h]
theorem l1InEq (a b c : Int) : spec_l1In.f a b c = some (decide (b ≤ a) && decide (a ≤ c)) := by
  unfold spec_l1In.f
  by_cases h : a ≥ b
  · rw [if_pos h]; simp [show b ≤ a from h]
  · rw [if_neg h]; simp [show ¬ b ≤ a from h]
/-- Each byte of a name. -/
def nameStep {ρ : Type} (no : ρ) (s : ByteArray) (i : Nat) : Option ρ := if (bt s (i : Int)) < 97 then some no else if (bt s (i : Int)) > 122 then some no else none
def nameOk (s : ByteArray) : Bool := (decide (1 ≤ (s.size : Int)) && decide ((s.size : Int) ≤ 8)) && scan (nameStep false s) true s.size 0
/-- Where nothing stops a loop but with 'false', its end may wait. -/
theorem scan_end {step : Nat → Option Bool} (h : ∀ i r, step i = some r → r = false) (e : Bool) : ∀ d i, scan step e d i = (e && scan step true d i)
  | 0, i => by simp [scan]
  | d + 1, i => by
    unfold scan
    cases hs : step i with
    | some r => rw [h i r hs]; simp
    | none => exact scan_end h e d (i + 1)
theorem nameStep_false (s : ByteArray) (i : Nat) (r : Bool) (h : nameStep false s i = some r) : r = false := by
  unfold nameStep at h
  split at h
  · injection h with h; exact h.symm
  · split at h
    · injection h with h; exact h.symm
    · cases h
theorem implNameOk_ev (s : ByteArray) (h : s.size < 4611686018427387904) : Ev (fun k => impl_NameOk.f k s) (nameOk s) := by
  unfold impl_NameOk.f nameOk
  simp only [inEq, Option.bind_some]
  cases hc : (decide (1 ≤ (s.size : Int)) && decide ((s.size : Int) ≤ 8)) with
  | false => simp only [Bool.false_eq_true, if_false, Bool.false_and]; exact Ev.now _
  | true =>
    simp only [if_true, Bool.true_and]
    refine scan_ev (F := fun k i => impl_NameOk.l0 k s i) (n := s.size) (fun k => ?_) (fun i hi => ⟨0, fun k _ => ?_⟩) s.size 0 (by omega)
    · simp only [impl_NameOk.l0]; rw [if_neg (by omega)]
    · simp only [impl_NameOk.l0, nameStep]
      rw [if_pos (by omega), if_pos (by omega), wrap_up i (by omega)]
      split
      · rfl
      · split <;> rfl
theorem specNameOk_ev (s : ByteArray) (h : s.size < 4611686018427387904) : Ev (fun k => spec_NameOk.f k s) (nameOk s) := by
  unfold spec_NameOk.f nameOk
  rw [← scan_end (nameStep_false s)]
  refine scan_ev (F := fun k i => spec_NameOk.l0 k s i) (n := s.size) (fun k => ?_) (fun i hi => ⟨0, fun k _ => ?_⟩) s.size 0 (by omega)
  · simp only [spec_NameOk.l0]; rw [if_neg (by omega), l1InEq]; rfl
  · simp only [spec_NameOk.l0, nameStep]
    rw [if_pos (by omega), if_pos (by omega), wrap_up i (by omega)]
    split
    · rfl
    · split <;> rfl
end Go.Proofs.Yticgekgojgkbgaa.Print
end
section
namespace Go.Proofs.Yticgekgojgkbgaa.Print
open Go.RowKit Go.Proofs.YticgekgojgkbgaaV.PrintWords Go.Proofs.YticgekgojgkbgaaV.PrintLast Go.Proofs.YticgekgojgkbgaaV.PrintMore
attribute [local go_sem] max2_int min2_int max_two min_two max_three min_three max_four min_four
set_option linter.unusedVariables false
set_option linter.unusedSimpArgs false
set_option maxHeartbeats 8000000
set_option maxRecDepth 100000
def spec_AlarmOk.f (k : Nat) (l0_0 : List (S88)) (a0_1 : Int) (a0_2 : Int) (a0_3 : ByteArray) : Option (Bool) := (spec_SetOk.f k l0_0).bind fun t375 => (if t375 = true then (if (l0_0.length : Int) > 0 then ((spec_l1In.f a0_1 0 99999).bind fun t376 => (if t376 = true then ((spec_l1In.f a0_2 a0_1 99999).bind fun t377 => (if t377 = true then ((spec_PlainOk.f k a0_3).bind fun t378 => (some t378)) else (some false))) else (some false))) else (some false)) else (some false))
theorem spec_AlarmOk.mono : ∀ a0 a1 a2 a3 k, LeO (spec_AlarmOk.f k a0 a1 a2 a3) (spec_AlarmOk.f (k + 1) a0 a1 a2 a3) := by
 intro a0 a1 a2 a3 k
 unfold spec_AlarmOk.f
 repeat' first
   | (with_reducible exact spec_PlainOk.mono _ _)
   | (with_reducible exact spec_SetOk.mono _ _)
   | (with_reducible exact LeO.refl _)
   | (with_reducible exact LeO.none _)
   | (with_reducible refine LeO.ite ?_ ?_)
   | (with_reducible refine LeO.bind ?_ (fun _ => ?_))
   | exact spec_PlainOk.mono _ _
   | exact spec_SetOk.mono _ _
theorem spec_AlarmOk.calls (k : Nat) (A0_0 : Option Addr) (c0_0 : Nat) (l0_0 : List (S88)) (a0_1 : Int) (a0_2 : Int) (a0_3 : ByteArray) (r : Bool) (w : World) (hr0_0 : Kd.C k88 w A0_0 l0_0.length l0_0) (hc0_0 : l0_0.length ≤ c0_0) (h : spec_AlarmOk.f k l0_0 a0_1 a0_2 a0_3 = some r) :
  Calls Try.prog 100 #[.agg #[.slice A0_0 l0_0.length c0_0, .int .i64 a0_1, .int .i64 a0_2, .string a0_3]] w fun e w' => e = .returned (.bool r) ∧ Below w.heap.size w w' := by
 have hu43 := Try.underlying43
 have HR0_0 := Aside0.mk hr0_0
 have HC0_0 := Aside0.mk hc0_0
 clear hr0_0 hc0_0
 have HB := Aside0.mk (Below.refl w.heap.size w)
 have H : ((spec_SetOk.f k l0_0).bind fun t375 => (if t375 = true then (if (l0_0.length : Int) > 0 then ((spec_l1In.f a0_1 0 99999).bind fun t376 => (if t376 = true then ((spec_l1In.f a0_2 a0_1 99999).bind fun t377 => (if t377 = true then ((spec_PlainOk.f k a0_3).bind fun t378 => (some t378)) else (some false))) else (some false))) else (some false)) else (some false))) = some r := h
 clear h
 replace H := Option.bind_eq_some_iff.mp H
 obtain ⟨t375, A20, H⟩ := H
 have A2 := Aside0.mk A20
 clear A20
 by_cases c3 : t375 = true
 ·
  subst c3
  rw [if_pos rfl] at H
  by_cases c4 : (l0_0.length : Int) > 0
  ·
   rw [if_pos c4] at H
   have c4b0 : decide (0 < (l0_0.length : Int)) = true := decide_eq_true c4
   have c4b1 : decide (0 < l0_0.length) = true := decide_eq_true (by omega)
   clear c4
   replace H := Option.bind_eq_some_iff.mp H
   obtain ⟨t376, A50, H⟩ := H
   have A5 := Aside0.mk A50
   clear A50
   by_cases c6 : t376 = true
   ·
    subst c6
    rw [if_pos rfl] at H
    replace H := Option.bind_eq_some_iff.mp H
    obtain ⟨t377, A70, H⟩ := H
    have A7 := Aside0.mk A70
    clear A70
    by_cases c8 : t377 = true
    ·
     subst c8
     rw [if_pos rfl] at H
     replace H := Option.bind_eq_some_iff.mp H
     obtain ⟨t378, A90, H⟩ := H
     have A9 := Aside0.mk A90
     clear A90
     obtain rfl := Option.some.inj H
     go_enter Try.func100, Try.ntmps100
     go_wp2_with (first | ((with_reducible refine gate_dst (N := 1) rfl ?_); refine box_event ?hg (N := 1) ?hd (cs := #[.slice A0_0 l0_0.length c0_0, .int .i64 a0_1, .int .i64 a0_2, .string a0_3]) (t := 43) ?hr ?_; (case hd => rfl); (case hg => rfl); (case hr => first | (go_simp; done) | (go_simp; rfl)); intro gb374 hg w10 hbox hb; have n0_ := Aside0.mk (below_step (by repeat (first | (with_reducible first | exact HB.out | apply ba_ | apply bn_ | apply bd_) | exact HB.out)) hb); have BK374 := Aside0.mk (hbox); have GW374 := Aside0.mk ((by rw [hg]; exact (below_size (by repeat (first | (with_reducible first | exact HB.out | apply ba_ | apply bn_ | apply bd_) | exact HB.out))) : w.heap.size ≤ gb374)); have GE374 := GW374; clear HB; have HB := n0_; clear n0_; clear hb hbox hg; have hcz11_0 : w10.cell? ⟨gb374, 0, none⟩ = some (.slice A0_0 l0_0.length c0_0) := (blk_cell BK374.out 0).trans rfl; have hcz11_1 : w10.cell? ⟨gb374, 1, none⟩ = some (.int .i64 a0_1) := (blk_cell BK374.out 1).trans rfl; have hcz11_2 : w10.cell? ⟨gb374, 2, none⟩ = some (.int .i64 a0_2) := (blk_cell BK374.out 2).trans rfl; have hcz11_3 : w10.cell? ⟨gb374, 3, none⟩ = some (.string a0_3) := (blk_cell BK374.out 3).trans rfl; have hfz11_0 := blk_frozen BK374.out 0; have hfz11_1 := blk_frozen BK374.out 1; have hfz11_2 := blk_frozen BK374.out 2; have hfz11_3 := blk_frozen BK374.out 3) | ((with_reducible refine gate_callee (f := 118) rfl ?_); refine goesL_ (some 5) rfl rfl Try.func118 (by kernel_rfl) rfl #[.slice A0_0 l0_0.length c0_0] rfl (by (try simp only [mp_]); first | done | rfl | (simp only [List.length_drop, List.length_take]; rfl)) ?_; (with_reducible refine (spec_SetOk.calls k _ _ l0_0 true _ ?side1 ?side2 A2.out).mono ?_); (case side1 => repeat (first | exact (Kd.C_below HR0_0.out HB.out) | (with_reducible first | refine ca_ ?_ _ | refine cn_ ?_ _ | refine cd_ ?_))); (case side2 => exact HC0_0.out); rintro e w12 ⟨rfl, hb⟩; refine ⟨_, rfl, ?_⟩; have n0_ := Aside0.mk (bb_ BK374.out hb); have n1_ := Aside0.mk (below_step (by repeat (first | (with_reducible first | exact HB.out | apply ba_ | apply bn_ | apply bd_ | refine below_set ?_ GE374.out) | exact HB.out)) hb); clear BK374; clear HB; have BK374 := n0_; have HB := n1_; clear n0_ n1_; (try clear hb); (try clear hb2); (try clear hk); (try clear hi); have hcz13_0 : w12.cell? ⟨gb374, 0, none⟩ = some (.slice A0_0 l0_0.length c0_0) := (blk_cell BK374.out 0).trans rfl; have hcz13_1 : w12.cell? ⟨gb374, 1, none⟩ = some (.int .i64 a0_1) := (blk_cell BK374.out 1).trans rfl; have hcz13_2 : w12.cell? ⟨gb374, 2, none⟩ = some (.int .i64 a0_2) := (blk_cell BK374.out 2).trans rfl; have hcz13_3 : w12.cell? ⟨gb374, 3, none⟩ = some (.string a0_3) := (blk_cell BK374.out 3).trans rfl; have hfz13_0 := blk_frozen BK374.out 0; have hfz13_1 := blk_frozen BK374.out 1; have hfz13_2 := blk_frozen BK374.out 2; have hfz13_3 := blk_frozen BK374.out 3) | (go_at_call 70; (with_reducible refine (spec_l1In.calls a0_1 0 99999 true _ A5.out).mono ?_); rintro e w' ⟨rfl, ⟨nd, rfl⟩⟩) | (go_at_call 70; (with_reducible refine (spec_l1In.calls a0_2 a0_1 99999 true _ A7.out).mono ?_); rintro e w' ⟨rfl, ⟨nd, rfl⟩⟩) | (go_at_call 121; (with_reducible refine (spec_PlainOk.calls k a0_3 t378 _ A9.out).mono ?_); rintro e w' ⟨rfl, ⟨nd, rfl⟩⟩))
     go_ret
     exact ⟨by first | rfl | (simp [errW_none, errW_some] <;> rfl) | (simp [*, errW_none, errW_some] <;> rfl), by repeat (first | (with_reducible first | exact HB.out | apply ba_ | apply bn_ | apply bd_ | refine below_set ?_ GE374.out) | exact HB.out)⟩
    replace c8 := Bool.eq_false_iff.mpr c8
    subst c8
    rw [if_neg (show ¬ (false = true) by decide)] at H
    obtain rfl := Option.some.inj H
    go_enter Try.func100, Try.ntmps100
    go_wp2_with (first | ((with_reducible refine gate_dst (N := 1) rfl ?_); refine box_event ?hg (N := 1) ?hd (cs := #[.slice A0_0 l0_0.length c0_0, .int .i64 a0_1, .int .i64 a0_2, .string a0_3]) (t := 43) ?hr ?_; (case hd => rfl); (case hg => rfl); (case hr => first | (go_simp; done) | (go_simp; rfl)); intro gb374 hg w14 hbox hb; have n0_ := Aside0.mk (below_step (by repeat (first | (with_reducible first | exact HB.out | apply ba_ | apply bn_ | apply bd_) | exact HB.out)) hb); have BK374 := Aside0.mk (hbox); have GW374 := Aside0.mk ((by rw [hg]; exact (below_size (by repeat (first | (with_reducible first | exact HB.out | apply ba_ | apply bn_ | apply bd_) | exact HB.out))) : w.heap.size ≤ gb374)); have GE374 := GW374; clear HB; have HB := n0_; clear n0_; clear hb hbox hg; have hcz15_0 : w14.cell? ⟨gb374, 0, none⟩ = some (.slice A0_0 l0_0.length c0_0) := (blk_cell BK374.out 0).trans rfl; have hcz15_1 : w14.cell? ⟨gb374, 1, none⟩ = some (.int .i64 a0_1) := (blk_cell BK374.out 1).trans rfl; have hcz15_2 : w14.cell? ⟨gb374, 2, none⟩ = some (.int .i64 a0_2) := (blk_cell BK374.out 2).trans rfl; have hcz15_3 : w14.cell? ⟨gb374, 3, none⟩ = some (.string a0_3) := (blk_cell BK374.out 3).trans rfl; have hfz15_0 := blk_frozen BK374.out 0; have hfz15_1 := blk_frozen BK374.out 1; have hfz15_2 := blk_frozen BK374.out 2; have hfz15_3 := blk_frozen BK374.out 3) | ((with_reducible refine gate_callee (f := 118) rfl ?_); refine goesL_ (some 5) rfl rfl Try.func118 (by kernel_rfl) rfl #[.slice A0_0 l0_0.length c0_0] rfl (by (try simp only [mp_]); first | done | rfl | (simp only [List.length_drop, List.length_take]; rfl)) ?_; (with_reducible refine (spec_SetOk.calls k _ _ l0_0 true _ ?side1 ?side2 A2.out).mono ?_); (case side1 => repeat (first | exact (Kd.C_below HR0_0.out HB.out) | (with_reducible first | refine ca_ ?_ _ | refine cn_ ?_ _ | refine cd_ ?_))); (case side2 => exact HC0_0.out); rintro e w16 ⟨rfl, hb⟩; refine ⟨_, rfl, ?_⟩; have n0_ := Aside0.mk (bb_ BK374.out hb); have n1_ := Aside0.mk (below_step (by repeat (first | (with_reducible first | exact HB.out | apply ba_ | apply bn_ | apply bd_ | refine below_set ?_ GE374.out) | exact HB.out)) hb); clear BK374; clear HB; have BK374 := n0_; have HB := n1_; clear n0_ n1_; (try clear hb); (try clear hb2); (try clear hk); (try clear hi); have hcz17_0 : w16.cell? ⟨gb374, 0, none⟩ = some (.slice A0_0 l0_0.length c0_0) := (blk_cell BK374.out 0).trans rfl; have hcz17_1 : w16.cell? ⟨gb374, 1, none⟩ = some (.int .i64 a0_1) := (blk_cell BK374.out 1).trans rfl; have hcz17_2 : w16.cell? ⟨gb374, 2, none⟩ = some (.int .i64 a0_2) := (blk_cell BK374.out 2).trans rfl; have hcz17_3 : w16.cell? ⟨gb374, 3, none⟩ = some (.string a0_3) := (blk_cell BK374.out 3).trans rfl; have hfz17_0 := blk_frozen BK374.out 0; have hfz17_1 := blk_frozen BK374.out 1; have hfz17_2 := blk_frozen BK374.out 2; have hfz17_3 := blk_frozen BK374.out 3) | (go_at_call 70; (with_reducible refine (spec_l1In.calls a0_1 0 99999 true _ A5.out).mono ?_); rintro e w' ⟨rfl, ⟨nd, rfl⟩⟩) | (go_at_call 70; (with_reducible refine (spec_l1In.calls a0_2 a0_1 99999 false _ A7.out).mono ?_); rintro e w' ⟨rfl, ⟨nd, rfl⟩⟩))
    go_ret
    exact ⟨by first | rfl | (simp [errW_none, errW_some] <;> rfl) | (simp [*, errW_none, errW_some] <;> rfl), by repeat (first | (with_reducible first | exact HB.out | apply ba_ | apply bn_ | apply bd_ | refine below_set ?_ GE374.out) | exact HB.out)⟩
   replace c6 := Bool.eq_false_iff.mpr c6
   subst c6
   rw [if_neg (show ¬ (false = true) by decide)] at H
   obtain rfl := Option.some.inj H
   go_enter Try.func100, Try.ntmps100
   go_wp2_with (first | ((with_reducible refine gate_dst (N := 1) rfl ?_); refine box_event ?hg (N := 1) ?hd (cs := #[.slice A0_0 l0_0.length c0_0, .int .i64 a0_1, .int .i64 a0_2, .string a0_3]) (t := 43) ?hr ?_; (case hd => rfl); (case hg => rfl); (case hr => first | (go_simp; done) | (go_simp; rfl)); intro gb374 hg w18 hbox hb; have n0_ := Aside0.mk (below_step (by repeat (first | (with_reducible first | exact HB.out | apply ba_ | apply bn_ | apply bd_) | exact HB.out)) hb); have BK374 := Aside0.mk (hbox); have GW374 := Aside0.mk ((by rw [hg]; exact (below_size (by repeat (first | (with_reducible first | exact HB.out | apply ba_ | apply bn_ | apply bd_) | exact HB.out))) : w.heap.size ≤ gb374)); have GE374 := GW374; clear HB; have HB := n0_; clear n0_; clear hb hbox hg; have hcz19_0 : w18.cell? ⟨gb374, 0, none⟩ = some (.slice A0_0 l0_0.length c0_0) := (blk_cell BK374.out 0).trans rfl; have hcz19_1 : w18.cell? ⟨gb374, 1, none⟩ = some (.int .i64 a0_1) := (blk_cell BK374.out 1).trans rfl; have hcz19_2 : w18.cell? ⟨gb374, 2, none⟩ = some (.int .i64 a0_2) := (blk_cell BK374.out 2).trans rfl; have hcz19_3 : w18.cell? ⟨gb374, 3, none⟩ = some (.string a0_3) := (blk_cell BK374.out 3).trans rfl; have hfz19_0 := blk_frozen BK374.out 0; have hfz19_1 := blk_frozen BK374.out 1; have hfz19_2 := blk_frozen BK374.out 2; have hfz19_3 := blk_frozen BK374.out 3) | ((with_reducible refine gate_callee (f := 118) rfl ?_); refine goesL_ (some 5) rfl rfl Try.func118 (by kernel_rfl) rfl #[.slice A0_0 l0_0.length c0_0] rfl (by (try simp only [mp_]); first | done | rfl | (simp only [List.length_drop, List.length_take]; rfl)) ?_; (with_reducible refine (spec_SetOk.calls k _ _ l0_0 true _ ?side1 ?side2 A2.out).mono ?_); (case side1 => repeat (first | exact (Kd.C_below HR0_0.out HB.out) | (with_reducible first | refine ca_ ?_ _ | refine cn_ ?_ _ | refine cd_ ?_))); (case side2 => exact HC0_0.out); rintro e w20 ⟨rfl, hb⟩; refine ⟨_, rfl, ?_⟩; have n0_ := Aside0.mk (bb_ BK374.out hb); have n1_ := Aside0.mk (below_step (by repeat (first | (with_reducible first | exact HB.out | apply ba_ | apply bn_ | apply bd_ | refine below_set ?_ GE374.out) | exact HB.out)) hb); clear BK374; clear HB; have BK374 := n0_; have HB := n1_; clear n0_ n1_; (try clear hb); (try clear hb2); (try clear hk); (try clear hi); have hcz21_0 : w20.cell? ⟨gb374, 0, none⟩ = some (.slice A0_0 l0_0.length c0_0) := (blk_cell BK374.out 0).trans rfl; have hcz21_1 : w20.cell? ⟨gb374, 1, none⟩ = some (.int .i64 a0_1) := (blk_cell BK374.out 1).trans rfl; have hcz21_2 : w20.cell? ⟨gb374, 2, none⟩ = some (.int .i64 a0_2) := (blk_cell BK374.out 2).trans rfl; have hcz21_3 : w20.cell? ⟨gb374, 3, none⟩ = some (.string a0_3) := (blk_cell BK374.out 3).trans rfl; have hfz21_0 := blk_frozen BK374.out 0; have hfz21_1 := blk_frozen BK374.out 1; have hfz21_2 := blk_frozen BK374.out 2; have hfz21_3 := blk_frozen BK374.out 3) | (go_at_call 70; (with_reducible refine (spec_l1In.calls a0_1 0 99999 false _ A5.out).mono ?_); rintro e w' ⟨rfl, ⟨nd, rfl⟩⟩))
   go_ret
   exact ⟨by first | rfl | (simp [errW_none, errW_some] <;> rfl) | (simp [*, errW_none, errW_some] <;> rfl), by repeat (first | (with_reducible first | exact HB.out | apply ba_ | apply bn_ | apply bd_ | refine below_set ?_ GE374.out) | exact HB.out)⟩
  rw [if_neg c4] at H
  have c4b0 : decide (0 < (l0_0.length : Int)) = false := decide_eq_false c4
  have c4b1 : decide (0 < l0_0.length) = false := decide_eq_false (by omega)
  clear c4
  obtain rfl := Option.some.inj H
  go_enter Try.func100, Try.ntmps100
  go_wp2_with (first | ((with_reducible refine gate_dst (N := 1) rfl ?_); refine box_event ?hg (N := 1) ?hd (cs := #[.slice A0_0 l0_0.length c0_0, .int .i64 a0_1, .int .i64 a0_2, .string a0_3]) (t := 43) ?hr ?_; (case hd => rfl); (case hg => rfl); (case hr => first | (go_simp; done) | (go_simp; rfl)); intro gb374 hg w22 hbox hb; have n0_ := Aside0.mk (below_step (by repeat (first | (with_reducible first | exact HB.out | apply ba_ | apply bn_ | apply bd_) | exact HB.out)) hb); have BK374 := Aside0.mk (hbox); have GW374 := Aside0.mk ((by rw [hg]; exact (below_size (by repeat (first | (with_reducible first | exact HB.out | apply ba_ | apply bn_ | apply bd_) | exact HB.out))) : w.heap.size ≤ gb374)); have GE374 := GW374; clear HB; have HB := n0_; clear n0_; clear hb hbox hg; have hcz23_0 : w22.cell? ⟨gb374, 0, none⟩ = some (.slice A0_0 l0_0.length c0_0) := (blk_cell BK374.out 0).trans rfl; have hcz23_1 : w22.cell? ⟨gb374, 1, none⟩ = some (.int .i64 a0_1) := (blk_cell BK374.out 1).trans rfl; have hcz23_2 : w22.cell? ⟨gb374, 2, none⟩ = some (.int .i64 a0_2) := (blk_cell BK374.out 2).trans rfl; have hcz23_3 : w22.cell? ⟨gb374, 3, none⟩ = some (.string a0_3) := (blk_cell BK374.out 3).trans rfl; have hfz23_0 := blk_frozen BK374.out 0; have hfz23_1 := blk_frozen BK374.out 1; have hfz23_2 := blk_frozen BK374.out 2; have hfz23_3 := blk_frozen BK374.out 3) | ((with_reducible refine gate_callee (f := 118) rfl ?_); refine goesL_ (some 5) rfl rfl Try.func118 (by kernel_rfl) rfl #[.slice A0_0 l0_0.length c0_0] rfl (by (try simp only [mp_]); first | done | rfl | (simp only [List.length_drop, List.length_take]; rfl)) ?_; (with_reducible refine (spec_SetOk.calls k _ _ l0_0 true _ ?side1 ?side2 A2.out).mono ?_); (case side1 => repeat (first | exact (Kd.C_below HR0_0.out HB.out) | (with_reducible first | refine ca_ ?_ _ | refine cn_ ?_ _ | refine cd_ ?_))); (case side2 => exact HC0_0.out); rintro e w24 ⟨rfl, hb⟩; refine ⟨_, rfl, ?_⟩; have n0_ := Aside0.mk (bb_ BK374.out hb); have n1_ := Aside0.mk (below_step (by repeat (first | (with_reducible first | exact HB.out | apply ba_ | apply bn_ | apply bd_ | refine below_set ?_ GE374.out) | exact HB.out)) hb); clear BK374; clear HB; have BK374 := n0_; have HB := n1_; clear n0_ n1_; (try clear hb); (try clear hb2); (try clear hk); (try clear hi); have hcz25_0 : w24.cell? ⟨gb374, 0, none⟩ = some (.slice A0_0 l0_0.length c0_0) := (blk_cell BK374.out 0).trans rfl; have hcz25_1 : w24.cell? ⟨gb374, 1, none⟩ = some (.int .i64 a0_1) := (blk_cell BK374.out 1).trans rfl; have hcz25_2 : w24.cell? ⟨gb374, 2, none⟩ = some (.int .i64 a0_2) := (blk_cell BK374.out 2).trans rfl; have hcz25_3 : w24.cell? ⟨gb374, 3, none⟩ = some (.string a0_3) := (blk_cell BK374.out 3).trans rfl; have hfz25_0 := blk_frozen BK374.out 0; have hfz25_1 := blk_frozen BK374.out 1; have hfz25_2 := blk_frozen BK374.out 2; have hfz25_3 := blk_frozen BK374.out 3))
  go_ret
  exact ⟨by first | rfl | (simp [errW_none, errW_some] <;> rfl) | (simp [*, errW_none, errW_some] <;> rfl), by repeat (first | (with_reducible first | exact HB.out | apply ba_ | apply bn_ | apply bd_ | refine below_set ?_ GE374.out) | exact HB.out)⟩
 replace c3 := Bool.eq_false_iff.mpr c3
 subst c3
 rw [if_neg (show ¬ (false = true) by decide)] at H
 obtain rfl := Option.some.inj H
 go_enter Try.func100, Try.ntmps100
 go_wp2_with (first | ((with_reducible refine gate_dst (N := 1) rfl ?_); refine box_event ?hg (N := 1) ?hd (cs := #[.slice A0_0 l0_0.length c0_0, .int .i64 a0_1, .int .i64 a0_2, .string a0_3]) (t := 43) ?hr ?_; (case hd => rfl); (case hg => rfl); (case hr => first | (go_simp; done) | (go_simp; rfl)); intro gb374 hg w26 hbox hb; have n0_ := Aside0.mk (below_step (by repeat (first | (with_reducible first | exact HB.out | apply ba_ | apply bn_ | apply bd_) | exact HB.out)) hb); have BK374 := Aside0.mk (hbox); have GW374 := Aside0.mk ((by rw [hg]; exact (below_size (by repeat (first | (with_reducible first | exact HB.out | apply ba_ | apply bn_ | apply bd_) | exact HB.out))) : w.heap.size ≤ gb374)); have GE374 := GW374; clear HB; have HB := n0_; clear n0_; clear hb hbox hg; have hcz27_0 : w26.cell? ⟨gb374, 0, none⟩ = some (.slice A0_0 l0_0.length c0_0) := (blk_cell BK374.out 0).trans rfl; have hcz27_1 : w26.cell? ⟨gb374, 1, none⟩ = some (.int .i64 a0_1) := (blk_cell BK374.out 1).trans rfl; have hcz27_2 : w26.cell? ⟨gb374, 2, none⟩ = some (.int .i64 a0_2) := (blk_cell BK374.out 2).trans rfl; have hcz27_3 : w26.cell? ⟨gb374, 3, none⟩ = some (.string a0_3) := (blk_cell BK374.out 3).trans rfl; have hfz27_0 := blk_frozen BK374.out 0; have hfz27_1 := blk_frozen BK374.out 1; have hfz27_2 := blk_frozen BK374.out 2; have hfz27_3 := blk_frozen BK374.out 3) | ((with_reducible refine gate_callee (f := 118) rfl ?_); refine goesL_ (some 5) rfl rfl Try.func118 (by kernel_rfl) rfl #[.slice A0_0 l0_0.length c0_0] rfl (by (try simp only [mp_]); first | done | rfl | (simp only [List.length_drop, List.length_take]; rfl)) ?_; (with_reducible refine (spec_SetOk.calls k _ _ l0_0 false _ ?side1 ?side2 A2.out).mono ?_); (case side1 => repeat (first | exact (Kd.C_below HR0_0.out HB.out) | (with_reducible first | refine ca_ ?_ _ | refine cn_ ?_ _ | refine cd_ ?_))); (case side2 => exact HC0_0.out); rintro e w28 ⟨rfl, hb⟩; refine ⟨_, rfl, ?_⟩; have n0_ := Aside0.mk (bb_ BK374.out hb); have n1_ := Aside0.mk (below_step (by repeat (first | (with_reducible first | exact HB.out | apply ba_ | apply bn_ | apply bd_ | refine below_set ?_ GE374.out) | exact HB.out)) hb); clear BK374; clear HB; have BK374 := n0_; have HB := n1_; clear n0_ n1_; (try clear hb); (try clear hb2); (try clear hk); (try clear hi)))
 go_ret
 exact ⟨by first | rfl | (simp [errW_none, errW_some] <;> rfl) | (simp [*, errW_none, errW_some] <;> rfl), by repeat (first | (with_reducible first | exact HB.out | apply ba_ | apply bn_ | apply bd_ | refine below_set ?_ GE374.out) | exact HB.out)⟩
def impl_AlarmOk.f (k : Nat) (l0_0 : List (S88)) (a0_1 : Int) (a0_2 : Int) (a0_3 : ByteArray) : Option (Bool) := if (l0_0.length : Int) > 0 then ((impl_SetOk.f k l0_0).bind fun t400 => (if t400 = true then ((impl_in.f a0_1 0 99999).bind fun t401 => (if t401 = true then ((impl_in.f a0_2 a0_1 99999).bind fun t402 => (if t402 = true then ((impl_PlainOk.f k a0_3).bind fun t403 => (some t403)) else (some false))) else (some false))) else (some false))) else (some false)
theorem impl_AlarmOk.mono : ∀ a0 a1 a2 a3 k, LeO (impl_AlarmOk.f k a0 a1 a2 a3) (impl_AlarmOk.f (k + 1) a0 a1 a2 a3) := by
 intro a0 a1 a2 a3 k
 unfold impl_AlarmOk.f
 repeat' first
   | (with_reducible exact impl_PlainOk.mono _ _)
   | (with_reducible exact impl_SetOk.mono _ _)
   | (with_reducible exact LeO.refl _)
   | (with_reducible exact LeO.none _)
   | (with_reducible refine LeO.ite ?_ ?_)
   | (with_reducible refine LeO.bind ?_ (fun _ => ?_))
   | exact impl_PlainOk.mono _ _
   | exact impl_SetOk.mono _ _
theorem impl_AlarmOk.calls (k : Nat) (A0_0 : Option Addr) (c0_0 : Nat) (l0_0 : List (S88)) (a0_1 : Int) (a0_2 : Int) (a0_3 : ByteArray) (r : Bool) (w : World) (hr0_0 : Kd.C k88 w A0_0 l0_0.length l0_0) (hc0_0 : l0_0.length ≤ c0_0) (h : impl_AlarmOk.f k l0_0 a0_1 a0_2 a0_3 = some r) :
  Calls Try.prog 103 #[.agg #[.slice A0_0 l0_0.length c0_0, .int .i64 a0_1, .int .i64 a0_2, .string a0_3]] w fun e w' => e = .returned (.bool r) ∧ Below w.heap.size w w' := by
 have hu43 := Try.underlying43
 have HR0_0 := Aside0.mk hr0_0
 have HC0_0 := Aside0.mk hc0_0
 clear hr0_0 hc0_0
 have HB := Aside0.mk (Below.refl w.heap.size w)
 have H : (if (l0_0.length : Int) > 0 then ((impl_SetOk.f k l0_0).bind fun t400 => (if t400 = true then ((impl_in.f a0_1 0 99999).bind fun t401 => (if t401 = true then ((impl_in.f a0_2 a0_1 99999).bind fun t402 => (if t402 = true then ((impl_PlainOk.f k a0_3).bind fun t403 => (some t403)) else (some false))) else (some false))) else (some false))) else (some false)) = some r := h
 clear h
 by_cases c2 : (l0_0.length : Int) > 0
 ·
  rw [if_pos c2] at H
  have c2b0 : decide (0 < (l0_0.length : Int)) = true := decide_eq_true c2
  have c2b1 : decide (0 < l0_0.length) = true := decide_eq_true (by omega)
  clear c2
  replace H := Option.bind_eq_some_iff.mp H
  obtain ⟨t400, A30, H⟩ := H
  have A3 := Aside0.mk A30
  clear A30
  by_cases c4 : t400 = true
  ·
   subst c4
   rw [if_pos rfl] at H
   replace H := Option.bind_eq_some_iff.mp H
   obtain ⟨t401, A50, H⟩ := H
   have A5 := Aside0.mk A50
   clear A50
   by_cases c6 : t401 = true
   ·
    subst c6
    rw [if_pos rfl] at H
    replace H := Option.bind_eq_some_iff.mp H
    obtain ⟨t402, A70, H⟩ := H
    have A7 := Aside0.mk A70
    clear A70
    by_cases c8 : t402 = true
    ·
     subst c8
     rw [if_pos rfl] at H
     replace H := Option.bind_eq_some_iff.mp H
     obtain ⟨t403, A90, H⟩ := H
     have A9 := Aside0.mk A90
     clear A90
     obtain rfl := Option.some.inj H
     go_enter Try.func103, Try.ntmps103
     go_wp2_with (first | ((with_reducible refine gate_dst (N := 1) rfl ?_); refine box_event ?hg (N := 1) ?hd (cs := #[.slice A0_0 l0_0.length c0_0, .int .i64 a0_1, .int .i64 a0_2, .string a0_3]) (t := 43) ?hr ?_; (case hd => rfl); (case hg => rfl); (case hr => first | (go_simp; done) | (go_simp; rfl)); intro gb399 hg w10 hbox hb; have n0_ := Aside0.mk (below_step (by repeat (first | (with_reducible first | exact HB.out | apply ba_ | apply bn_ | apply bd_) | exact HB.out)) hb); have BK399 := Aside0.mk (hbox); have GW399 := Aside0.mk ((by rw [hg]; exact (below_size (by repeat (first | (with_reducible first | exact HB.out | apply ba_ | apply bn_ | apply bd_) | exact HB.out))) : w.heap.size ≤ gb399)); have GE399 := GW399; clear HB; have HB := n0_; clear n0_; clear hb hbox hg; have hcz11_0 : w10.cell? ⟨gb399, 0, none⟩ = some (.slice A0_0 l0_0.length c0_0) := (blk_cell BK399.out 0).trans rfl; have hcz11_1 : w10.cell? ⟨gb399, 1, none⟩ = some (.int .i64 a0_1) := (blk_cell BK399.out 1).trans rfl; have hcz11_2 : w10.cell? ⟨gb399, 2, none⟩ = some (.int .i64 a0_2) := (blk_cell BK399.out 2).trans rfl; have hcz11_3 : w10.cell? ⟨gb399, 3, none⟩ = some (.string a0_3) := (blk_cell BK399.out 3).trans rfl; have hfz11_0 := blk_frozen BK399.out 0; have hfz11_1 := blk_frozen BK399.out 1; have hfz11_2 := blk_frozen BK399.out 2; have hfz11_3 := blk_frozen BK399.out 3) | (go_at_call 119; (with_reducible refine (impl_SetOk.calls k _ _ l0_0 true _ ?side1 ?side2 A3.out).mono ?_); (case side1 => repeat (first | exact (Kd.C_below HR0_0.out HB.out) | (with_reducible first | refine ca_ ?_ _ | refine cn_ ?_ _ | refine cd_ ?_))); (case side2 => exact HC0_0.out); rintro e w12 ⟨rfl, hb⟩; have n0_ := Aside0.mk (bb_ BK399.out hb); have n1_ := Aside0.mk (below_step (by repeat (first | (with_reducible first | exact HB.out | apply ba_ | apply bn_ | apply bd_ | refine below_set ?_ GE399.out) | exact HB.out)) hb); clear BK399; clear HB; have BK399 := n0_; have HB := n1_; clear n0_ n1_; (try clear hb); (try clear hb2); (try clear hk); (try clear hi); have hcz13_0 : w12.cell? ⟨gb399, 0, none⟩ = some (.slice A0_0 l0_0.length c0_0) := (blk_cell BK399.out 0).trans rfl; have hcz13_1 : w12.cell? ⟨gb399, 1, none⟩ = some (.int .i64 a0_1) := (blk_cell BK399.out 1).trans rfl; have hcz13_2 : w12.cell? ⟨gb399, 2, none⟩ = some (.int .i64 a0_2) := (blk_cell BK399.out 2).trans rfl; have hcz13_3 : w12.cell? ⟨gb399, 3, none⟩ = some (.string a0_3) := (blk_cell BK399.out 3).trans rfl; have hfz13_0 := blk_frozen BK399.out 0; have hfz13_1 := blk_frozen BK399.out 1; have hfz13_2 := blk_frozen BK399.out 2; have hfz13_3 := blk_frozen BK399.out 3) | (go_at_call 73; (with_reducible refine (impl_in.calls a0_1 0 99999 true _ A5.out).mono ?_); rintro e w' ⟨rfl, ⟨nd, rfl⟩⟩) | (go_at_call 73; (with_reducible refine (impl_in.calls a0_2 a0_1 99999 true _ A7.out).mono ?_); rintro e w' ⟨rfl, ⟨nd, rfl⟩⟩) | (go_at_call 122; (with_reducible refine (impl_PlainOk.calls k a0_3 t403 _ A9.out).mono ?_); rintro e w' ⟨rfl, ⟨nd, rfl⟩⟩))
     go_ret
     exact ⟨by first | rfl | (simp [errW_none, errW_some] <;> rfl) | (simp [*, errW_none, errW_some] <;> rfl), by repeat (first | (with_reducible first | exact HB.out | apply ba_ | apply bn_ | apply bd_ | refine below_set ?_ GE399.out) | exact HB.out)⟩
    replace c8 := Bool.eq_false_iff.mpr c8
    subst c8
    rw [if_neg (show ¬ (false = true) by decide)] at H
    obtain rfl := Option.some.inj H
    go_enter Try.func103, Try.ntmps103
    go_wp2_with (first | ((with_reducible refine gate_dst (N := 1) rfl ?_); refine box_event ?hg (N := 1) ?hd (cs := #[.slice A0_0 l0_0.length c0_0, .int .i64 a0_1, .int .i64 a0_2, .string a0_3]) (t := 43) ?hr ?_; (case hd => rfl); (case hg => rfl); (case hr => first | (go_simp; done) | (go_simp; rfl)); intro gb399 hg w14 hbox hb; have n0_ := Aside0.mk (below_step (by repeat (first | (with_reducible first | exact HB.out | apply ba_ | apply bn_ | apply bd_) | exact HB.out)) hb); have BK399 := Aside0.mk (hbox); have GW399 := Aside0.mk ((by rw [hg]; exact (below_size (by repeat (first | (with_reducible first | exact HB.out | apply ba_ | apply bn_ | apply bd_) | exact HB.out))) : w.heap.size ≤ gb399)); have GE399 := GW399; clear HB; have HB := n0_; clear n0_; clear hb hbox hg; have hcz15_0 : w14.cell? ⟨gb399, 0, none⟩ = some (.slice A0_0 l0_0.length c0_0) := (blk_cell BK399.out 0).trans rfl; have hcz15_1 : w14.cell? ⟨gb399, 1, none⟩ = some (.int .i64 a0_1) := (blk_cell BK399.out 1).trans rfl; have hcz15_2 : w14.cell? ⟨gb399, 2, none⟩ = some (.int .i64 a0_2) := (blk_cell BK399.out 2).trans rfl; have hcz15_3 : w14.cell? ⟨gb399, 3, none⟩ = some (.string a0_3) := (blk_cell BK399.out 3).trans rfl; have hfz15_0 := blk_frozen BK399.out 0; have hfz15_1 := blk_frozen BK399.out 1; have hfz15_2 := blk_frozen BK399.out 2; have hfz15_3 := blk_frozen BK399.out 3) | (go_at_call 119; (with_reducible refine (impl_SetOk.calls k _ _ l0_0 true _ ?side1 ?side2 A3.out).mono ?_); (case side1 => repeat (first | exact (Kd.C_below HR0_0.out HB.out) | (with_reducible first | refine ca_ ?_ _ | refine cn_ ?_ _ | refine cd_ ?_))); (case side2 => exact HC0_0.out); rintro e w16 ⟨rfl, hb⟩; have n0_ := Aside0.mk (bb_ BK399.out hb); have n1_ := Aside0.mk (below_step (by repeat (first | (with_reducible first | exact HB.out | apply ba_ | apply bn_ | apply bd_ | refine below_set ?_ GE399.out) | exact HB.out)) hb); clear BK399; clear HB; have BK399 := n0_; have HB := n1_; clear n0_ n1_; (try clear hb); (try clear hb2); (try clear hk); (try clear hi); have hcz17_0 : w16.cell? ⟨gb399, 0, none⟩ = some (.slice A0_0 l0_0.length c0_0) := (blk_cell BK399.out 0).trans rfl; have hcz17_1 : w16.cell? ⟨gb399, 1, none⟩ = some (.int .i64 a0_1) := (blk_cell BK399.out 1).trans rfl; have hcz17_2 : w16.cell? ⟨gb399, 2, none⟩ = some (.int .i64 a0_2) := (blk_cell BK399.out 2).trans rfl; have hcz17_3 : w16.cell? ⟨gb399, 3, none⟩ = some (.string a0_3) := (blk_cell BK399.out 3).trans rfl; have hfz17_0 := blk_frozen BK399.out 0; have hfz17_1 := blk_frozen BK399.out 1; have hfz17_2 := blk_frozen BK399.out 2; have hfz17_3 := blk_frozen BK399.out 3) | (go_at_call 73; (with_reducible refine (impl_in.calls a0_1 0 99999 true _ A5.out).mono ?_); rintro e w' ⟨rfl, ⟨nd, rfl⟩⟩) | (go_at_call 73; (with_reducible refine (impl_in.calls a0_2 a0_1 99999 false _ A7.out).mono ?_); rintro e w' ⟨rfl, ⟨nd, rfl⟩⟩))
    go_ret
    exact ⟨by first | rfl | (simp [errW_none, errW_some] <;> rfl) | (simp [*, errW_none, errW_some] <;> rfl), by repeat (first | (with_reducible first | exact HB.out | apply ba_ | apply bn_ | apply bd_ | refine below_set ?_ GE399.out) | exact HB.out)⟩
   replace c6 := Bool.eq_false_iff.mpr c6
   subst c6
   rw [if_neg (show ¬ (false = true) by decide)] at H
   obtain rfl := Option.some.inj H
   go_enter Try.func103, Try.ntmps103
   go_wp2_with (first | ((with_reducible refine gate_dst (N := 1) rfl ?_); refine box_event ?hg (N := 1) ?hd (cs := #[.slice A0_0 l0_0.length c0_0, .int .i64 a0_1, .int .i64 a0_2, .string a0_3]) (t := 43) ?hr ?_; (case hd => rfl); (case hg => rfl); (case hr => first | (go_simp; done) | (go_simp; rfl)); intro gb399 hg w18 hbox hb; have n0_ := Aside0.mk (below_step (by repeat (first | (with_reducible first | exact HB.out | apply ba_ | apply bn_ | apply bd_) | exact HB.out)) hb); have BK399 := Aside0.mk (hbox); have GW399 := Aside0.mk ((by rw [hg]; exact (below_size (by repeat (first | (with_reducible first | exact HB.out | apply ba_ | apply bn_ | apply bd_) | exact HB.out))) : w.heap.size ≤ gb399)); have GE399 := GW399; clear HB; have HB := n0_; clear n0_; clear hb hbox hg; have hcz19_0 : w18.cell? ⟨gb399, 0, none⟩ = some (.slice A0_0 l0_0.length c0_0) := (blk_cell BK399.out 0).trans rfl; have hcz19_1 : w18.cell? ⟨gb399, 1, none⟩ = some (.int .i64 a0_1) := (blk_cell BK399.out 1).trans rfl; have hcz19_2 : w18.cell? ⟨gb399, 2, none⟩ = some (.int .i64 a0_2) := (blk_cell BK399.out 2).trans rfl; have hcz19_3 : w18.cell? ⟨gb399, 3, none⟩ = some (.string a0_3) := (blk_cell BK399.out 3).trans rfl; have hfz19_0 := blk_frozen BK399.out 0; have hfz19_1 := blk_frozen BK399.out 1; have hfz19_2 := blk_frozen BK399.out 2; have hfz19_3 := blk_frozen BK399.out 3) | (go_at_call 119; (with_reducible refine (impl_SetOk.calls k _ _ l0_0 true _ ?side1 ?side2 A3.out).mono ?_); (case side1 => repeat (first | exact (Kd.C_below HR0_0.out HB.out) | (with_reducible first | refine ca_ ?_ _ | refine cn_ ?_ _ | refine cd_ ?_))); (case side2 => exact HC0_0.out); rintro e w20 ⟨rfl, hb⟩; have n0_ := Aside0.mk (bb_ BK399.out hb); have n1_ := Aside0.mk (below_step (by repeat (first | (with_reducible first | exact HB.out | apply ba_ | apply bn_ | apply bd_ | refine below_set ?_ GE399.out) | exact HB.out)) hb); clear BK399; clear HB; have BK399 := n0_; have HB := n1_; clear n0_ n1_; (try clear hb); (try clear hb2); (try clear hk); (try clear hi); have hcz21_0 : w20.cell? ⟨gb399, 0, none⟩ = some (.slice A0_0 l0_0.length c0_0) := (blk_cell BK399.out 0).trans rfl; have hcz21_1 : w20.cell? ⟨gb399, 1, none⟩ = some (.int .i64 a0_1) := (blk_cell BK399.out 1).trans rfl; have hcz21_2 : w20.cell? ⟨gb399, 2, none⟩ = some (.int .i64 a0_2) := (blk_cell BK399.out 2).trans rfl; have hcz21_3 : w20.cell? ⟨gb399, 3, none⟩ = some (.string a0_3) := (blk_cell BK399.out 3).trans rfl; have hfz21_0 := blk_frozen BK399.out 0; have hfz21_1 := blk_frozen BK399.out 1; have hfz21_2 := blk_frozen BK399.out 2; have hfz21_3 := blk_frozen BK399.out 3) | (go_at_call 73; (with_reducible refine (impl_in.calls a0_1 0 99999 false _ A5.out).mono ?_); rintro e w' ⟨rfl, ⟨nd, rfl⟩⟩))
   go_ret
   exact ⟨by first | rfl | (simp [errW_none, errW_some] <;> rfl) | (simp [*, errW_none, errW_some] <;> rfl), by repeat (first | (with_reducible first | exact HB.out | apply ba_ | apply bn_ | apply bd_ | refine below_set ?_ GE399.out) | exact HB.out)⟩
  replace c4 := Bool.eq_false_iff.mpr c4
  subst c4
  rw [if_neg (show ¬ (false = true) by decide)] at H
  obtain rfl := Option.some.inj H
  go_enter Try.func103, Try.ntmps103
  go_wp2_with (first | ((with_reducible refine gate_dst (N := 1) rfl ?_); refine box_event ?hg (N := 1) ?hd (cs := #[.slice A0_0 l0_0.length c0_0, .int .i64 a0_1, .int .i64 a0_2, .string a0_3]) (t := 43) ?hr ?_; (case hd => rfl); (case hg => rfl); (case hr => first | (go_simp; done) | (go_simp; rfl)); intro gb399 hg w22 hbox hb; have n0_ := Aside0.mk (below_step (by repeat (first | (with_reducible first | exact HB.out | apply ba_ | apply bn_ | apply bd_) | exact HB.out)) hb); have BK399 := Aside0.mk (hbox); have GW399 := Aside0.mk ((by rw [hg]; exact (below_size (by repeat (first | (with_reducible first | exact HB.out | apply ba_ | apply bn_ | apply bd_) | exact HB.out))) : w.heap.size ≤ gb399)); have GE399 := GW399; clear HB; have HB := n0_; clear n0_; clear hb hbox hg; have hcz23_0 : w22.cell? ⟨gb399, 0, none⟩ = some (.slice A0_0 l0_0.length c0_0) := (blk_cell BK399.out 0).trans rfl; have hcz23_1 : w22.cell? ⟨gb399, 1, none⟩ = some (.int .i64 a0_1) := (blk_cell BK399.out 1).trans rfl; have hcz23_2 : w22.cell? ⟨gb399, 2, none⟩ = some (.int .i64 a0_2) := (blk_cell BK399.out 2).trans rfl; have hcz23_3 : w22.cell? ⟨gb399, 3, none⟩ = some (.string a0_3) := (blk_cell BK399.out 3).trans rfl; have hfz23_0 := blk_frozen BK399.out 0; have hfz23_1 := blk_frozen BK399.out 1; have hfz23_2 := blk_frozen BK399.out 2; have hfz23_3 := blk_frozen BK399.out 3) | (go_at_call 119; (with_reducible refine (impl_SetOk.calls k _ _ l0_0 false _ ?side1 ?side2 A3.out).mono ?_); (case side1 => repeat (first | exact (Kd.C_below HR0_0.out HB.out) | (with_reducible first | refine ca_ ?_ _ | refine cn_ ?_ _ | refine cd_ ?_))); (case side2 => exact HC0_0.out); rintro e w24 ⟨rfl, hb⟩; have n0_ := Aside0.mk (bb_ BK399.out hb); have n1_ := Aside0.mk (below_step (by repeat (first | (with_reducible first | exact HB.out | apply ba_ | apply bn_ | apply bd_ | refine below_set ?_ GE399.out) | exact HB.out)) hb); clear BK399; clear HB; have BK399 := n0_; have HB := n1_; clear n0_ n1_; (try clear hb); (try clear hb2); (try clear hk); (try clear hi)))
  go_ret
  exact ⟨by first | rfl | (simp [errW_none, errW_some] <;> rfl) | (simp [*, errW_none, errW_some] <;> rfl), by repeat (first | (with_reducible first | exact HB.out | apply ba_ | apply bn_ | apply bd_ | refine below_set ?_ GE399.out) | exact HB.out)⟩
 rw [if_neg c2] at H
 have c2b0 : decide (0 < (l0_0.length : Int)) = false := decide_eq_false c2
 have c2b1 : decide (0 < l0_0.length) = false := decide_eq_false (by omega)
 clear c2
 obtain rfl := Option.some.inj H
 go_enter Try.func103, Try.ntmps103
 go_wp2_with (first | ((with_reducible refine gate_dst (N := 1) rfl ?_); refine box_event ?hg (N := 1) ?hd (cs := #[.slice A0_0 l0_0.length c0_0, .int .i64 a0_1, .int .i64 a0_2, .string a0_3]) (t := 43) ?hr ?_; (case hd => rfl); (case hg => rfl); (case hr => first | (go_simp; done) | (go_simp; rfl)); intro gb399 hg w25 hbox hb; have n0_ := Aside0.mk (below_step (by repeat (first | (with_reducible first | exact HB.out | apply ba_ | apply bn_ | apply bd_) | exact HB.out)) hb); have BK399 := Aside0.mk (hbox); have GW399 := Aside0.mk ((by rw [hg]; exact (below_size (by repeat (first | (with_reducible first | exact HB.out | apply ba_ | apply bn_ | apply bd_) | exact HB.out))) : w.heap.size ≤ gb399)); have GE399 := GW399; clear HB; have HB := n0_; clear n0_; clear hb hbox hg; have hcz26_0 : w25.cell? ⟨gb399, 0, none⟩ = some (.slice A0_0 l0_0.length c0_0) := (blk_cell BK399.out 0).trans rfl; have hcz26_1 : w25.cell? ⟨gb399, 1, none⟩ = some (.int .i64 a0_1) := (blk_cell BK399.out 1).trans rfl; have hcz26_2 : w25.cell? ⟨gb399, 2, none⟩ = some (.int .i64 a0_2) := (blk_cell BK399.out 2).trans rfl; have hcz26_3 : w25.cell? ⟨gb399, 3, none⟩ = some (.string a0_3) := (blk_cell BK399.out 3).trans rfl; have hfz26_0 := blk_frozen BK399.out 0; have hfz26_1 := blk_frozen BK399.out 1; have hfz26_2 := blk_frozen BK399.out 2; have hfz26_3 := blk_frozen BK399.out 3))
 go_ret
 exact ⟨by first | rfl | (simp [errW_none, errW_some] <;> rfl) | (simp [*, errW_none, errW_some] <;> rfl), by repeat (first | (with_reducible first | exact HB.out | apply ba_ | apply bn_ | apply bd_ | refine below_set ?_ GE399.out) | exact HB.out)⟩
end Go.Proofs.Yticgekgojgkbgaa.Print
end
section
namespace Go.Proofs.Yticgekgojgkbgaa.Print
open Go.RowKit Go.Proofs.YticgekgojgkbgaaV.PrintWords Go.Proofs.YticgekgojgkbgaaV.PrintLast Go.Proofs.YticgekgojgkbgaaV.PrintMore
set_option linter.unusedVariables false
set_option linter.unusedSimpArgs false
/-- Each byte of a plain text. -/
def plainStep {ρ : Type} (no : ρ) (s : ByteArray) (i : Nat) : Option ρ := if (bt s (i : Int)) < 32 then some no else if (bt s (i : Int)) > 126 then some no else if (bt s (i : Int)) = 34 then some no else if (bt s (i : Int)) = 92 then some no else none
def plainOk (s : ByteArray) : Bool := decide ((s.size : Int) ≤ 12) && scan (plainStep false s) true s.size 0
theorem plainStep_false (s : ByteArray) (i : Nat) (r : Bool) (h : plainStep false s i = some r) : r = false := by
  unfold plainStep at h
  repeat (split at h; (injection h with h; exact h.symm))
  cases h
theorem implPlainOk_ev (s : ByteArray) (h : s.size < 4611686018427387904) : Ev (fun k => impl_PlainOk.f k s) (plainOk s) := by
  unfold impl_PlainOk.f plainOk
  by_cases hc : (s.size : Int) > 12
  · simp only [if_pos hc, decide_eq_false (show ¬ (s.size : Int) ≤ 12 by omega), Bool.false_and]; exact Ev.now _
  · simp only [if_neg hc, decide_eq_true (show (s.size : Int) ≤ 12 by omega), Bool.true_and]
    refine scan_ev (F := fun k i => impl_PlainOk.l0 k s i) (n := s.size) (fun k => ?_) (fun i hi => ⟨0, fun k _ => ?_⟩) s.size 0 (by omega)
    · simp only [impl_PlainOk.l0]; rw [if_neg (by omega)]
    · simp only [impl_PlainOk.l0, plainStep]
      rw [if_pos (by omega), if_pos (by omega), wrap_up i (by omega)]
      repeat (split; rfl)
      rfl
theorem specPlainOk_ev (s : ByteArray) (h : s.size < 4611686018427387904) : Ev (fun k => spec_PlainOk.f k s) (plainOk s) := by
  unfold spec_PlainOk.f plainOk
  rw [← scan_end (plainStep_false s)]
  refine scan_ev (F := fun k i => spec_PlainOk.l0 k s i) (n := s.size) (fun k => ?_) (fun i hi => ⟨0, fun k _ => ?_⟩) s.size 0 (by omega)
  · simp only [spec_PlainOk.l0]; rw [if_neg (by omega)]
  · simp only [spec_PlainOk.l0, plainStep]
    rw [if_pos (by omega), if_pos (by omega), wrap_up i (by omega)]
    repeat (split; rfl)
    rfl
def labelOk (x : S88) : Bool := nameOk x.f0 && plainOk x.f1
theorem implLabelOk_ev (x : S88) (h : WiLabel x) : Ev (fun k => impl_LabelOk.f k x.f0 x.f1) (labelOk x) := by
  have h1 := h.1
  have h2 := h.2
  obtain ⟨K1, g1⟩ := implNameOk_ev x.f0 (by omega)
  obtain ⟨K2, g2⟩ := implPlainOk_ev x.f1 (by omega)
  refine ⟨K1 + K2, fun k hk => ?_⟩
  have e1 := g1 k (by omega)
  have e2 := g2 k (by omega)
  simp only at e1 e2
  simp only [impl_LabelOk.f, e1, e2, Option.bind_some, labelOk]
  cases nameOk x.f0 <;> simp
theorem specLabelOk_ev (x : S88) (h : WiLabel x) : Ev (fun k => spec_LabelOk.f k x.f0 x.f1) (labelOk x) := by
  have h1 := h.1
  have h2 := h.2
  obtain ⟨K1, g1⟩ := specNameOk_ev x.f0 (by omega)
  obtain ⟨K2, g2⟩ := specPlainOk_ev x.f1 (by omega)
  refine ⟨K1 + K2, fun k hk => ?_⟩
  have e1 := g1 k (by omega)
  have e2 := g2 k (by omega)
  simp only at e1 e2
  simp only [spec_LabelOk.f, e1, e2, Option.bind_some, labelOk]
  cases nameOk x.f0 <;> simp
/-- Is label i right, behind the one before it? -/
def setBit (l : List S88) (i : Nat) : Bool := labelOk (l.getD i z88) && (decide (i = 0) || Op.bytesLess (l.getD (i - 1) z88).f0.toList (l.getD i z88).f0.toList)
def setStep (l : List S88) (i : Nat) : Option Bool := if setBit l i = true then none else some false
def setOk (l : List S88) : Bool := decide ((l.length : Int) ≤ 4) && scan (setStep l) true l.length 0
theorem setStep_false (l : List S88) (i : Nat) (r : Bool) (h : setStep l i = some r) : r = false := by
  unfold setStep at h
  split at h
  · cases h
  · injection h with h; exact h.symm
theorem scan_stop {step : Nat → Option Bool} (hf : ∀ i r, step i = some r → r = false) : ∀ d i j, i ≤ j → j < i + d → step j = some false → scan step true d i = false
  | 0, i, j, h1, h2, _ => by omega
  | d + 1, i, j, h1, h2, h3 => by
    unfold scan
    cases hs : step i with
    | some r => exact hf i r hs
    | none =>
      by_cases e : i = j
      · subst e; rw [hs] at h3; cases h3
      · exact scan_stop hf d (i + 1) j (by omega) (by omega) h3
theorem sub1 (i : Nat) (h : 0 < i) (hi : i < 4611686018427387904) : wrap64 ((i : Int) - 1) = ((i - 1 : Nat) : Int) := by rw [wrap_id (by omega) (by omega)]; omega
theorem implSetOk_ev (l : List S88) (h : l.length ≤ 4000000 ∧ ∀ y ∈ l, WiLabel y) : Ev (fun k => impl_SetOk.f k l) (setOk l) := by
  have h1 := h.1
  have hx : setOk l = scan (fun i => if 4 ≤ i then some false else setStep l i) true l.length 0 := by
    unfold setOk
    by_cases h4 : l.length ≤ 4
    · rw [decide_eq_true (show (l.length : Int) ≤ 4 by omega), Bool.true_and]
      exact scan_congr _ _ (fun j _ hj => by rw [if_neg (by omega)])
    · rw [decide_eq_false (show ¬ (l.length : Int) ≤ 4 by omega), Bool.false_and]
      exact (scan_stop (step := fun i => if 4 ≤ i then some false else setStep l i) (fun i r hr => by
        by_cases hi : 4 ≤ i
        · simp only [if_pos hi] at hr; injection hr with hr; exact hr.symm
        · simp only [if_neg hi] at hr; exact setStep_false l i r hr) l.length 0 4 (by omega) (by omega) (by simp)).symm
  rw [hx]
  unfold impl_SetOk.f
  refine scan_ev (F := fun k i => impl_SetOk.l0 k l l (l.length : Int) i) (n := l.length) (fun k => ?_) (fun i hi => ?_) l.length 0 (by omega)
  · simp only [impl_SetOk.l0]; rw [if_neg (by omega)]
  · obtain ⟨K, g⟩ := implLabelOk_ev (l.getD i z88) (h.2 _ (getD_mem l i _ hi))
    refine ⟨K, fun k hk => ?_⟩
    have e := g k hk
    simp only at e
    simp only [impl_SetOk.l0]
    rw [if_pos (by omega), if_pos (by omega), if_pos (by omega)]
    by_cases h4 : 4 ≤ i
    · rw [if_pos (by omega), if_pos h4]; rfl
    · rw [if_neg (by omega), if_neg h4, rdnLabel, e, Option.bind_some, wrap_up i (by omega)]
      unfold setStep setBit
      cases hl : labelOk (l.getD i z88) with
      | false => simp [goOn]
      | true =>
        by_cases h0 : i = 0
        · subst h0; simp [goOn]
        · rw [if_pos rfl, if_pos (by omega), sub1 i (by omega) (by omega), if_pos (by omega), if_pos (by omega), rdnLabel, decide_eq_false h0]
          cases Op.bytesLess (l.getD (i - 1) z88).f0.toList (l.getD i z88).f0.toList <;> simp [goOn]
theorem specSetOk_ev (l : List S88) (h : l.length ≤ 4000000 ∧ ∀ y ∈ l, WiLabel y) : Ev (fun k => spec_SetOk.f k l) (setOk l) := by
  have h1 := h.1
  unfold spec_SetOk.f setOk
  rw [← scan_end (setStep_false l)]
  refine scan_ev (F := fun k i => spec_SetOk.l0 k l i) (n := l.length) (fun k => ?_) (fun i hi => ?_) l.length 0 (by omega)
  · simp only [spec_SetOk.l0]; rw [if_neg (by omega)]
  · obtain ⟨K, g⟩ := specLabelOk_ev (l.getD i z88) (h.2 _ (getD_mem l i _ hi))
    refine ⟨K, fun k hk => ?_⟩
    have e := g k hk
    simp only at e
    simp only [spec_SetOk.l0, spec_Less.f]
    rw [if_pos (by omega), if_pos (by omega), rdnLabel, e, Option.bind_some, wrap_up i (by omega)]
    unfold setStep setBit
    cases hl : labelOk (l.getD i z88) with
    | false => simp [goOn]
    | true =>
      by_cases h0 : i = 0
      · subst h0; simp [goOn]
      · rw [if_pos rfl, if_pos (by omega), sub1 i (by omega) (by omega), if_pos (by omega), if_pos (by omega), rdnLabel, decide_eq_false h0]
        cases Op.bytesLess (l.getD (i - 1) z88).f0.toList (l.getD i z88).f0.toList <;> simp [goOn]
def alarmOk (x : S43) : Bool := setOk x.f0 && (decide ((x.f0.length : Int) > 0) && ((decide (0 ≤ x.f1) && decide (x.f1 ≤ 99999)) && ((decide (x.f1 ≤ x.f2) && decide (x.f2 ≤ 99999)) && plainOk x.f3)))
theorem implAlarmOk_ev (x : S43) (h : WiAlarm x) : Ev (fun k => impl_AlarmOk.f k x.f0 x.f1 x.f2 x.f3) (alarmOk x) := by
  have h3 := h.2.2.2
  obtain ⟨K1, g1⟩ := implSetOk_ev x.f0 h.1
  obtain ⟨K2, g2⟩ := implPlainOk_ev x.f3 (by omega)
  refine ⟨K1 + K2, fun k hk => ?_⟩
  have e1 := g1 k (by omega)
  have e2 := g2 k (by omega)
  simp only at e1 e2
  simp only [impl_AlarmOk.f, e1, e2, Option.bind_some, alarmOk, inEq]
  by_cases hl : (x.f0.length : Int) > 0
  · rw [if_pos hl, decide_eq_true hl]
    cases setOk x.f0 <;> cases (decide (0 ≤ x.f1) && decide (x.f1 ≤ 99999)) <;> cases (decide (x.f1 ≤ x.f2) && decide (x.f2 ≤ 99999)) <;> simp
  · rw [if_neg hl, decide_eq_false hl]
    cases setOk x.f0 <;> simp
theorem specAlarmOk_ev (x : S43) (h : WiAlarm x) : Ev (fun k => spec_AlarmOk.f k x.f0 x.f1 x.f2 x.f3) (alarmOk x) := by
  have h3 := h.2.2.2
  obtain ⟨K1, g1⟩ := specSetOk_ev x.f0 h.1
  obtain ⟨K2, g2⟩ := specPlainOk_ev x.f3 (by omega)
  refine ⟨K1 + K2, fun k hk => ?_⟩
  have e1 := g1 k (by omega)
  have e2 := g2 k (by omega)
  simp only at e1 e2
  simp only [spec_AlarmOk.f, e1, e2, Option.bind_some, alarmOk, l1InEq]
  by_cases hl : (x.f0.length : Int) > 0
  · rw [if_pos hl, decide_eq_true hl]
    cases setOk x.f0 <;> cases (decide (0 ≤ x.f1) && decide (x.f1 ≤ 99999)) <;> cases (decide (x.f1 ≤ x.f2) && decide (x.f2 ≤ 99999)) <;> simp
  · rw [if_neg hl, decide_eq_false hl]
    cases setOk x.f0 <;> simp
def labL (x : S88) : List UInt8 := x.f0.data.toList ++ [61, 34] ++ x.f1.data.toList ++ [34]
def setTail : Bool → List S88 → List UInt8
  | _, [] => []
  | first, x :: r => (if first then [] else [44, 32]) ++ labL x ++ setTail false r
def setText (l : List S88) : ByteArray := if setOk l = true then ⟨([123] ++ setTail true l ++ [125]).toArray⟩ else ⟨#[]⟩
theorem ba_ext {a b : ByteArray} (h : a.data.toList = b.data.toList) : a = b := by
  cases a; cases b
  simp only at h
  rw [Array.toList_inj.1 h]
theorem ba_app (a b : ByteArray) : (a ++ b).data.toList = a.data.toList ++ b.data.toList := by simp [ByteArray.data_append]
theorem ba_len (a : ByteArray) : a.size = a.data.toList.length := rfl
theorem ba_szapp (a b : ByteArray) : (a ++ b).size = a.size + b.size := by rw [ba_len, ba_app, List.length_append, ← ba_len, ← ba_len]
theorem setOk_len (l : List S88) (h : setOk l = true) : l.length ≤ 4 := by
  unfold setOk at h
  rw [Bool.and_eq_true] at h
  have := of_decide_eq_true h.1
  omega
theorem sz2 : (⟨#[44, 32]⟩ : ByteArray).size = 2 := rfl
theorem sz2' : (⟨#[61, 34]⟩ : ByteArray).size = 2 := rfl
theorem sz1 : (⟨#[34]⟩ : ByteArray).size = 1 := rfl
theorem sz1b : (⟨#[125]⟩ : ByteArray).size = 1 := rfl
theorem sz1a : (⟨#[123]⟩ : ByteArray).size = 1 := rfl
theorem specText_go : ∀ (suf pre : List S88) (acc : ByteArray), pre.length + suf.length ≤ 4 → (∀ y ∈ suf, WiLabel y) → acc.size ≤ 1 + pre.length * 10000000 →
    Ev (fun k => spec_SetText.l0 k (pre ++ suf) acc (pre.length : Int)) ⟨(acc.data.toList ++ setTail (decide (pre.length = 0)) suf ++ [125]).toArray⟩
  | [], pre, acc, h1, h2, h3 => by
    refine ⟨1, fun k hk => ?_⟩
    obtain ⟨m, rfl⟩ : ∃ m, k = m + 1 := ⟨k - 1, by omega⟩
    simp only [spec_SetText.l0]
    rw [if_neg (not_lt_end pre), if_pos (by simp only [List.length_nil] at h1; omega)]
    refine congrArg some (ba_ext ?_)
    rw [ba_app]
    simp [setTail]
  | y :: suf, pre, acc, h1, h2, h3 => by
    simp only [List.length_cons] at h1
    have hy := h2 y List.mem_cons_self
    have hy0 := hy.1
    have hy1 := hy.2
    have ih := fun a ha => specText_go suf (pre ++ [y]) a (by simp only [List.length_append, List.length_singleton]; omega) (fun z hz => h2 z (List.mem_cons_of_mem _ hz)) ha
    simp only [List.append_assoc, List.singleton_append, List.length_append, List.length_singleton] at ih
    by_cases hp : pre.length = 0
    · obtain ⟨K, hK⟩ := ih ((((acc ++ y.f0) ++ (⟨#[61, 34]⟩ : ByteArray)) ++ y.f1) ++ (⟨#[34]⟩ : ByteArray)) (by simp only [ba_szapp, sz2', sz1]; omega)
      refine ⟨K + 1, fun k hk => ?_⟩
      obtain ⟨m, rfl⟩ : ∃ m, k = m + 1 := ⟨k - 1, by omega⟩
      have e := hK m (by omega)
      simp only at e
      simp only [spec_SetText.l0, rdmidLabeli]
      rw [if_pos (lt_mid pre suf y), if_neg (by omega), if_pos (by omega), if_pos (by omega), if_pos (by simp only [ba_szapp]; omega), if_pos (by simp only [ba_szapp, sz2']; omega), if_pos (by simp only [ba_szapp, sz2']; omega), wrap_up pre.length (by omega), e]
      refine congrArg some (ba_ext ?_)
      simp only [ba_app, setTail, labL, hp, decide_true, if_true, List.nil_append, List.append_assoc]
      simp [setTail]
    · obtain ⟨K, hK⟩ := ih (((((acc ++ (⟨#[44, 32]⟩ : ByteArray)) ++ y.f0) ++ (⟨#[61, 34]⟩ : ByteArray)) ++ y.f1) ++ (⟨#[34]⟩ : ByteArray)) (by simp only [ba_szapp, sz2', sz2, sz1]; omega)
      refine ⟨K + 1, fun k hk => ?_⟩
      obtain ⟨m, rfl⟩ : ∃ m, k = m + 1 := ⟨k - 1, by omega⟩
      have e := hK m (by omega)
      simp only at e
      simp only [spec_SetText.l0, rdmidLabeli]
      rw [if_pos (lt_mid pre suf y), if_pos (by omega), if_pos (by omega), if_pos (by omega), if_pos (by simp only [ba_szapp, sz2]; omega), if_pos (by simp only [ba_szapp, sz2]; omega), if_pos (by simp only [ba_szapp, sz2, sz2']; omega), if_pos (by simp only [ba_szapp, sz2, sz2']; omega), wrap_up pre.length (by omega), e]
      refine congrArg some (ba_ext ?_)
      simp only [ba_app, setTail, labL, decide_eq_false hp, if_false, List.append_assoc]
      simp [setTail]
theorem specSetText_ev (l : List S88) (h : l.length ≤ 4000000 ∧ ∀ y ∈ l, WiLabel y) : Ev (fun k => spec_SetText.f k l) (setText l) := by
  obtain ⟨K, hK⟩ := specSetOk_ev l h
  by_cases ho : setOk l = true
  · have hl := setOk_len l ho
    obtain ⟨K', hK'⟩ := specText_go l [] (⟨#[123]⟩ : ByteArray) (by simp; omega) h.2 (by simp [sz1a])
    refine ⟨K + K', fun k hk => ?_⟩
    have e := hK k (by omega)
    have e' := hK' k (by omega)
    simp only at e
    simp only [List.nil_append, List.length_nil] at e'
    simp only [spec_SetText.f, e, Option.bind_some, ho, if_true, setText]
    exact e'
  · refine ⟨K, fun k hk => ?_⟩
    have e := hK k hk
    simp only at e
    simp [spec_SetText.f, e, ho, setText]
/-- The parts, each a text. -/
def partB (x : S88) : ByteArray := ((x.f0 ++ (⟨#[61, 34]⟩ : ByteArray)) ++ x.f1) ++ (⟨#[34]⟩ : ByteArray)
theorem partB_l (x : S88) : (partB x).data.toList = labL x := by simp [partB, labL, ba_app]
theorem tail_join : ∀ l : List S88, Lib.joinTail [44, 32] ((l.map partB).map (·.data.toList)) = setTail false l
  | [] => rfl
  | x :: r => by
    have ih := tail_join r
    unfold Lib.joinTail at ih ⊢
    simp only [List.map_cons, List.flatten_cons, setTail, ih, partB_l]
    simp
theorem all_join (l : List S88) : Lib.join ((l.map partB).map (·.data.toList)) [44, 32] = setTail true l := by
  cases l with
  | nil => rfl
  | cons x r =>
    have := tail_join r
    simp only [List.map_cons, Lib.join_cons, setTail, this, partB_l]
    simp
theorem setTail_len : ∀ (b : Bool) (l : List S88), (∀ y ∈ l, WiLabel y) → (setTail b l).length ≤ l.length * 10000000
  | _, [], _ => by simp [setTail]
  | b, x :: r, h => by
    have ih := setTail_len false r (fun y hy => h y (List.mem_cons_of_mem _ hy))
    have h0 := h x List.mem_cons_self
    have h1 := h0.1
    have h2 := h0.2
    have e1 : x.f0.data.toList.length = x.f0.size := rfl
    have e2 : x.f1.data.toList.length = x.f1.size := rfl
    cases b
    · simp only [setTail, labL, List.length_append, List.length_cons, List.length_nil, e1, e2, Bool.false_eq_true, if_false]; omega
    · simp only [setTail, labL, List.length_append, List.length_cons, List.length_nil, e1, e2, if_true]; omega
theorem implText_go (l : List S88) (hl : l.length ≤ 4) (hw : ∀ y ∈ l, WiLabel y) : ∀ (suf pre : List S88), pre ++ suf = l →
    Ev (fun k => impl_SetText.l0 k (pre.map partB) l (l.length : Int) (pre.length : Int)) ⟨([123] ++ setTail true l ++ [125]).toArray⟩
  | [], pre, h => by
    refine ⟨1, fun k hk => ?_⟩
    obtain ⟨m, rfl⟩ : ∃ m, k = m + 1 := ⟨k - 1, by omega⟩
    rw [List.append_nil] at h
    subst h
    have hj := all_join pre
    have ht := setTail_len true pre hw
    have hs : strings_Join.f (pre.map partB) (⟨#[44, 32]⟩ : ByteArray) = some ⟨(setTail true pre).toArray⟩ := by
      unfold strings_Join.f
      rw [show (⟨#[44, 32]⟩ : ByteArray).data.toList = [44, 32] from rfl, hj, List.length_map, if_pos ⟨by omega, by omega⟩]
    have hz : (⟨(setTail true pre).toArray⟩ : ByteArray).size = (setTail true pre).length := by simp [ByteArray.size]
    simp only [impl_SetText.l0]
    rw [if_neg (by omega), hs, Option.bind_some, if_pos (by rw [hz]; omega), if_pos (by rw [ba_szapp, hz, sz1a]; omega)]
    refine congrArg some (ba_ext ?_)
    simp [ba_app]
  | y :: suf, pre, h => by
    obtain ⟨K, hK⟩ := implText_go l hl hw suf (pre ++ [y]) (by rw [← h]; simp)
    have hy := hw y (by rw [← h]; simp)
    have hy0 := hy.1
    have hy1 := hy.2
    have hlen : pre.length < l.length := by rw [← h]; simp
    refine ⟨K + 1, fun k hk => ?_⟩
    obtain ⟨m, rfl⟩ : ∃ m, k = m + 1 := ⟨k - 1, by omega⟩
    have e := hK m (by omega)
    simp only [List.map_append, List.map_cons, List.map_nil, List.length_append, List.length_singleton] at e
    have hr : rd_T88 l (pre.length : Int) = y := by rw [← h]; exact rdmidLabeli pre suf y
    simp only [impl_SetText.l0, hr]
    rw [if_pos (by omega), if_pos (by omega), if_pos (by omega), if_pos (by omega), if_pos (by simp only [ba_szapp, sz2']; omega), if_pos (by simp only [ba_szapp, sz2']; omega), if_pos (by rw [List.length_map]; omega), wrap_up pre.length (by omega)]
    exact e
theorem implSetText_ev (l : List S88) (h : l.length ≤ 4000000 ∧ ∀ y ∈ l, WiLabel y) : Ev (fun k => impl_SetText.f k l) (setText l) := by
  obtain ⟨K, hK⟩ := implSetOk_ev l h
  by_cases ho : setOk l = true
  · have hl := setOk_len l ho
    obtain ⟨K', hK'⟩ := implText_go l hl h.2 l [] rfl
    refine ⟨K + K', fun k hk => ?_⟩
    have e := hK k (by omega)
    have e' := hK' k (by omega)
    simp only at e
    simp only [List.map_nil, List.length_nil] at e'
    simp only [impl_SetText.f, e, Option.bind_some, ho, if_true, setText]
    exact e'
  · refine ⟨K, fun k hk => ?_⟩
    have e := hK k hk
    simp only at e
    simp [impl_SetText.f, e, ho, setText]
theorem setText_sz (l : List S88) (h : l.length ≤ 4000000 ∧ ∀ y ∈ l, WiLabel y) : (setText l).size < 4611686018427387904 := by
  unfold setText
  split
  · have := setTail_len true l h.2
    have h1 := h.1
    rw [ba_len]
    simp only [List.length_append, List.length_singleton]
    omega
  · simp [ByteArray.size]
/-- A sum's step. -/
def sumStep (n b : Int) : Int := ((Go.bits .xor .u32 n b) * 16777619) % 4294967296
def sumGo (s : ByteArray) : Nat → Nat → Int → Int
  | 0, _, n => n
  | d + 1, i, n => sumGo s d (i + 1) (sumStep n (bt s (i : Int)))
theorem xor_nat (k : IntKind) (j : Nat) (hj : j ≤ k.bits) (hk : ∀ n : Int, 0 ≤ n → n < 2 ^ j → k.wrap n = n) (a b : Nat) (ha : a < 2 ^ j) (hb : b < 2 ^ j) :
    Go.bits .xor k a b = ((a ^^^ b : Nat) : Int) := by
  have hp : 2 ^ j ≤ 2 ^ k.bits := Nat.pow_le_pow_right (by decide) hj
  have ha' : a % 2 ^ k.bits = a := Nat.mod_eq_of_lt (Nat.lt_of_lt_of_le ha hp)
  have hb' : b % 2 ^ k.bits = b := Nat.mod_eq_of_lt (Nat.lt_of_lt_of_le hb hp)
  have cast : ∀ n : Nat, n < 2 ^ j → ((n : Nat) : Int) < 2 ^ j := fun n h => by exact_mod_cast h
  simp only [Go.bits, BitVec.ofInt_natCast, BitVec.toNat_xor, BitVec.toNat_ofNat, ha', hb']
  exact hk _ (Int.natCast_nonneg _) (cast _ (Nat.xor_lt_two_pow ha hb))
theorem xor_both (n b : Int) (h0 : 0 ≤ n) (h1 : n < 4294967296) (h2 : 0 ≤ b) (h3 : b ≤ 255) : ∃ X : Nat, X < 4294967296 ∧ Go.bits .xor .u32 n b = (X : Int) ∧ Go.bits .xor .i64 n b = (X : Int) := by
  obtain ⟨a, rfl⟩ := Int.eq_ofNat_of_zero_le h0
  obtain ⟨c, rfl⟩ := Int.eq_ofNat_of_zero_le h2
  have ha : a < 2 ^ 32 := by omega
  have hc : c < 2 ^ 32 := by omega
  refine ⟨a ^^^ c, Nat.xor_lt_two_pow ha hc, ?_, ?_⟩
  · exact xor_nat .u32 32 (by decide) (fun n h h' => by rw [IntKind.wrap_u32]; omega) a c ha hc
  · exact xor_nat .i64 32 (by decide) (fun n h h' => by rw [IntKind.wrap_i64]; omega) a c ha hc
theorem sumStep_range (n b : Int) : 0 ≤ sumStep n b ∧ sumStep n b < 4294967296 := by unfold sumStep; omega
theorem step_spec (n b : Int) (h0 : 0 ≤ n) (h1 : n < 4294967296) (h2 : 0 ≤ b) (h3 : b ≤ 255) :
    Go.bits .and .i64 (wrap64 ((Go.bits .xor .i64 n (wrap64 b)) * 16777619)) 4294967295 = sumStep n b := by
  obtain ⟨X, hX, e1, e2⟩ := xor_both n b h0 h1 h2 h3
  unfold sumStep
  rw [wrap_id (x := b) (by omega) (by omega), e1, e2, wrap_id (by omega) (by omega)]
  exact bits_mask .i64 62 (by decide) (fun n h h' => by rw [IntKind.wrap_i64]; omega) 32 (by decide) _ (by omega) (by omega)
theorem step_impl (n b : Int) (h2 : 0 ≤ b) (h3 : b ≤ 255) : ((Go.bits .xor .u32 n (b % 4294967296)) * 16777619) % 4294967296 = sumStep n b := by
  rw [Int.emod_eq_of_lt h2 (by omega)]; rfl
theorem implSum_go (s : ByteArray) (h : s.size < 4611686018427387904) : ∀ d i n, d + i = s.size → 0 ≤ n → n < 4294967296 → Ev (fun k => impl_Sum.l0 k s n (i : Int)) (sumGo s d i n)
  | 0, i, n, hd, h0, h1 => by
    refine ⟨1, fun k hk => ?_⟩
    obtain ⟨m, rfl⟩ : ∃ m, k = m + 1 := ⟨k - 1, by omega⟩
    simp only [impl_Sum.l0, sumGo]
    rw [if_neg (by omega), wrap_id (by omega) (by omega)]
  | d + 1, i, n, hd, h0, h1 => by
    have hr := sumStep_range n (bt s (i : Int))
    obtain ⟨K, hK⟩ := implSum_go s h d (i + 1) (sumStep n (bt s (i : Int))) (by omega) hr.1 hr.2
    refine ⟨K + 1, fun k hk => ?_⟩
    obtain ⟨m, rfl⟩ : ∃ m, k = m + 1 := ⟨k - 1, by omega⟩
    have e := hK m (by omega)
    have hb := bt_range s (i : Int)
    simp only [impl_Sum.l0, sumGo]
    rw [if_pos (by omega), if_pos (by omega), step_impl n _ hb.1 hb.2, wrap_up i (by omega)]
    exact e
theorem specSum_go (s : ByteArray) (h : s.size < 4611686018427387904) : ∀ d i n, d + i = s.size → 0 ≤ n → n < 4294967296 → Ev (fun k => spec_Sum.l0 k s n (i : Int)) (sumGo s d i n)
  | 0, i, n, hd, h0, h1 => by
    refine ⟨1, fun k hk => ?_⟩
    obtain ⟨m, rfl⟩ : ∃ m, k = m + 1 := ⟨k - 1, by omega⟩
    simp only [spec_Sum.l0, sumGo]
    rw [if_neg (by omega)]
  | d + 1, i, n, hd, h0, h1 => by
    have hr := sumStep_range n (bt s (i : Int))
    obtain ⟨K, hK⟩ := specSum_go s h d (i + 1) (sumStep n (bt s (i : Int))) (by omega) hr.1 hr.2
    refine ⟨K + 1, fun k hk => ?_⟩
    obtain ⟨m, rfl⟩ : ∃ m, k = m + 1 := ⟨k - 1, by omega⟩
    have e := hK m (by omega)
    have hb := bt_range s (i : Int)
    simp only [spec_Sum.l0, sumGo]
    rw [if_pos (by omega), if_pos (by omega), step_spec n _ h0 h1 hb.1 hb.2, wrap_up i (by omega)]
    exact e
def sumOf (s : ByteArray) : Int := sumGo s s.size 0 2166136261
def fingerOf (l : List S88) : Int := Int.tmod (Go.bits .xor .i64 (sumOf (setText l)) (sumOf (setText l) / 65536)) 32
theorem implFinger_ev (l : List S88) (h : l.length ≤ 4000000 ∧ ∀ y ∈ l, WiLabel y) : Ev (fun k => impl_Finger.f k l) (fingerOf l) := by
  obtain ⟨K, g⟩ := implSetText_ev l h
  obtain ⟨K', g'⟩ := implSum_go (setText l) (setText_sz l h) (setText l).size 0 2166136261 (by omega) (by omega) (by omega)
  refine ⟨K + K', fun k hk => ?_⟩
  have e := g k (by omega)
  have e' := g' k (by omega)
  simp only at e e'
  simp only [impl_Finger.f, impl_Sum.f, e, Option.bind_some, show ((0 : Nat) : Int) = 0 from rfl] at e' ⊢
  rw [e', Option.bind_some]; rfl
theorem specFinger_ev (l : List S88) (h : l.length ≤ 4000000 ∧ ∀ y ∈ l, WiLabel y) : Ev (fun k => spec_Finger.f k l) (fingerOf l) := by
  obtain ⟨K, g⟩ := specSetText_ev l h
  obtain ⟨K', g'⟩ := specSum_go (setText l) (setText_sz l h) (setText l).size 0 2166136261 (by omega) (by omega) (by omega)
  refine ⟨K + K', fun k hk => ?_⟩
  have e := g k (by omega)
  have e' := g' k (by omega)
  simp only at e e'
  simp only [spec_Finger.f, spec_Sum.f, e, Option.bind_some, show ((0 : Nat) : Int) = 0 from rfl] at e' ⊢
  rw [e', Option.bind_some]; rfl
def partOf (a n : Int) : Int := if n < 1 then 0 else if a < 0 then 0 else Int.tmod a n
theorem implPartOf_is (a n : Int) : impl_PartOf.f a n = some (partOf a n) := by
  unfold impl_PartOf.f partOf
  by_cases h : n < 1
  · simp [h]
  · by_cases h2 : a < 0
    · simp [h, h2]
    · simp only [if_neg h, if_neg h2]; rw [if_neg (by omega)]
theorem specPartOf_is (a n : Int) : spec_PartOf.f a n = some (partOf a n) := by
  unfold spec_PartOf.f partOf
  by_cases h : n < 1
  · simp [h]
  · by_cases h2 : a < 0
    · simp [h, h2]
    · simp only [if_neg h, if_neg h2]; rw [if_neg (by omega)]
theorem specL4Copy_ev (x : S43) (h : x.f0.length ≤ 5000000) : spec_l4Copy.f x.f0 x.f1 x.f2 x.f3 = some (x.f0, x.f1, x.f2, x.f3) := by
  simp only [spec_l4Copy.f, Option.bind_some, List.nil_append, List.length_nil]
  exact if_pos (by omega)
theorem implCopySet_ev (l : List S88) (h : l.length ≤ 5000000) : impl_copySet.f l = some l := by
  simp only [impl_copySet.f, List.nil_append, List.length_nil]
  exact if_pos (by omega)
theorem implCopyAlarm_ev (x : S43) (h : x.f0.length ≤ 5000000) : impl_copyAlarm.f x.f0 x.f1 x.f2 x.f3 = some (x.f0, x.f1, x.f2, x.f3) := by
  simp only [impl_copyAlarm.f, implCopySet_ev x.f0 h, Option.bind_some]
theorem rdnChainF (l : List S100) (i : Nat) : rd_T100 l (i : Int) = l.getD i z100 := by unfold rd_T100; simp
theorem place_lt {α : Type} (p : α → Bool) : ∀ (l : List α) (i : Nat), place p l i < (i : Int) + l.length ∨ place p l i = -1
  | [], i => .inr rfl
  | x :: l, i => by
    unfold place
    split
    · left; simp only [List.length_cons]; omega
    · rcases place_lt p l (i + 1) with h | h
      · left; simp only [List.length_cons]; omega
      · exact .inr h
def chainAt (l : List S100) (f : Int) : Int := place (fun c => decide (c.f0 = f)) l 0
theorem implChainOf_ev (p : S57) (f : Int) (h : p.f2.length ≤ 4000001) : Ev (fun k => impl_chainOf.f k p.f0 p.f1 p.f2 f) (chainAt p.f2 f) := by
  unfold impl_chainOf.f chainAt
  rw [← scan_place0 (fun c : S100 => decide (c.f0 = f)) z100 p.f2]
  refine scan_ev (F := fun k i => impl_chainOf.l0 k f p.f2 (p.f2.length : Int) i) (n := p.f2.length) (fun k => ?_) (fun i hi => ?_) p.f2.length 0 (by omega)
  · simp only [impl_chainOf.l0]; rw [if_neg (by omega)]
  · refine ⟨0, fun k _ => ?_⟩
    simp only [impl_chainOf.l0]
    rw [if_pos (by omega), if_pos (by omega), if_pos (by omega), rdnChainF, wrap_up i (by omega)]
    by_cases c : (p.f2.getD i z100).f0 = f
    · rw [if_pos c]; simp only [decide_eq_true c, if_true, goOn]
    · rw [if_neg c]; simp only [decide_eq_false c, Bool.false_eq_true, if_false, goOn]
theorem specL7At_ev (p : S57) (f : Int) (h : p.f2.length ≤ 4000001) : Ev (fun k => spec_l7At.f k p.f0 p.f1 p.f2 f) (chainAt p.f2 f) := by
  unfold spec_l7At.f chainAt
  rw [← scan_place0 (fun c : S100 => decide (c.f0 = f)) z100 p.f2]
  refine scan_ev (F := fun k i => spec_l7At.l0 k f i p.f0 p.f1 p.f2) (n := p.f2.length) (fun k => ?_) (fun i hi => ?_) p.f2.length 0 (by omega)
  · simp only [spec_l7At.l0]; rw [if_neg (by omega)]
  · refine ⟨0, fun k _ => ?_⟩
    simp only [spec_l7At.l0]
    rw [if_pos (by omega), if_pos (by omega), rdnChainF, wrap_up i (by omega)]
    by_cases c : (p.f2.getD i z100).f0 = f
    · rw [if_pos c]; simp only [decide_eq_true c, if_true, goOn]
    · rw [if_neg c]; simp only [decide_eq_false c, Bool.false_eq_true, if_false, goOn]
theorem implInChain_ev (c : S100) (s : List S88) (h : c.f1.length ≤ 4000000 ∧ ∀ y ∈ c.f1, WiAlarm y) : Ev (fun k => impl_InChain.f k c.f0 c.f1 s) (labelsAt c.f1 s) := by
  obtain ⟨K, g⟩ := implLabelsAt_ev c.f1 s h
  exact ⟨K, fun k hk => by simp only [impl_InChain.f, g k hk, Option.bind_some]⟩
theorem specInChain_ev (c : S100) (s : List S88) (h : c.f1.length ≤ 4000000 ∧ ∀ y ∈ c.f1, WiAlarm y) : Ev (fun k => spec_InChain.f k c.f0 c.f1 s) (labelsAt c.f1 s) := by
  have h1 := h.1
  unfold spec_InChain.f labelsAt
  rw [← scan_place0 (fun a : S43 => sameSet a.f0 s) z43 c.f1]
  refine scan_ev (F := fun k i => spec_InChain.l0 k s i c.f0 c.f1) (n := c.f1.length) (fun k => ?_) (fun i hi => ?_) c.f1.length 0 (by omega)
  · simp only [spec_InChain.l0]; rw [if_neg (by omega)]
  · have hw := (h.2 _ (getD_mem c.f1 i z43 hi)).1.1
    obtain ⟨K, g⟩ := specSameSet_ev (c.f1.getD i z43).f0 s (by omega)
    refine ⟨K, fun k hk => ?_⟩
    have e := g k hk
    simp only at e
    simp only [spec_InChain.l0]
    rw [if_pos (by omega), if_pos (by omega), rdnAlarm, e, Option.bind_some, wrap_up i (by omega)]
    cases sameSet (c.f1.getD i z43).f0 s <;> simp [goOn]
def findIn (p : S57) (s : List S88) : S43 × Bool :=
  let i := chainAt p.f2 (fingerOf s)
  if i < 0 then (z43, false) else
    let c := p.f2.getD i.toNat z100
    let k := labelsAt c.f1 s
    if k < 0 then (z43, false) else (c.f1.getD k.toNat z43, true)
theorem implFindIn_ev (p : S57) (s : List S88) (h : WiPart p) (hs : s.length ≤ 4000000 ∧ ∀ y ∈ s, WiLabel y) :
    Ev (fun k => impl_FindIn.f k p.f0 p.f1 p.f2 s) ((findIn p s).1.f0, (findIn p s).1.f1, (findIn p s).1.f2, (findIn p s).1.f3, (findIn p s).2) := by
  obtain ⟨K1, g1⟩ := implFinger_ev s hs
  obtain ⟨K2, g2⟩ := implChainOf_ev p (fingerOf s) (by have := h.2.2.1; omega)
  have hb := place_lt (fun c : S100 => decide (c.f0 = fingerOf s)) p.f2 0
  have hl := place_lo (fun c : S100 => decide (c.f0 = fingerOf s)) p.f2 0
  generalize hi : chainAt p.f2 (fingerOf s) = i at g2
  rw [show place (fun c : S100 => decide (c.f0 = fingerOf s)) p.f2 0 = i from hi] at hb hl
  by_cases c : i < 0
  · refine ⟨K1 + K2, fun k hk => ?_⟩
    have e1 := g1 k (by omega)
    have e2 := g2 k (by omega)
    simp only at e1 e2
    simp [impl_FindIn.f, e1, e2, c, findIn, hi, z43]
  · have hil : i.toNat < p.f2.length := by rcases hb with hb | hb <;> omega
    have hm := h.2.2.2 _ (getD_mem p.f2 i.toNat z100 hil)
    have hrd : rd_T100 p.f2 i = p.f2.getD i.toNat z100 := rfl
    generalize hc : p.f2.getD i.toNat z100 = ch at hm hrd
    obtain ⟨K3, g3⟩ := implInChain_ev ch s hm.2
    have hb2 := place_lt (fun a : S43 => sameSet a.f0 s) ch.f1 0
    have hl2 := place_lo (fun a : S43 => sameSet a.f0 s) ch.f1 0
    generalize hj : labelsAt ch.f1 s = j at g3
    rw [show place (fun a : S43 => sameSet a.f0 s) ch.f1 0 = j from hj] at hb2 hl2
    refine ⟨K1 + K2 + K3, fun k hk => ?_⟩
    have e1 := g1 k (by omega)
    have e2 := g2 k (by omega)
    have e3 := g3 k (by omega)
    simp only at e1 e2 e3
    by_cases c2 : j < 0
    · simp only [impl_FindIn.f, e1, e2, Option.bind_some, if_neg c, findIn, hi, hc]
      rw [if_pos (by omega), if_pos (by omega), hrd, e3, hj]
      simp only [Option.bind_some, if_pos c2]
      rfl
    · have hjl : j.toNat < ch.f1.length := by rcases hb2 with hb2 | hb2 <;> omega
      have hw := hm.2.2 _ (getD_mem ch.f1 j.toNat z43 hjl)
      have hrd2 : rd_T43 ch.f1 j = ch.f1.getD j.toNat z43 := rfl
      simp only [impl_FindIn.f, e1, e2, Option.bind_some, if_neg c, findIn, hi, hc]
      rw [if_pos (by omega), if_pos (by omega), hrd, e3, hj]
      simp only [Option.bind_some, if_neg c2]
      rw [if_pos (by omega), if_pos (by omega), hrd2, implCopyAlarm_ev _ (Nat.le_trans hw.1.1 (by decide))]
      rfl
theorem specFindIn_ev (p : S57) (s : List S88) (h : WiPart p) (hs : s.length ≤ 4000000 ∧ ∀ y ∈ s, WiLabel y) :
    Ev (fun k => spec_FindIn.f k p.f0 p.f1 p.f2 s) ((findIn p s).1.f0, (findIn p s).1.f1, (findIn p s).1.f2, (findIn p s).1.f3, (findIn p s).2) := by
  obtain ⟨K1, g1⟩ := specFinger_ev s hs
  obtain ⟨K2, g2⟩ := specL7At_ev p (fingerOf s) (by have := h.2.2.1; omega)
  have hb := place_lt (fun c : S100 => decide (c.f0 = fingerOf s)) p.f2 0
  have hl := place_lo (fun c : S100 => decide (c.f0 = fingerOf s)) p.f2 0
  generalize hi : chainAt p.f2 (fingerOf s) = i at g2
  rw [show place (fun c : S100 => decide (c.f0 = fingerOf s)) p.f2 0 = i from hi] at hb hl
  by_cases c : i < 0
  · refine ⟨K1 + K2, fun k hk => ?_⟩
    have e1 := g1 k (by omega)
    have e2 := g2 k (by omega)
    simp only at e1 e2
    simp [spec_FindIn.f, e1, e2, c, findIn, hi, z43]
  · have hil : i.toNat < p.f2.length := by rcases hb with hb | hb <;> omega
    have hm := h.2.2.2 _ (getD_mem p.f2 i.toNat z100 hil)
    have hrd : rd_T100 p.f2 i = p.f2.getD i.toNat z100 := rfl
    generalize hc : p.f2.getD i.toNat z100 = ch at hm hrd
    obtain ⟨K3, g3⟩ := specInChain_ev ch s hm.2
    have hb2 := place_lt (fun a : S43 => sameSet a.f0 s) ch.f1 0
    have hl2 := place_lo (fun a : S43 => sameSet a.f0 s) ch.f1 0
    generalize hj : labelsAt ch.f1 s = j at g3
    rw [show place (fun a : S43 => sameSet a.f0 s) ch.f1 0 = j from hj] at hb2 hl2
    refine ⟨K1 + K2 + K3, fun k hk => ?_⟩
    have e1 := g1 k (by omega)
    have e2 := g2 k (by omega)
    have e3 := g3 k (by omega)
    simp only at e1 e2 e3
    by_cases c2 : j < 0
    · simp only [spec_FindIn.f, e1, e2, Option.bind_some, if_neg c, findIn, hi, hc]
      rw [if_pos (by omega), if_pos (by omega), hrd, e3, hj]
      simp only [Option.bind_some, if_pos c2]
      rfl
    · have hjl : j.toNat < ch.f1.length := by rcases hb2 with hb2 | hb2 <;> omega
      have hw := hm.2.2 _ (getD_mem ch.f1 j.toNat z43 hjl)
      have hrd2 : rd_T43 ch.f1 j = ch.f1.getD j.toNat z43 := rfl
      simp only [spec_FindIn.f, e1, e2, Option.bind_some, if_neg c, findIn, hi, hc]
      rw [if_pos (by omega), if_pos (by omega), hrd, e3, hj]
      simp only [Option.bind_some, if_neg c2]
      rw [if_pos (by omega), if_pos (by omega), hrd2, specL4Copy_ev _ (Nat.le_trans hw.1.1 (by decide))]
      rfl
theorem Wi_zAlarm' : WiAlarm z43 := ⟨⟨by simp [z43], fun y hy => by simp [z43] at hy⟩, trivial, trivial, by show (⟨#[]⟩ : ByteArray).size ≤ 4000000; decide⟩
theorem findIn_wi {p : S57} {s : List S88} (h : WiPart p) : WiAlarm (findIn p s).1 := by
  unfold findIn
  simp only []
  split
  · exact Wi_zAlarm'
  · split
    · exact Wi_zAlarm'
    · rename_i c c2
      have hb := place_lt (fun c : S100 => decide (c.f0 = fingerOf s)) p.f2 0
      have hb2 := place_lt (fun a : S43 => sameSet a.f0 s) (p.f2.getD (chainAt p.f2 (fingerOf s)).toNat z100).f1 0
      have e1 : chainAt p.f2 (fingerOf s) = place (fun c : S100 => decide (c.f0 = fingerOf s)) p.f2 0 := rfl
      have e2 : labelsAt (p.f2.getD (chainAt p.f2 (fingerOf s)).toNat z100).f1 s = place (fun a : S43 => sameSet a.f0 s) (p.f2.getD (chainAt p.f2 (fingerOf s)).toNat z100).f1 0 := rfl
      have hil : (chainAt p.f2 (fingerOf s)).toNat < p.f2.length := by rcases hb with hb | hb <;> omega
      have hm := h.2.2.2 _ (getD_mem p.f2 (chainAt p.f2 (fingerOf s)).toNat z100 hil)
      exact hm.2.2 _ (getD_mem _ _ z43 (by rcases hb2 with hb2 | hb2 <;> omega))
def homeOf (l : List S57) (s : List S88) : Int := partOf (fingerOf s) (l.length : Int)
theorem implHomeOf_ev (l : List S57) (s : List S88) (h : s.length ≤ 4000000 ∧ ∀ y ∈ s, WiLabel y) : Ev (fun k => impl_HomeOf.f k l s) (homeOf l s) := by
  obtain ⟨K, g⟩ := implFinger_ev s h
  refine ⟨K, fun k hk => ?_⟩
  have e := g k hk
  simp only at e
  simp [impl_HomeOf.f, e, implPartOf_is, homeOf]
theorem specHomeOf_ev (l : List S57) (s : List S88) (h : s.length ≤ 4000000 ∧ ∀ y ∈ s, WiLabel y) : Ev (fun k => spec_HomeOf.f k l s) (homeOf l s) := by
  obtain ⟨K, g⟩ := specFinger_ev s h
  refine ⟨K, fun k hk => ?_⟩
  have e := g k hk
  simp only at e
  simp [spec_HomeOf.f, e, specPartOf_is, homeOf]
theorem partOf_range (a : Int) (n : Nat) (h : 0 < n) : 0 ≤ partOf a n ∧ partOf a n < n := by
  unfold partOf
  rw [if_neg (by omega)]
  split
  · omega
  · rw [Int.tmod_eq_emod_of_nonneg (by omega)]; exact ⟨Int.emod_nonneg _ (by omega), Int.emod_lt_of_pos _ (by omega)⟩
def findAlarm (l : List S57) (s : List S88) : S43 × Bool := if (l.length : Int) = 0 then (z43, false) else findIn (l.getD (homeOf l s).toNat z57) s
theorem implFindAlarm_ev (l : List S57) (s : List S88) (h : l.length ≤ 4000000 ∧ ∀ y ∈ l, WiPart y) (hs : s.length ≤ 4000000 ∧ ∀ y ∈ s, WiLabel y) :
    Ev (fun k => impl_FindAlarm.f k l s) ((findAlarm l s).1.f0, (findAlarm l s).1.f1, (findAlarm l s).1.f2, (findAlarm l s).1.f3, (findAlarm l s).2) := by
  by_cases c : (l.length : Int) = 0
  · exact ⟨0, fun k _ => by simp only [impl_FindAlarm.f, if_pos c, findAlarm]; rfl⟩
  · obtain ⟨K1, g1⟩ := implHomeOf_ev l s hs
    have hr := partOf_range (fingerOf s) l.length (by omega)
    have e : homeOf l s = partOf (fingerOf s) l.length := rfl
    have hm := h.2 _ (getD_mem l (homeOf l s).toNat z57 (by omega))
    obtain ⟨K2, g2⟩ := implFindIn_ev _ s hm hs
    refine ⟨K1 + K2, fun k hk => ?_⟩
    have e1 := g1 k (by omega)
    have e2 := g2 k (by omega)
    have hrd : rd_T57 l (homeOf l s) = l.getD (homeOf l s).toNat z57 := rfl
    simp only at e1 e2
    simp only [impl_FindAlarm.f, if_neg c, e1, Option.bind_some, findAlarm]
    rw [if_pos (by omega), if_pos (by omega), hrd, e2]
    rfl
theorem specFindAlarm_ev (l : List S57) (s : List S88) (h : l.length ≤ 4000000 ∧ ∀ y ∈ l, WiPart y) (hs : s.length ≤ 4000000 ∧ ∀ y ∈ s, WiLabel y) :
    Ev (fun k => spec_FindAlarm.f k l s) ((findAlarm l s).1.f0, (findAlarm l s).1.f1, (findAlarm l s).1.f2, (findAlarm l s).1.f3, (findAlarm l s).2) := by
  by_cases c : (l.length : Int) = 0
  · exact ⟨0, fun k _ => by simp only [spec_FindAlarm.f, if_pos c, findAlarm]; rfl⟩
  · obtain ⟨K1, g1⟩ := specHomeOf_ev l s hs
    have hr := partOf_range (fingerOf s) l.length (by omega)
    have e : homeOf l s = partOf (fingerOf s) l.length := rfl
    have hm := h.2 _ (getD_mem l (homeOf l s).toNat z57 (by omega))
    obtain ⟨K2, g2⟩ := specFindIn_ev _ s hm hs
    refine ⟨K1 + K2, fun k hk => ?_⟩
    have e1 := g1 k (by omega)
    have e2 := g2 k (by omega)
    have hrd : rd_T57 l (homeOf l s) = l.getD (homeOf l s).toNat z57 := rfl
    simp only at e1 e2
    simp only [spec_FindAlarm.f, if_neg c, e1, Option.bind_some, findAlarm]
    rw [if_pos (by omega), if_pos (by omega), hrd, e2]
    rfl
theorem findAlarm_wi {l : List S57} {s : List S88} (h : l.length ≤ 4000000 ∧ ∀ y ∈ l, WiPart y) : WiAlarm (findAlarm l s).1 := by
  unfold findAlarm
  split
  · exact Wi_zAlarm'
  · rename_i c
    have hr := partOf_range (fingerOf s) l.length (by omega)
    have e : homeOf l s = partOf (fingerOf s) l.length := rfl
    exact findIn_wi (h.2 _ (getD_mem l (homeOf l s).toNat z57 (by omega)))
def nnLabels : List S85 → Nat
  | [] => 0
  | _ :: ys => 1 + nnLabels ys
theorem nnLabels_le : ∀ l : List S85, l.length ≤ nnLabels l
  | [] => Nat.le_refl _
  | y :: ys => by have := nnLabels_le ys; simp only [nnLabels, List.length_cons]; omega
theorem szLabel_nn (x : S85) (hB : B85 x) (k : Nat) (n r : Int) (h : laws_szLabel.f x.f0 x.f1 n = some r) (hr : 0 ≤ r) (h0 : 0 ≤ n) (h1 : n ≤ 1048576) : r ≤ n ∧ ((0 : Nat) : Int) ≤ n - r := by
  unfold laws_szLabel.f at h
  have q1 : x.f0.size ≤ 9223372036854775807 := hB.1
  rw [show wrap64 (n - (x.f0.size : Int)) = n - (x.f0.size : Int) from wrap_id (by omega) (by omega)] at h
  by_cases c1 : n - (x.f0.size : Int) < 0
  · rw [if_pos c1] at h; injection h with h; omega
  rw [if_neg c1] at h
  have q2 : x.f1.size ≤ 9223372036854775807 := hB.2
  rw [show wrap64 ((n - (x.f0.size : Int)) - (x.f1.size : Int)) = (n - (x.f0.size : Int)) - (x.f1.size : Int) from wrap_id (by omega) (by omega)] at h
  by_cases c2 : (n - (x.f0.size : Int)) - (x.f1.size : Int) < 0
  · rw [if_pos c2] at h; injection h with h; omega
  rw [if_neg c2] at h
  injection h with h
  exact ⟨by omega, by omega⟩
theorem szLabelS_nn_l0 : ∀ (suf pre : List S85) (k : Nat) (n r : Int), (∀ y ∈ suf, B85 y) → (pre ++ suf).length < 4611686018427387904 → laws_szLabelS.l0 k (pre ++ suf) n (pre.length : Int) = some r → 0 ≤ r → 0 ≤ n → n ≤ 1048576 → r ≤ n ∧ (nnLabels suf : Int) ≤ n - r + suf.length
  | [], pre, k, n, r, hB, hl, h, hr, h0, h1 => by
    cases k with
    | zero => simp [laws_szLabelS.l0] at h
    | succ k =>
      simp only [laws_szLabelS.l0] at h
      rw [if_neg (not_lt_end pre)] at h
      injection h with h
      subst h
      exact ⟨Int.le_refl _, by simp [nnLabels]⟩
  | y :: suf, pre, k, n, r, hB, hl, h, hr, h0, h1 => by
    have hp : pre.length < 4611686018427387904 := by simp at hl; omega
    cases k with
    | zero => simp [laws_szLabelS.l0] at h
    | succ k =>
      simp only [laws_szLabelS.l0] at h
      rw [if_pos (lt_mid pre suf y), if_pos (nn _), rdmidLabell, wrap_up pre.length (by omega)] at h
      obtain ⟨t, e, h⟩ := Option.bind_eq_some_iff.mp h
      by_cases c : t < 0
      · rw [if_pos c] at h; injection h with h; omega
      rw [if_neg c, show pre ++ y :: suf = (pre ++ [y]) ++ suf by simp, show ((pre.length + 1 : Nat) : Int) = ((pre ++ [y]).length : Int) by simp] at h
      obtain ⟨l1, m1⟩ := szLabel_nn y (hB y List.mem_cons_self) k n t e (by omega) h0 h1
      obtain ⟨l2, m2⟩ := szLabelS_nn_l0 suf (pre ++ [y]) k t r (fun z hz => hB z (List.mem_cons_of_mem _ hz)) (by simpa using hl) h hr (by omega) (by omega)
      refine ⟨by omega, ?_⟩
      simp only [nnLabels, List.length_cons]
      push_cast at m1 ⊢
      omega
theorem szLabelS_nn (l : List S85) (hB : l.length ≤ maxLen ∧ ∀ y ∈ l, B85 y) (k : Nat) (n r : Int) (h : laws_szLabelS.f k l n = some r) (hr : 0 ≤ r) (h0 : 0 ≤ n) (h1 : n ≤ 1048576) : r ≤ n ∧ (nnLabels l : Int) ≤ n - r := by
  have q : l.length ≤ 9223372036854775807 := hB.1
  unfold laws_szLabelS.f at h
  rw [show wrap64 (n - (l.length : Int)) = n - (l.length : Int) from wrap_id (by omega) (by omega)] at h
  by_cases c : n - (l.length : Int) < 0
  · rw [if_pos c] at h; injection h with h; omega
  rw [if_neg c] at h
  obtain ⟨l1, m1⟩ := szLabelS_nn_l0 l [] k (n - (l.length : Int)) r hB.2 (by simp; omega) h hr (by omega) (by omega)
  exact ⟨by omega, by omega⟩
def nnAlarms : List S35 → Nat
  | [] => 0
  | y :: ys => 1 + nnLabels y.f0 + nnAlarms ys
theorem nnAlarms_le : ∀ l : List S35, l.length ≤ nnAlarms l
  | [] => Nat.le_refl _
  | y :: ys => by have := nnAlarms_le ys; simp only [nnAlarms, List.length_cons]; omega
theorem szAlarm_nn (x : S35) (hB : B35 x) (k : Nat) (n r : Int) (h : laws_szAlarm.f k x.f0 x.f1 x.f2 x.f3 n = some r) (hr : 0 ≤ r) (h0 : 0 ≤ n) (h1 : n ≤ 1048576) : r ≤ n ∧ ((nnLabels x.f0 : Nat) : Int) ≤ n - r := by
  unfold laws_szAlarm.f at h
  obtain ⟨t1, e1, h⟩ := Option.bind_eq_some_iff.mp h
  by_cases c1 : t1 < 0
  · rw [if_pos c1] at h; injection h with h; omega
  rw [if_neg c1] at h
  obtain ⟨l1, m1⟩ := szLabelS_nn x.f0 hB.1 k n t1 e1 (by omega) (by omega) (by omega)
  have q2 : x.f3.size ≤ 9223372036854775807 := hB.2.2.2
  rw [show wrap64 (t1 - (x.f3.size : Int)) = t1 - (x.f3.size : Int) from wrap_id (by omega) (by omega)] at h
  by_cases c2 : t1 - (x.f3.size : Int) < 0
  · rw [if_pos c2] at h; injection h with h; omega
  rw [if_neg c2] at h
  injection h with h
  exact ⟨by omega, by omega⟩
theorem szAlarmS_nn_l0 : ∀ (suf pre : List S35) (k : Nat) (n r : Int), (∀ y ∈ suf, B35 y) → (pre ++ suf).length < 4611686018427387904 → laws_szAlarmS.l0 k (pre ++ suf) n (pre.length : Int) = some r → 0 ≤ r → 0 ≤ n → n ≤ 1048576 → r ≤ n ∧ (nnAlarms suf : Int) ≤ n - r + suf.length
  | [], pre, k, n, r, hB, hl, h, hr, h0, h1 => by
    cases k with
    | zero => simp [laws_szAlarmS.l0] at h
    | succ k =>
      simp only [laws_szAlarmS.l0] at h
      rw [if_neg (not_lt_end pre)] at h
      injection h with h
      subst h
      exact ⟨Int.le_refl _, by simp [nnAlarms]⟩
  | y :: suf, pre, k, n, r, hB, hl, h, hr, h0, h1 => by
    have hp : pre.length < 4611686018427387904 := by simp at hl; omega
    cases k with
    | zero => simp [laws_szAlarmS.l0] at h
    | succ k =>
      simp only [laws_szAlarmS.l0] at h
      rw [if_pos (lt_mid pre suf y), if_pos (nn _), rdmidAlarml, wrap_up pre.length (by omega)] at h
      obtain ⟨t, e, h⟩ := Option.bind_eq_some_iff.mp h
      by_cases c : t < 0
      · rw [if_pos c] at h; injection h with h; omega
      rw [if_neg c, show pre ++ y :: suf = (pre ++ [y]) ++ suf by simp, show ((pre.length + 1 : Nat) : Int) = ((pre ++ [y]).length : Int) by simp] at h
      obtain ⟨l1, m1⟩ := szAlarm_nn y (hB y List.mem_cons_self) k n t e (by omega) h0 h1
      obtain ⟨l2, m2⟩ := szAlarmS_nn_l0 suf (pre ++ [y]) k t r (fun z hz => hB z (List.mem_cons_of_mem _ hz)) (by simpa using hl) h hr (by omega) (by omega)
      refine ⟨by omega, ?_⟩
      simp only [nnAlarms, List.length_cons]
      push_cast at m1 ⊢
      omega
theorem szAlarmS_nn (l : List S35) (hB : l.length ≤ maxLen ∧ ∀ y ∈ l, B35 y) (k : Nat) (n r : Int) (h : laws_szAlarmS.f k l n = some r) (hr : 0 ≤ r) (h0 : 0 ≤ n) (h1 : n ≤ 1048576) : r ≤ n ∧ (nnAlarms l : Int) ≤ n - r := by
  have q : l.length ≤ 9223372036854775807 := hB.1
  unfold laws_szAlarmS.f at h
  rw [show wrap64 (n - (l.length : Int)) = n - (l.length : Int) from wrap_id (by omega) (by omega)] at h
  by_cases c : n - (l.length : Int) < 0
  · rw [if_pos c] at h; injection h with h; omega
  rw [if_neg c] at h
  obtain ⟨l1, m1⟩ := szAlarmS_nn_l0 l [] k (n - (l.length : Int)) r hB.2 (by simp; omega) h hr (by omega) (by omega)
  exact ⟨by omega, by omega⟩
def nnChains : List S119 → Nat
  | [] => 0
  | y :: ys => 1 + nnAlarms y.f1 + nnChains ys
theorem nnChains_le : ∀ l : List S119, l.length ≤ nnChains l
  | [] => Nat.le_refl _
  | y :: ys => by have := nnChains_le ys; simp only [nnChains, List.length_cons]; omega
theorem szChain_nn (x : S119) (hB : B119 x) (k : Nat) (n r : Int) (h : laws_szChain.f k x.f0 x.f1 n = some r) (hr : 0 ≤ r) (h0 : 0 ≤ n) (h1 : n ≤ 1048576) : r ≤ n ∧ ((nnAlarms x.f1 : Nat) : Int) ≤ n - r := by
  unfold laws_szChain.f at h
  obtain ⟨t1, e1, h⟩ := Option.bind_eq_some_iff.mp h
  by_cases c1 : t1 < 0
  · rw [if_pos c1] at h; injection h with h; omega
  rw [if_neg c1] at h
  obtain ⟨l1, m1⟩ := szAlarmS_nn x.f1 hB.2 k n t1 e1 (by omega) (by omega) (by omega)
  injection h with h
  exact ⟨by omega, by omega⟩
theorem szChainS_nn_l0 : ∀ (suf pre : List S119) (k : Nat) (n r : Int), (∀ y ∈ suf, B119 y) → (pre ++ suf).length < 4611686018427387904 → laws_szChainS.l0 k (pre ++ suf) n (pre.length : Int) = some r → 0 ≤ r → 0 ≤ n → n ≤ 1048576 → r ≤ n ∧ (nnChains suf : Int) ≤ n - r + suf.length
  | [], pre, k, n, r, hB, hl, h, hr, h0, h1 => by
    cases k with
    | zero => simp [laws_szChainS.l0] at h
    | succ k =>
      simp only [laws_szChainS.l0] at h
      rw [if_neg (not_lt_end pre)] at h
      injection h with h
      subst h
      exact ⟨Int.le_refl _, by simp [nnChains]⟩
  | y :: suf, pre, k, n, r, hB, hl, h, hr, h0, h1 => by
    have hp : pre.length < 4611686018427387904 := by simp at hl; omega
    cases k with
    | zero => simp [laws_szChainS.l0] at h
    | succ k =>
      simp only [laws_szChainS.l0] at h
      rw [if_pos (lt_mid pre suf y), if_pos (nn _), rdmidChainl, wrap_up pre.length (by omega)] at h
      obtain ⟨t, e, h⟩ := Option.bind_eq_some_iff.mp h
      by_cases c : t < 0
      · rw [if_pos c] at h; injection h with h; omega
      rw [if_neg c, show pre ++ y :: suf = (pre ++ [y]) ++ suf by simp, show ((pre.length + 1 : Nat) : Int) = ((pre ++ [y]).length : Int) by simp] at h
      obtain ⟨l1, m1⟩ := szChain_nn y (hB y List.mem_cons_self) k n t e (by omega) h0 h1
      obtain ⟨l2, m2⟩ := szChainS_nn_l0 suf (pre ++ [y]) k t r (fun z hz => hB z (List.mem_cons_of_mem _ hz)) (by simpa using hl) h hr (by omega) (by omega)
      refine ⟨by omega, ?_⟩
      simp only [nnChains, List.length_cons]
      push_cast at m1 ⊢
      omega
theorem szChainS_nn (l : List S119) (hB : l.length ≤ maxLen ∧ ∀ y ∈ l, B119 y) (k : Nat) (n r : Int) (h : laws_szChainS.f k l n = some r) (hr : 0 ≤ r) (h0 : 0 ≤ n) (h1 : n ≤ 1048576) : r ≤ n ∧ (nnChains l : Int) ≤ n - r := by
  have q : l.length ≤ 9223372036854775807 := hB.1
  unfold laws_szChainS.f at h
  rw [show wrap64 (n - (l.length : Int)) = n - (l.length : Int) from wrap_id (by omega) (by omega)] at h
  by_cases c : n - (l.length : Int) < 0
  · rw [if_pos c] at h; injection h with h; omega
  rw [if_neg c] at h
  obtain ⟨l1, m1⟩ := szChainS_nn_l0 l [] k (n - (l.length : Int)) r hB.2 (by simp; omega) h hr (by omega) (by omega)
  exact ⟨by omega, by omega⟩
def nnParts : List S52 → Nat
  | [] => 0
  | y :: ys => 1 + nnChains y.f2 + nnParts ys
theorem nnParts_le : ∀ l : List S52, l.length ≤ nnParts l
  | [] => Nat.le_refl _
  | y :: ys => by have := nnParts_le ys; simp only [nnParts, List.length_cons]; omega
theorem szPart_nn (x : S52) (hB : B52 x) (k : Nat) (n r : Int) (h : laws_szPart.f k x.f0 x.f1 x.f2 n = some r) (hr : 0 ≤ r) (h0 : 0 ≤ n) (h1 : n ≤ 1048576) : r ≤ n ∧ ((nnChains x.f2 : Nat) : Int) ≤ n - r := by
  unfold laws_szPart.f at h
  obtain ⟨t1, e1, h⟩ := Option.bind_eq_some_iff.mp h
  by_cases c1 : t1 < 0
  · rw [if_pos c1] at h; injection h with h; omega
  rw [if_neg c1] at h
  obtain ⟨l1, m1⟩ := szChainS_nn x.f2 hB.2.2 k n t1 e1 (by omega) (by omega) (by omega)
  injection h with h
  exact ⟨by omega, by omega⟩
theorem szPartS_nn_l0 : ∀ (suf pre : List S52) (k : Nat) (n r : Int), (∀ y ∈ suf, B52 y) → (pre ++ suf).length < 4611686018427387904 → laws_szPartS.l0 k (pre ++ suf) n (pre.length : Int) = some r → 0 ≤ r → 0 ≤ n → n ≤ 1048576 → r ≤ n ∧ (nnParts suf : Int) ≤ n - r + suf.length
  | [], pre, k, n, r, hB, hl, h, hr, h0, h1 => by
    cases k with
    | zero => simp [laws_szPartS.l0] at h
    | succ k =>
      simp only [laws_szPartS.l0] at h
      rw [if_neg (not_lt_end pre)] at h
      injection h with h
      subst h
      exact ⟨Int.le_refl _, by simp [nnParts]⟩
  | y :: suf, pre, k, n, r, hB, hl, h, hr, h0, h1 => by
    have hp : pre.length < 4611686018427387904 := by simp at hl; omega
    cases k with
    | zero => simp [laws_szPartS.l0] at h
    | succ k =>
      simp only [laws_szPartS.l0] at h
      rw [if_pos (lt_mid pre suf y), if_pos (nn _), rdmidPartl, wrap_up pre.length (by omega)] at h
      obtain ⟨t, e, h⟩ := Option.bind_eq_some_iff.mp h
      by_cases c : t < 0
      · rw [if_pos c] at h; injection h with h; omega
      rw [if_neg c, show pre ++ y :: suf = (pre ++ [y]) ++ suf by simp, show ((pre.length + 1 : Nat) : Int) = ((pre ++ [y]).length : Int) by simp] at h
      obtain ⟨l1, m1⟩ := szPart_nn y (hB y List.mem_cons_self) k n t e (by omega) h0 h1
      obtain ⟨l2, m2⟩ := szPartS_nn_l0 suf (pre ++ [y]) k t r (fun z hz => hB z (List.mem_cons_of_mem _ hz)) (by simpa using hl) h hr (by omega) (by omega)
      refine ⟨by omega, ?_⟩
      simp only [nnParts, List.length_cons]
      push_cast at m1 ⊢
      omega
theorem szPartS_nn (l : List S52) (hB : l.length ≤ maxLen ∧ ∀ y ∈ l, B52 y) (k : Nat) (n r : Int) (h : laws_szPartS.f k l n = some r) (hr : 0 ≤ r) (h0 : 0 ≤ n) (h1 : n ≤ 1048576) : r ≤ n ∧ (nnParts l : Int) ≤ n - r := by
  have q : l.length ≤ 9223372036854775807 := hB.1
  unfold laws_szPartS.f at h
  rw [show wrap64 (n - (l.length : Int)) = n - (l.length : Int) from wrap_id (by omega) (by omega)] at h
  by_cases c : n - (l.length : Int) < 0
  · rw [if_pos c] at h; injection h with h; omega
  rw [if_neg c] at h
  obtain ⟨l1, m1⟩ := szPartS_nn_l0 l [] k (n - (l.length : Int)) r hB.2 (by simp; omega) h hr (by omega) (by omega)
  exact ⟨by omega, by omega⟩
end Go.Proofs.Yticgekgojgkbgaa.Print
end
section
namespace Go.Proofs.Yticgekgojgkbgaa.Print
open Go.RowKit Go.Proofs.YticgekgojgkbgaaV.PrintWords Go.Proofs.YticgekgojgkbgaaV.PrintLast Go.Proofs.YticgekgojgkbgaaV.PrintMore
attribute [local go_sem] max2_int min2_int max_two min_two max_three min_three max_four min_four
set_option linter.unusedVariables false
set_option linter.unusedSimpArgs false
set_option maxHeartbeats 8000000
set_option maxRecDepth 100000
def laws_heldChainS.l0 : Nat → List (S100) → Int → Int → Option (Int)
 | 0, _, _, _ => none
 | k + 1, x0, x1, x5 => if x5 < (x0.length : Int) then (if 0 ≤ x5 then (if ((rd_T100 x0 x5).f0) = x1 then ((laws_heldAlarmS.f k ((rd_T100 x0 x5).f1) (wrap64 (x1 + 1))).bind fun t1021 => (if t1021 < 0 then (none) else (laws_heldChainS.l0 k x0 t1021 (wrap64 (x5 + 1))))) else (none)) else (none)) else (some x1)
def laws_heldChainS.f (k : Nat) (l0 : List (S100)) (a1 : Int) : Option (Int) := laws_heldChainS.l0 k l0 a1 0
theorem laws_heldChainS.mono_l : ∀ k, (∀ y0 y1 y2, LeO (laws_heldChainS.l0 k y0 y1 y2) (laws_heldChainS.l0 (k + 1) y0 y1 y2))
 | 0 => fun _ _ _ r h => by simp [laws_heldChainS.l0] at h
 | k + 1 => by
  have ih0 := laws_heldChainS.mono_l k
  intro y0 y1 y2
  unfold laws_heldChainS.l0
  repeat' first
  | (with_reducible exact ih0 _ _ _)
  | (with_reducible exact laws_heldAlarmS.mono _ _ _)
  | (with_reducible exact LeO.refl _)
  | (with_reducible exact LeO.none _)
  | (with_reducible refine LeO.ite ?_ ?_)
  | (with_reducible refine LeO.bind ?_ (fun _ => ?_))
  | exact ih0 _ _ _
  | exact laws_heldAlarmS.mono _ _ _
theorem laws_heldChainS.mono : ∀ a0 a1 k, LeO (laws_heldChainS.f k a0 a1) (laws_heldChainS.f (k + 1) a0 a1) := by
 intro a0 a1 k
 have ih0 := laws_heldChainS.mono_l k
 unfold laws_heldChainS.f
 repeat' first
   | (with_reducible exact ih0 _ _ _)
   | (with_reducible exact laws_heldAlarmS.mono _ _ _)
   | (with_reducible exact LeO.refl _)
   | (with_reducible exact LeO.none _)
   | (with_reducible refine LeO.ite ?_ ?_)
   | (with_reducible refine LeO.bind ?_ (fun _ => ?_))
   | exact ih0 _ _ _
   | exact laws_heldAlarmS.mono _ _ _
theorem laws_heldChainS.calls (k : Nat) (A0 : Option Addr) (c0 : Nat) (l0 : List (S100)) (a1 : Int) (r : Int) (w : World) (hr0 : Kd.C k100 w A0 l0.length l0) (hc0 : l0.length ≤ c0) (h : laws_heldChainS.f k l0 a1 = some r) :
  Calls Try.prog 88 #[.slice A0 l0.length c0, .int .i64 a1] w fun e w' => e = .returned (.int .i64 r) ∧ Below w.heap.size w w' := by
 have HR0 := Aside0.mk hr0
 have HC0 := Aside0.mk hc0
 clear hr0 hc0
 have HB := Aside0.mk (Below.refl w.heap.size w)
 have H : (laws_heldChainS.l0 k l0 a1 0) = some r := h
 clear h
 have H' := Aside0.mk H
 clear H
 go_enter Try.func88, Try.ntmps88
 go_wp2
 go_loopg [1, 5] k (fun kq v1 v5 w' => ∃ (x1_1 : Int) (x5_1 : Int), v1 = .int .i64 x1_1 ∧ v5 = .int .i64 x5_1 ∧ Aside0 (laws_heldChainS.l0 kq l0 x1_1 x5_1 = some r) ∧ Aside0 (kq ≤ k) ∧ Aside0 (Below w.heap.size w w'))
 case atStart => exact ⟨(a1), (0), (by first | rfl | (simp; done) | (simp [*]; done)), (by first | rfl | (simp; done) | (simp [*]; done)), H', ⟨Nat.le_refl _⟩, ⟨by repeat (first | (with_reducible first | exact HB.out | apply ba_ | apply bn_ | apply bd_) | exact HB.out)⟩⟩
 case round =>
  clear H'
  try clear p2
  obtain ⟨x1_1, x5_1, rfl, rfl, HA, HK1, HB⟩ := hrel
  cases gk with
  | zero => exact absurd HA.out (by simp [laws_heldChainS.l0])
  | succ k1 =>
   have H := HA.out
   clear HA
   simp only [laws_heldChainS.l0] at H
   by_cases c3 : x5_1 < (l0.length : Int)
   ·
    rw [if_pos c3] at H
    have c3b0 := decide_eq_true c3
    clear c3
    by_cases c4 : 0 ≤ x5_1
    ·
     rw [if_pos c4] at H
     have c4b0 := decide_eq_true c4
     clear c4
     by_cases c5 : ((rd_T100 l0 x5_1).f0) = x1_1
     ·
      rw [if_pos c5] at H
      have c5b0 : (((rd_T100 l0 x5_1).f0) == x1_1) = true := beq_iff_eq.mpr c5
      have c5b1 : (((rd_T100 l0 x5_1).f0) != x1_1) = false := bne_eq_false_iff_eq.mpr c5
      clear c5
      replace H := Option.bind_eq_some_iff.mp H
      obtain ⟨t1021, A60, H⟩ := H
      have A6 := Aside0.mk A60
      clear A60
      by_cases c7 : t1021 < 0
      ·
       rw [if_pos c7] at H
       exact absurd H (by simp)
      rw [if_neg c7] at H
      have c7b0 : decide (t1021 < 0) = false := decide_eq_false c7
      clear c7
      have H' := Aside0.mk H
      clear H
      have p1019 : 0 ≤ (x5_1 : Int) := of_decide_eq_true (by with_reducible assumption)
      have q1019 : x5_1 < (l0.length : Int) := of_decide_eq_true (by with_reducible assumption)
      obtain ⟨ad1019, A1019_1, c1019_1, e1019, hx1019_0, hx1019_1, hl1019_1, hi1019_1⟩ := at_T100 HR0.out x5_1 p1019 q1019
      cases e1019
      replace hx1019_0 := cl_ HB.out hx1019_0
      replace hx1019_1 := cl_ HB.out hx1019_1
      have HR1019_1 := Aside0.mk hi1019_1
      have HC1019_1 := Aside0.mk hl1019_1
      clear hi1019_1 hl1019_1
      replace p1019 := eq_true p1019
      replace q1019 := eq_true q1019
      have p1020 : 0 ≤ (x5_1 : Int) := of_decide_eq_true (by with_reducible assumption)
      have q1020 : x5_1 < (l0.length : Int) := of_decide_eq_true (by with_reducible assumption)
      obtain ⟨ad1020, A1020_1, c1020_1, e1020, hx1020_0, hx1020_1, hl1020_1, hi1020_1⟩ := at_T100 HR0.out x5_1 p1020 q1020
      obtain rfl : ad1019 = ad1020 := (by injection e1020)
      replace hx1020_0 := cl_ HB.out hx1020_0
      replace hx1020_1 := cl_ HB.out hx1020_1
      have HR1020_1 := Aside0.mk hi1020_1
      have HC1020_1 := Aside0.mk hl1020_1
      clear hi1020_1 hl1020_1
      replace p1020 := eq_true p1020
      replace q1020 := eq_true q1020
      have ea_ := Option.some.inj (hx1019_1.symm.trans hx1020_1)
      injection ea_ with ea_ en_ ec_
      subst ea_
      subst ec_
      clear en_
      go_wp2_with (first | ((with_reducible refine gate_callee (f := 54) rfl ?_); refine goesL_ (some 27) rfl rfl Try.func54 (by kernel_rfl) rfl #[.slice A1019_1 ((rd_T100 l0 x5_1).f1).length c1019_1, .int .i64 (wrap64 (x1_1 + 1))] rfl (by (try simp only [mp_]); first | done | rfl | (simp only [List.length_drop, List.length_take]; rfl)) ?_; (with_reducible refine (laws_heldAlarmS.calls k1 _ _ ((rd_T100 l0 x5_1).f1) (wrap64 (x1_1 + 1)) t1021 _ ?side1 ?side2 A6.out).mono ?_); (case side1 => repeat (first | exact (Kd.C_below HR1020_1.out HB.out) | (with_reducible first | refine ca_ ?_ _ | refine cn_ ?_ _ | refine cd_ ?_))); (case side2 => exact HC1020_1.out); rintro e w8 ⟨rfl, hb⟩; refine ⟨_, rfl, ?_⟩; have n0_ := Aside0.mk (below_step (by repeat (first | (with_reducible first | exact HB.out | apply ba_ | apply bn_ | apply bd_) | exact HB.out)) hb); clear HB; have HB := n0_; clear n0_; (try clear hb); (try clear hb2); (try clear hk); (try clear hi)))
      go_roundg k1
      case measure => have := HK1.out; omega
      case rel => exact ⟨(t1021), (wrap64 (x5_1 + 1)), (by first | rfl | (simp; done) | (simp [*]; done)), (by first | rfl | (simp; done) | (simp [*]; done)), H', ⟨by have := HK1.out; omega⟩, ⟨by repeat (first | (with_reducible first | exact HB.out | apply ba_ | apply bn_ | apply bd_) | exact HB.out)⟩⟩
     rw [if_neg c5] at H
     exact absurd H (by simp)
    rw [if_neg c4] at H
    exact absurd H (by simp)
   rw [if_neg c3] at H
   have c3b0 : decide (x5_1 < (l0.length : Int)) = false := decide_eq_false c3
   clear c3
   obtain rfl := Option.some.inj H
   go_wp2
   go_ret
   exact ⟨by first | rfl | (simp [errW_none, errW_some] <;> rfl) | (simp [*, errW_none, errW_some] <;> rfl), by repeat (first | (with_reducible first | exact HB.out | apply ba_ | apply bn_ | apply bd_) | exact HB.out)⟩
end Go.Proofs.Yticgekgojgkbgaa.Print
end
