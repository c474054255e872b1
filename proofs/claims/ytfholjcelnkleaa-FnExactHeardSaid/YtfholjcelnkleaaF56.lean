-- Written by printx.py, a program of this session (wip/gen), over the kit's print.py.
import Derived.Test.YtfholjcelnkleaaF0
import Derived.Test.YtfholjcelnkleaaQMark
import Derived.Test.YtfholjcelnkleaaF5
import Derived.Test.YtfholjcelnkleaaF14
import Derived.Test.YtfholjcelnkleaaF23
import Derived.Test.YtfholjcelnkleaaF29
import Derived.Test.YtfholjcelnkleaaF34
import Derived.Test.YtfholjcelnkleaaF40
import Derived.Test.YtfholjcelnkleaaF43
import Derived.Test.YtfholjcelnkleaaF44
import Derived.Test.YtfholjcelnkleaaF47
import Derived.Test.YtfholjcelnkleaaF54
import Derived.Test.YtfholjcelnkleaaF55
namespace Go.Proofs.Ytfholjcelnkleaa.Print
open Go.RowKit Go.Proofs.YtfholjcelnkleaaV.PrintWords Go.Proofs.YtfholjcelnkleaaV.PrintLast Go.Proofs.YtfholjcelnkleaaV.PrintMore
attribute [local go_sem] max2_int min2_int max_two min_two max_three min_three max_four min_four   -- for this text's walks alone
set_option linter.unusedVariables false
set_option linter.unusedSimpArgs false

/-! ### laws_FnExactHeard: function 6 -/
def laws_FnExactHeard.f (k : Nat) (l0 : List (S34)) (l1_0 : List (S34)) (a1_1 : Bool) : Option (Bool) := (laws_szAlarmS.f k l0 1048576).bind fun t556 => (if t556 < 0 then (some true) else ((laws_szSub.f k l1_0 a1_1 t556).bind fun t557 => (if t557 < 0 then (some true) else ((laws_toAlarmS.f k l0).bind fun t558 => ((laws_toSub.f k l1_0 a1_1).bind fun bt561 => ((spec_Heard.f k t558 bt561.1 bt561.2).bind fun t565 => ((laws_toAlarmS.f k l0).bind fun t568 => ((laws_toSub.f k l1_0 a1_1).bind fun bt571 => ((impl_Heard.f k t568 bt571.1 bt571.2).bind fun t576 => ((laws_eqAlarmS.f k t576 t565).bind fun t579 => (if t579 = true then ((laws_toAlarmS.f k l0).bind fun t580 => ((laws_eqAlarmS.f k t568 t580).bind fun t583 => (if t583 = true then ((laws_toSub.f k l1_0 a1_1).bind fun bt584 => ((laws_eqSub.f k bt571.1 bt571.2 bt584.1 bt584.2).bind fun t588 => (if t588 = true then ((laws_markAlarmS.f k t568 1).bind fun bt589 => ((laws_markSub.f k bt571.1 bt571.2 bt589.1).bind fun bt591 => (if bt591.1 < 0 then (none) else ((laws_eqAlarmS.f k t576 t565).bind fun t593 => (if t593 = true then ((laws_markAlarmS.f k t576 1).bind fun bt594 => ((laws_heldAlarmS.f k bt594.2 1).bind fun t596 => (if t596 < 0 then (none) else (if t596 = bt594.1 then ((laws_toAlarmS.f k l0).bind fun t597 => ((laws_toSub.f k l1_0 a1_1).bind fun bt600 => ((impl_Heard.f k t597 bt600.1 bt600.2).bind fun t604 => ((laws_eqAlarmS.f k t604 t565).bind fun t607 => (if t607 = true then ((laws_heldAlarmS.f k bt594.2 1).bind fun t608 => (if t608 < 0 then (none) else (if t608 = bt594.1 then (some true) else (none)))) else (none)))))) else (none))))) else (none)))))) else (none)))) else (none)))) else (none))))))))))))
theorem laws_FnExactHeard.mono : ∀ a0 a1 a2 k, LeO (laws_FnExactHeard.f k a0 a1 a2) (laws_FnExactHeard.f (k + 1) a0 a1 a2) := by
 intro a0 a1 a2 k
 unfold laws_FnExactHeard.f
 repeat' first
   | (with_reducible exact impl_Heard.mono _ _ _ _)
   | (with_reducible exact laws_eqAlarmS.mono _ _ _)
   | (with_reducible exact laws_eqSub.mono _ _ _ _ _)
   | (with_reducible exact laws_heldAlarmS.mono _ _ _)
   | (with_reducible exact laws_markAlarmS.mono _ _ _)
   | (with_reducible exact laws_markSub.mono _ _ _ _)
   | (with_reducible exact laws_szAlarmS.mono _ _ _)
   | (with_reducible exact laws_szSub.mono _ _ _ _)
   | (with_reducible exact laws_toAlarmS.mono _ _)
   | (with_reducible exact laws_toSub.mono _ _ _)
   | (with_reducible exact spec_Heard.mono _ _ _ _)
   | (with_reducible exact LeO.refl _)
   | (with_reducible exact LeO.none _)
   | (with_reducible refine LeO.ite ?_ ?_)
   | (with_reducible refine LeO.bind ?_ (fun _ => ?_))
   | exact impl_Heard.mono _ _ _ _
   | exact laws_eqAlarmS.mono _ _ _
   | exact laws_eqSub.mono _ _ _ _ _
   | exact laws_heldAlarmS.mono _ _ _
   | exact laws_markAlarmS.mono _ _ _
   | exact laws_markSub.mono _ _ _ _
   | exact laws_szAlarmS.mono _ _ _
   | exact laws_szSub.mono _ _ _ _
   | exact laws_toAlarmS.mono _ _
   | exact laws_toSub.mono _ _ _
   | exact spec_Heard.mono _ _ _ _
   | exact LeO.none _
   | refine LeO.ite ?_ ?_
   | refine LeO.bind ?_ (fun _ => ?_)
set_option maxHeartbeats 8000000 in
set_option maxRecDepth 100000 in
theorem laws_FnExactHeard.calls (k : Nat) (A0 : Option Addr) (c0 : Nat) (l0 : List (S34)) (A1_0 : Option Addr) (c1_0 : Nat) (l1_0 : List (S34)) (a1_1 : Bool) (r : Bool) (w : World) (hr0 : Kd.C k34 w A0 l0.length l0) (hc0 : l0.length ≤ c0) (hr1_0 : Kd.C k34 w A1_0 l1_0.length l1_0) (hc1_0 : l1_0.length ≤ c1_0) (h : laws_FnExactHeard.f k l0 l1_0 a1_1 = some r) :
  Calls Try.prog 6 #[.slice A0 l0.length c0, .agg #[.slice A1_0 l1_0.length c1_0, .bool a1_1]] w fun e w' => e = .returned (.bool r) ∧ Below w.heap.size w w' := by
 have hu31 := Try.underlying31
 have hu39 := Try.underlying39
 have HR0 := Aside0.mk hr0
 have HC0 := Aside0.mk hc0
 clear hr0 hc0
 have HR1_0 := Aside0.mk hr1_0
 have HC1_0 := Aside0.mk hc1_0
 clear hr1_0 hc1_0
 have HB := Aside0.mk (Below.refl w.heap.size w)
 have H : ((laws_szAlarmS.f k l0 1048576).bind fun t556 => (if t556 < 0 then (some true) else ((laws_szSub.f k l1_0 a1_1 t556).bind fun t557 => (if t557 < 0 then (some true) else ((laws_toAlarmS.f k l0).bind fun t558 => ((laws_toSub.f k l1_0 a1_1).bind fun bt561 => ((spec_Heard.f k t558 bt561.1 bt561.2).bind fun t565 => ((laws_toAlarmS.f k l0).bind fun t568 => ((laws_toSub.f k l1_0 a1_1).bind fun bt571 => ((impl_Heard.f k t568 bt571.1 bt571.2).bind fun t576 => ((laws_eqAlarmS.f k t576 t565).bind fun t579 => (if t579 = true then ((laws_toAlarmS.f k l0).bind fun t580 => ((laws_eqAlarmS.f k t568 t580).bind fun t583 => (if t583 = true then ((laws_toSub.f k l1_0 a1_1).bind fun bt584 => ((laws_eqSub.f k bt571.1 bt571.2 bt584.1 bt584.2).bind fun t588 => (if t588 = true then ((laws_markAlarmS.f k t568 1).bind fun bt589 => ((laws_markSub.f k bt571.1 bt571.2 bt589.1).bind fun bt591 => (if bt591.1 < 0 then (none) else ((laws_eqAlarmS.f k t576 t565).bind fun t593 => (if t593 = true then ((laws_markAlarmS.f k t576 1).bind fun bt594 => ((laws_heldAlarmS.f k bt594.2 1).bind fun t596 => (if t596 < 0 then (none) else (if t596 = bt594.1 then ((laws_toAlarmS.f k l0).bind fun t597 => ((laws_toSub.f k l1_0 a1_1).bind fun bt600 => ((impl_Heard.f k t597 bt600.1 bt600.2).bind fun t604 => ((laws_eqAlarmS.f k t604 t565).bind fun t607 => (if t607 = true then ((laws_heldAlarmS.f k bt594.2 1).bind fun t608 => (if t608 < 0 then (none) else (if t608 = bt594.1 then (some true) else (none)))) else (none)))))) else (none))))) else (none)))))) else (none)))) else (none)))) else (none))))))))))))) = some r := h
 clear h
 replace H := Option.bind_eq_some_iff.mp H
 obtain ⟨t556, A30, H⟩ := H
 replace H : (if t556 < 0 then (some true) else ((laws_szSub.f k l1_0 a1_1 t556).bind fun t557 => (if t557 < 0 then (some true) else ((laws_toAlarmS.f k l0).bind fun t558 => ((laws_toSub.f k l1_0 a1_1).bind fun bt561 => ((spec_Heard.f k t558 bt561.1 bt561.2).bind fun t565 => ((laws_toAlarmS.f k l0).bind fun t568 => ((laws_toSub.f k l1_0 a1_1).bind fun bt571 => ((impl_Heard.f k t568 bt571.1 bt571.2).bind fun t576 => ((laws_eqAlarmS.f k t576 t565).bind fun t579 => (if t579 = true then ((laws_toAlarmS.f k l0).bind fun t580 => ((laws_eqAlarmS.f k t568 t580).bind fun t583 => (if t583 = true then ((laws_toSub.f k l1_0 a1_1).bind fun bt584 => ((laws_eqSub.f k bt571.1 bt571.2 bt584.1 bt584.2).bind fun t588 => (if t588 = true then ((laws_markAlarmS.f k t568 1).bind fun bt589 => ((laws_markSub.f k bt571.1 bt571.2 bt589.1).bind fun bt591 => (if bt591.1 < 0 then (none) else ((laws_eqAlarmS.f k t576 t565).bind fun t593 => (if t593 = true then ((laws_markAlarmS.f k t576 1).bind fun bt594 => ((laws_heldAlarmS.f k bt594.2 1).bind fun t596 => (if t596 < 0 then (none) else (if t596 = bt594.1 then ((laws_toAlarmS.f k l0).bind fun t597 => ((laws_toSub.f k l1_0 a1_1).bind fun bt600 => ((impl_Heard.f k t597 bt600.1 bt600.2).bind fun t604 => ((laws_eqAlarmS.f k t604 t565).bind fun t607 => (if t607 = true then ((laws_heldAlarmS.f k bt594.2 1).bind fun t608 => (if t608 < 0 then (none) else (if t608 = bt594.1 then (some true) else (none)))) else (none)))))) else (none))))) else (none)))))) else (none)))) else (none)))) else (none)))))))))))) = some r := H
 have A3 := Aside0.mk A30
 clear A30
 by_cases c4 : t556 < 0
 ·
  rw [if_pos c4] at H
  have c4b0 : decide (t556 < 0) = true := decide_eq_true c4
  clear c4
  obtain rfl := Option.some.inj H
  go_enter Try.func6, Try.ntmps6
  go_wp2_with (first | ((with_reducible refine gate_dst (N := 3) rfl ?_); refine box_event ?hg (N := 3) ?hd (cs := #[.slice A1_0 l1_0.length c1_0, .bool a1_1]) (t := 31) ?hr ?_; (case hd => rfl); (case hg => rfl); (case hr => first | (go_simp; done) | (go_simp; rfl)); intro gb555 hg w5 hbox hb; have n0_ := Aside0.mk (below_step (by repeat (first | (with_reducible first | exact HB.out | apply below_alloc | apply pw_below_drewN | apply below_drew1) | exact HB.out)) hb); have n1_ := Aside0.mk (hbox); have n2_ := Aside0.mk ((by rw [hg]; exact (below_size (by repeat (first | (with_reducible first | exact HB.out | apply below_alloc | apply pw_below_drewN | apply below_drew1) | exact HB.out))) : w.heap.size ≤ gb555)); have n3_ := Aside0.mk ((by rw [hg]; exact (below_size (by repeat (first | (with_reducible first | exact HB.out | apply below_alloc | apply pw_below_drewN | apply below_drew1) | exact HB.out))) : w.heap.size ≤ gb555)); clear HB; have HB := n0_; have BK555 := n1_; have GW555 := n2_; have GE555 := n3_; clear n0_ n1_ n2_ n3_; clear hb hbox hg) | ((with_reducible refine gate_callee (f := 34) rfl ?_); refine goesL_ (some 16) rfl rfl Try.func34 (by kernel_rfl) rfl #[.slice A0 l0.length c0, .int .i64 1048576] rfl (by (try simp only [List.map_toArray, List.map_cons, List.map_nil]); first | done | rfl | (simp only [List.length_drop, List.length_take]; rfl)) ?_; (with_reducible refine (laws_szAlarmS.calls k _ _ l0 1048576 t556 _ ?side1 ?side2 A3.out).mono ?_); (case side1 => repeat (first | exact (Kd.C_below HR0.out HB.out) | (with_reducible refine Kd.C_alloc ?_ _) | (with_reducible refine Kd.C_drewN ?_ _) | (with_reducible refine Kd.C_drew ?_))); (case side2 => exact HC0.out); rintro e w6 ⟨rfl, hb⟩; refine ⟨_, rfl, ?_⟩; have n0_ := Aside0.mk (blk_below (g := gb555) (o := .cells #[.slice A1_0 l1_0.length c1_0, .bool a1_1] 31 (0, 0)) (by (with_reducible repeat (first | refine blk_drewN ?_ _ | refine blk_drew ?_ | refine blk_alloc ?_ _)); exact BK555.out) hb); have n1_ := Aside0.mk (below_step (by repeat (first | (with_reducible first | exact HB.out | apply below_alloc | apply pw_below_drewN | apply below_drew1 | refine below_set ?_ GE555.out) | exact HB.out)) hb); clear BK555; clear HB; have BK555 := n0_; have HB := n1_; clear n0_ n1_; (try clear hb); (try clear hb2); (try clear hk); (try clear hi)))
  go_ret
  exact ⟨by first | rfl | (simp [errW_none, errW_some] <;> rfl) | (simp [*, errW_none, errW_some] <;> rfl), by repeat (first | (with_reducible first | exact HB.out | apply below_alloc | apply pw_below_drewN | apply below_drew1 | refine below_set ?_ GE555.out) | exact HB.out)⟩
 ·
  rw [if_neg c4] at H
  have c4b0 : decide (t556 < 0) = false := decide_eq_false c4
  clear c4
  replace H := Option.bind_eq_some_iff.mp H
  obtain ⟨t557, A70, H⟩ := H
  replace H : (if t557 < 0 then (some true) else ((laws_toAlarmS.f k l0).bind fun t558 => ((laws_toSub.f k l1_0 a1_1).bind fun bt561 => ((spec_Heard.f k t558 bt561.1 bt561.2).bind fun t565 => ((laws_toAlarmS.f k l0).bind fun t568 => ((laws_toSub.f k l1_0 a1_1).bind fun bt571 => ((impl_Heard.f k t568 bt571.1 bt571.2).bind fun t576 => ((laws_eqAlarmS.f k t576 t565).bind fun t579 => (if t579 = true then ((laws_toAlarmS.f k l0).bind fun t580 => ((laws_eqAlarmS.f k t568 t580).bind fun t583 => (if t583 = true then ((laws_toSub.f k l1_0 a1_1).bind fun bt584 => ((laws_eqSub.f k bt571.1 bt571.2 bt584.1 bt584.2).bind fun t588 => (if t588 = true then ((laws_markAlarmS.f k t568 1).bind fun bt589 => ((laws_markSub.f k bt571.1 bt571.2 bt589.1).bind fun bt591 => (if bt591.1 < 0 then (none) else ((laws_eqAlarmS.f k t576 t565).bind fun t593 => (if t593 = true then ((laws_markAlarmS.f k t576 1).bind fun bt594 => ((laws_heldAlarmS.f k bt594.2 1).bind fun t596 => (if t596 < 0 then (none) else (if t596 = bt594.1 then ((laws_toAlarmS.f k l0).bind fun t597 => ((laws_toSub.f k l1_0 a1_1).bind fun bt600 => ((impl_Heard.f k t597 bt600.1 bt600.2).bind fun t604 => ((laws_eqAlarmS.f k t604 t565).bind fun t607 => (if t607 = true then ((laws_heldAlarmS.f k bt594.2 1).bind fun t608 => (if t608 < 0 then (none) else (if t608 = bt594.1 then (some true) else (none)))) else (none)))))) else (none))))) else (none)))))) else (none)))) else (none)))) else (none)))))))))) = some r := H
  have A7 := Aside0.mk A70
  clear A70
  by_cases c8 : t557 < 0
  ·
   rw [if_pos c8] at H
   have c8b0 : decide (t557 < 0) = true := decide_eq_true c8
   clear c8
   obtain rfl := Option.some.inj H
   go_enter Try.func6, Try.ntmps6
   go_wp2_with (first | ((with_reducible refine gate_dst (N := 3) rfl ?_); refine box_event ?hg (N := 3) ?hd (cs := #[.slice A1_0 l1_0.length c1_0, .bool a1_1]) (t := 31) ?hr ?_; (case hd => rfl); (case hg => rfl); (case hr => first | (go_simp; done) | (go_simp; rfl)); intro gb555 hg w9 hbox hb; have n0_ := Aside0.mk (below_step (by repeat (first | (with_reducible first | exact HB.out | apply below_alloc | apply pw_below_drewN | apply below_drew1) | exact HB.out)) hb); have n1_ := Aside0.mk (hbox); have n2_ := Aside0.mk ((by rw [hg]; exact (below_size (by repeat (first | (with_reducible first | exact HB.out | apply below_alloc | apply pw_below_drewN | apply below_drew1) | exact HB.out))) : w.heap.size ≤ gb555)); have n3_ := Aside0.mk ((by rw [hg]; exact (below_size (by repeat (first | (with_reducible first | exact HB.out | apply below_alloc | apply pw_below_drewN | apply below_drew1) | exact HB.out))) : w.heap.size ≤ gb555)); clear HB; have HB := n0_; have BK555 := n1_; have GW555 := n2_; have GE555 := n3_; clear n0_ n1_ n2_ n3_; clear hb hbox hg) | ((with_reducible refine gate_callee (f := 34) rfl ?_); refine goesL_ (some 16) rfl rfl Try.func34 (by kernel_rfl) rfl #[.slice A0 l0.length c0, .int .i64 1048576] rfl (by (try simp only [List.map_toArray, List.map_cons, List.map_nil]); first | done | rfl | (simp only [List.length_drop, List.length_take]; rfl)) ?_; (with_reducible refine (laws_szAlarmS.calls k _ _ l0 1048576 t556 _ ?side1 ?side2 A3.out).mono ?_); (case side1 => repeat (first | exact (Kd.C_below HR0.out HB.out) | (with_reducible refine Kd.C_alloc ?_ _) | (with_reducible refine Kd.C_drewN ?_ _) | (with_reducible refine Kd.C_drew ?_))); (case side2 => exact HC0.out); rintro e w10 ⟨rfl, hb⟩; refine ⟨_, rfl, ?_⟩; have n0_ := Aside0.mk (blk_below (g := gb555) (o := .cells #[.slice A1_0 l1_0.length c1_0, .bool a1_1] 31 (0, 0)) (by (with_reducible repeat (first | refine blk_drewN ?_ _ | refine blk_drew ?_ | refine blk_alloc ?_ _)); exact BK555.out) hb); have n1_ := Aside0.mk (below_step (by repeat (first | (with_reducible first | exact HB.out | apply below_alloc | apply pw_below_drewN | apply below_drew1 | refine below_set ?_ GE555.out) | exact HB.out)) hb); clear BK555; clear HB; have BK555 := n0_; have HB := n1_; clear n0_ n1_; (try clear hb); (try clear hb2); (try clear hk); (try clear hi); have hcz11_0 : w10.cell? ⟨gb555, 0, none⟩ = some (.slice A1_0 l1_0.length c1_0) := (blk_cell BK555.out 0).trans rfl; have hcz11_1 : w10.cell? ⟨gb555, 1, none⟩ = some (.bool a1_1) := (blk_cell BK555.out 1).trans rfl; have hfz11_0 := blk_frozen BK555.out 0; have hfz11_1 := blk_frozen BK555.out 1) | ((with_reducible refine gate_callee (f := 20) rfl ?_); refine goesL_ (some 21) rfl rfl Try.func20 (by kernel_rfl) rfl #[.agg #[.slice A1_0 l1_0.length c1_0, .bool a1_1], .int .i64 t556] rfl (by (try simp only [List.map_toArray, List.map_cons, List.map_nil]); first | done | rfl | (simp only [List.length_drop, List.length_take]; rfl)) ?_; (with_reducible refine (laws_szSub.calls k _ _ l1_0 a1_1 t556 t557 _ ?side1 ?side2 A7.out).mono ?_); (case side1 => repeat (first | exact (Kd.C_below HR1_0.out HB.out) | (with_reducible refine Kd.C_alloc ?_ _) | (with_reducible refine Kd.C_drewN ?_ _) | (with_reducible refine Kd.C_drew ?_))); (case side2 => exact HC1_0.out); rintro e w12 ⟨rfl, hb⟩; refine ⟨_, rfl, ?_⟩; have n0_ := Aside0.mk (blk_below (g := gb555) (o := .cells #[.slice A1_0 l1_0.length c1_0, .bool a1_1] 31 (0, 0)) (by (with_reducible repeat (first | refine blk_drewN ?_ _ | refine blk_drew ?_ | refine blk_alloc ?_ _)); exact BK555.out) hb); have n1_ := Aside0.mk (below_step (by repeat (first | (with_reducible first | exact HB.out | apply below_alloc | apply pw_below_drewN | apply below_drew1 | refine below_set ?_ GE555.out) | exact HB.out)) hb); clear BK555; clear HB; have BK555 := n0_; have HB := n1_; clear n0_ n1_; (try clear hb); (try clear hb2); (try clear hk); (try clear hi)))
   go_ret
   exact ⟨by first | rfl | (simp [errW_none, errW_some] <;> rfl) | (simp [*, errW_none, errW_some] <;> rfl), by repeat (first | (with_reducible first | exact HB.out | apply below_alloc | apply pw_below_drewN | apply below_drew1 | refine below_set ?_ GE555.out) | exact HB.out)⟩
  ·
   rw [if_neg c8] at H
   have c8b0 : decide (t557 < 0) = false := decide_eq_false c8
   clear c8
   replace H := Option.bind_eq_some_iff.mp H
   obtain ⟨t558, A130, H⟩ := H
   replace H : ((laws_toSub.f k l1_0 a1_1).bind fun bt561 => ((spec_Heard.f k t558 bt561.1 bt561.2).bind fun t565 => ((laws_toAlarmS.f k l0).bind fun t568 => ((laws_toSub.f k l1_0 a1_1).bind fun bt571 => ((impl_Heard.f k t568 bt571.1 bt571.2).bind fun t576 => ((laws_eqAlarmS.f k t576 t565).bind fun t579 => (if t579 = true then ((laws_toAlarmS.f k l0).bind fun t580 => ((laws_eqAlarmS.f k t568 t580).bind fun t583 => (if t583 = true then ((laws_toSub.f k l1_0 a1_1).bind fun bt584 => ((laws_eqSub.f k bt571.1 bt571.2 bt584.1 bt584.2).bind fun t588 => (if t588 = true then ((laws_markAlarmS.f k t568 1).bind fun bt589 => ((laws_markSub.f k bt571.1 bt571.2 bt589.1).bind fun bt591 => (if bt591.1 < 0 then (none) else ((laws_eqAlarmS.f k t576 t565).bind fun t593 => (if t593 = true then ((laws_markAlarmS.f k t576 1).bind fun bt594 => ((laws_heldAlarmS.f k bt594.2 1).bind fun t596 => (if t596 < 0 then (none) else (if t596 = bt594.1 then ((laws_toAlarmS.f k l0).bind fun t597 => ((laws_toSub.f k l1_0 a1_1).bind fun bt600 => ((impl_Heard.f k t597 bt600.1 bt600.2).bind fun t604 => ((laws_eqAlarmS.f k t604 t565).bind fun t607 => (if t607 = true then ((laws_heldAlarmS.f k bt594.2 1).bind fun t608 => (if t608 < 0 then (none) else (if t608 = bt594.1 then (some true) else (none)))) else (none)))))) else (none))))) else (none)))))) else (none)))) else (none)))) else (none)))))))) = some r := H
   have A13 := Aside0.mk A130
   clear A130
   replace H := Option.bind_eq_some_iff.mp H
   obtain ⟨⟨t561, t564⟩, A140, H⟩ := H
   replace H : ((spec_Heard.f k t558 t561 t564).bind fun t565 => ((laws_toAlarmS.f k l0).bind fun t568 => ((laws_toSub.f k l1_0 a1_1).bind fun bt571 => ((impl_Heard.f k t568 bt571.1 bt571.2).bind fun t576 => ((laws_eqAlarmS.f k t576 t565).bind fun t579 => (if t579 = true then ((laws_toAlarmS.f k l0).bind fun t580 => ((laws_eqAlarmS.f k t568 t580).bind fun t583 => (if t583 = true then ((laws_toSub.f k l1_0 a1_1).bind fun bt584 => ((laws_eqSub.f k bt571.1 bt571.2 bt584.1 bt584.2).bind fun t588 => (if t588 = true then ((laws_markAlarmS.f k t568 1).bind fun bt589 => ((laws_markSub.f k bt571.1 bt571.2 bt589.1).bind fun bt591 => (if bt591.1 < 0 then (none) else ((laws_eqAlarmS.f k t576 t565).bind fun t593 => (if t593 = true then ((laws_markAlarmS.f k t576 1).bind fun bt594 => ((laws_heldAlarmS.f k bt594.2 1).bind fun t596 => (if t596 < 0 then (none) else (if t596 = bt594.1 then ((laws_toAlarmS.f k l0).bind fun t597 => ((laws_toSub.f k l1_0 a1_1).bind fun bt600 => ((impl_Heard.f k t597 bt600.1 bt600.2).bind fun t604 => ((laws_eqAlarmS.f k t604 t565).bind fun t607 => (if t607 = true then ((laws_heldAlarmS.f k bt594.2 1).bind fun t608 => (if t608 < 0 then (none) else (if t608 = bt594.1 then (some true) else (none)))) else (none)))))) else (none))))) else (none)))))) else (none)))) else (none)))) else (none))))))) = some r := H
   have A14 := Aside0.mk A140
   clear A140
   replace H := Option.bind_eq_some_iff.mp H
   obtain ⟨t565, A150, H⟩ := H
   replace H : ((laws_toAlarmS.f k l0).bind fun t568 => ((laws_toSub.f k l1_0 a1_1).bind fun bt571 => ((impl_Heard.f k t568 bt571.1 bt571.2).bind fun t576 => ((laws_eqAlarmS.f k t576 t565).bind fun t579 => (if t579 = true then ((laws_toAlarmS.f k l0).bind fun t580 => ((laws_eqAlarmS.f k t568 t580).bind fun t583 => (if t583 = true then ((laws_toSub.f k l1_0 a1_1).bind fun bt584 => ((laws_eqSub.f k bt571.1 bt571.2 bt584.1 bt584.2).bind fun t588 => (if t588 = true then ((laws_markAlarmS.f k t568 1).bind fun bt589 => ((laws_markSub.f k bt571.1 bt571.2 bt589.1).bind fun bt591 => (if bt591.1 < 0 then (none) else ((laws_eqAlarmS.f k t576 t565).bind fun t593 => (if t593 = true then ((laws_markAlarmS.f k t576 1).bind fun bt594 => ((laws_heldAlarmS.f k bt594.2 1).bind fun t596 => (if t596 < 0 then (none) else (if t596 = bt594.1 then ((laws_toAlarmS.f k l0).bind fun t597 => ((laws_toSub.f k l1_0 a1_1).bind fun bt600 => ((impl_Heard.f k t597 bt600.1 bt600.2).bind fun t604 => ((laws_eqAlarmS.f k t604 t565).bind fun t607 => (if t607 = true then ((laws_heldAlarmS.f k bt594.2 1).bind fun t608 => (if t608 < 0 then (none) else (if t608 = bt594.1 then (some true) else (none)))) else (none)))))) else (none))))) else (none)))))) else (none)))) else (none)))) else (none)))))) = some r := H
   have A15 := Aside0.mk A150
   clear A150
   replace H := Option.bind_eq_some_iff.mp H
   obtain ⟨t568, A160, H⟩ := H
   replace H : ((laws_toSub.f k l1_0 a1_1).bind fun bt571 => ((impl_Heard.f k t568 bt571.1 bt571.2).bind fun t576 => ((laws_eqAlarmS.f k t576 t565).bind fun t579 => (if t579 = true then ((laws_toAlarmS.f k l0).bind fun t580 => ((laws_eqAlarmS.f k t568 t580).bind fun t583 => (if t583 = true then ((laws_toSub.f k l1_0 a1_1).bind fun bt584 => ((laws_eqSub.f k bt571.1 bt571.2 bt584.1 bt584.2).bind fun t588 => (if t588 = true then ((laws_markAlarmS.f k t568 1).bind fun bt589 => ((laws_markSub.f k bt571.1 bt571.2 bt589.1).bind fun bt591 => (if bt591.1 < 0 then (none) else ((laws_eqAlarmS.f k t576 t565).bind fun t593 => (if t593 = true then ((laws_markAlarmS.f k t576 1).bind fun bt594 => ((laws_heldAlarmS.f k bt594.2 1).bind fun t596 => (if t596 < 0 then (none) else (if t596 = bt594.1 then ((laws_toAlarmS.f k l0).bind fun t597 => ((laws_toSub.f k l1_0 a1_1).bind fun bt600 => ((impl_Heard.f k t597 bt600.1 bt600.2).bind fun t604 => ((laws_eqAlarmS.f k t604 t565).bind fun t607 => (if t607 = true then ((laws_heldAlarmS.f k bt594.2 1).bind fun t608 => (if t608 < 0 then (none) else (if t608 = bt594.1 then (some true) else (none)))) else (none)))))) else (none))))) else (none)))))) else (none)))) else (none)))) else (none))))) = some r := H
   have A16 := Aside0.mk A160
   clear A160
   replace H := Option.bind_eq_some_iff.mp H
   obtain ⟨⟨t571, t574⟩, A170, H⟩ := H
   replace H : ((impl_Heard.f k t568 t571 t574).bind fun t576 => ((laws_eqAlarmS.f k t576 t565).bind fun t579 => (if t579 = true then ((laws_toAlarmS.f k l0).bind fun t580 => ((laws_eqAlarmS.f k t568 t580).bind fun t583 => (if t583 = true then ((laws_toSub.f k l1_0 a1_1).bind fun bt584 => ((laws_eqSub.f k t571 t574 bt584.1 bt584.2).bind fun t588 => (if t588 = true then ((laws_markAlarmS.f k t568 1).bind fun bt589 => ((laws_markSub.f k t571 t574 bt589.1).bind fun bt591 => (if bt591.1 < 0 then (none) else ((laws_eqAlarmS.f k t576 t565).bind fun t593 => (if t593 = true then ((laws_markAlarmS.f k t576 1).bind fun bt594 => ((laws_heldAlarmS.f k bt594.2 1).bind fun t596 => (if t596 < 0 then (none) else (if t596 = bt594.1 then ((laws_toAlarmS.f k l0).bind fun t597 => ((laws_toSub.f k l1_0 a1_1).bind fun bt600 => ((impl_Heard.f k t597 bt600.1 bt600.2).bind fun t604 => ((laws_eqAlarmS.f k t604 t565).bind fun t607 => (if t607 = true then ((laws_heldAlarmS.f k bt594.2 1).bind fun t608 => (if t608 < 0 then (none) else (if t608 = bt594.1 then (some true) else (none)))) else (none)))))) else (none))))) else (none)))))) else (none)))) else (none)))) else (none)))) = some r := H
   have A17 := Aside0.mk A170
   clear A170
   replace H := Option.bind_eq_some_iff.mp H
   obtain ⟨t576, A180, H⟩ := H
   replace H : ((laws_eqAlarmS.f k t576 t565).bind fun t579 => (if t579 = true then ((laws_toAlarmS.f k l0).bind fun t580 => ((laws_eqAlarmS.f k t568 t580).bind fun t583 => (if t583 = true then ((laws_toSub.f k l1_0 a1_1).bind fun bt584 => ((laws_eqSub.f k t571 t574 bt584.1 bt584.2).bind fun t588 => (if t588 = true then ((laws_markAlarmS.f k t568 1).bind fun bt589 => ((laws_markSub.f k t571 t574 bt589.1).bind fun bt591 => (if bt591.1 < 0 then (none) else ((laws_eqAlarmS.f k t576 t565).bind fun t593 => (if t593 = true then ((laws_markAlarmS.f k t576 1).bind fun bt594 => ((laws_heldAlarmS.f k bt594.2 1).bind fun t596 => (if t596 < 0 then (none) else (if t596 = bt594.1 then ((laws_toAlarmS.f k l0).bind fun t597 => ((laws_toSub.f k l1_0 a1_1).bind fun bt600 => ((impl_Heard.f k t597 bt600.1 bt600.2).bind fun t604 => ((laws_eqAlarmS.f k t604 t565).bind fun t607 => (if t607 = true then ((laws_heldAlarmS.f k bt594.2 1).bind fun t608 => (if t608 < 0 then (none) else (if t608 = bt594.1 then (some true) else (none)))) else (none)))))) else (none))))) else (none)))))) else (none)))) else (none)))) else (none))) = some r := H
   have A18 := Aside0.mk A180
   clear A180
   replace H := Option.bind_eq_some_iff.mp H
   obtain ⟨t579, A190, H⟩ := H
   replace H : (if t579 = true then ((laws_toAlarmS.f k l0).bind fun t580 => ((laws_eqAlarmS.f k t568 t580).bind fun t583 => (if t583 = true then ((laws_toSub.f k l1_0 a1_1).bind fun bt584 => ((laws_eqSub.f k t571 t574 bt584.1 bt584.2).bind fun t588 => (if t588 = true then ((laws_markAlarmS.f k t568 1).bind fun bt589 => ((laws_markSub.f k t571 t574 bt589.1).bind fun bt591 => (if bt591.1 < 0 then (none) else ((laws_eqAlarmS.f k t576 t565).bind fun t593 => (if t593 = true then ((laws_markAlarmS.f k t576 1).bind fun bt594 => ((laws_heldAlarmS.f k bt594.2 1).bind fun t596 => (if t596 < 0 then (none) else (if t596 = bt594.1 then ((laws_toAlarmS.f k l0).bind fun t597 => ((laws_toSub.f k l1_0 a1_1).bind fun bt600 => ((impl_Heard.f k t597 bt600.1 bt600.2).bind fun t604 => ((laws_eqAlarmS.f k t604 t565).bind fun t607 => (if t607 = true then ((laws_heldAlarmS.f k bt594.2 1).bind fun t608 => (if t608 < 0 then (none) else (if t608 = bt594.1 then (some true) else (none)))) else (none)))))) else (none))))) else (none)))))) else (none)))) else (none)))) else (none)) = some r := H
   have A19 := Aside0.mk A190
   clear A190
   by_cases c20 : t579 = true
   ·
    subst c20
    have H1 : ((laws_toAlarmS.f k l0).bind fun t580 => ((laws_eqAlarmS.f k t568 t580).bind fun t583 => (if t583 = true then ((laws_toSub.f k l1_0 a1_1).bind fun bt584 => ((laws_eqSub.f k t571 t574 bt584.1 bt584.2).bind fun t588 => (if t588 = true then ((laws_markAlarmS.f k t568 1).bind fun bt589 => ((laws_markSub.f k t571 t574 bt589.1).bind fun bt591 => (if bt591.1 < 0 then (none) else ((laws_eqAlarmS.f k t576 t565).bind fun t593 => (if t593 = true then ((laws_markAlarmS.f k t576 1).bind fun bt594 => ((laws_heldAlarmS.f k bt594.2 1).bind fun t596 => (if t596 < 0 then (none) else (if t596 = bt594.1 then ((laws_toAlarmS.f k l0).bind fun t597 => ((laws_toSub.f k l1_0 a1_1).bind fun bt600 => ((impl_Heard.f k t597 bt600.1 bt600.2).bind fun t604 => ((laws_eqAlarmS.f k t604 t565).bind fun t607 => (if t607 = true then ((laws_heldAlarmS.f k bt594.2 1).bind fun t608 => (if t608 < 0 then (none) else (if t608 = bt594.1 then (some true) else (none)))) else (none)))))) else (none))))) else (none)))))) else (none)))) else (none)))) = some r := by rw [if_pos rfl] at H; exact H
    clear H
    have H := H1
    clear H1
    replace H := Option.bind_eq_some_iff.mp H
    obtain ⟨t580, A210, H⟩ := H
    replace H : ((laws_eqAlarmS.f k t568 t580).bind fun t583 => (if t583 = true then ((laws_toSub.f k l1_0 a1_1).bind fun bt584 => ((laws_eqSub.f k t571 t574 bt584.1 bt584.2).bind fun t588 => (if t588 = true then ((laws_markAlarmS.f k t568 1).bind fun bt589 => ((laws_markSub.f k t571 t574 bt589.1).bind fun bt591 => (if bt591.1 < 0 then (none) else ((laws_eqAlarmS.f k t576 t565).bind fun t593 => (if t593 = true then ((laws_markAlarmS.f k t576 1).bind fun bt594 => ((laws_heldAlarmS.f k bt594.2 1).bind fun t596 => (if t596 < 0 then (none) else (if t596 = bt594.1 then ((laws_toAlarmS.f k l0).bind fun t597 => ((laws_toSub.f k l1_0 a1_1).bind fun bt600 => ((impl_Heard.f k t597 bt600.1 bt600.2).bind fun t604 => ((laws_eqAlarmS.f k t604 t565).bind fun t607 => (if t607 = true then ((laws_heldAlarmS.f k bt594.2 1).bind fun t608 => (if t608 < 0 then (none) else (if t608 = bt594.1 then (some true) else (none)))) else (none)))))) else (none))))) else (none)))))) else (none)))) else (none))) = some r := H
    have A21 := Aside0.mk A210
    clear A210
    replace H := Option.bind_eq_some_iff.mp H
    obtain ⟨t583, A220, H⟩ := H
    replace H : (if t583 = true then ((laws_toSub.f k l1_0 a1_1).bind fun bt584 => ((laws_eqSub.f k t571 t574 bt584.1 bt584.2).bind fun t588 => (if t588 = true then ((laws_markAlarmS.f k t568 1).bind fun bt589 => ((laws_markSub.f k t571 t574 bt589.1).bind fun bt591 => (if bt591.1 < 0 then (none) else ((laws_eqAlarmS.f k t576 t565).bind fun t593 => (if t593 = true then ((laws_markAlarmS.f k t576 1).bind fun bt594 => ((laws_heldAlarmS.f k bt594.2 1).bind fun t596 => (if t596 < 0 then (none) else (if t596 = bt594.1 then ((laws_toAlarmS.f k l0).bind fun t597 => ((laws_toSub.f k l1_0 a1_1).bind fun bt600 => ((impl_Heard.f k t597 bt600.1 bt600.2).bind fun t604 => ((laws_eqAlarmS.f k t604 t565).bind fun t607 => (if t607 = true then ((laws_heldAlarmS.f k bt594.2 1).bind fun t608 => (if t608 < 0 then (none) else (if t608 = bt594.1 then (some true) else (none)))) else (none)))))) else (none))))) else (none)))))) else (none)))) else (none)) = some r := H
    have A22 := Aside0.mk A220
    clear A220
    by_cases c23 : t583 = true
    ·
     subst c23
     have H1 : ((laws_toSub.f k l1_0 a1_1).bind fun bt584 => ((laws_eqSub.f k t571 t574 bt584.1 bt584.2).bind fun t588 => (if t588 = true then ((laws_markAlarmS.f k t568 1).bind fun bt589 => ((laws_markSub.f k t571 t574 bt589.1).bind fun bt591 => (if bt591.1 < 0 then (none) else ((laws_eqAlarmS.f k t576 t565).bind fun t593 => (if t593 = true then ((laws_markAlarmS.f k t576 1).bind fun bt594 => ((laws_heldAlarmS.f k bt594.2 1).bind fun t596 => (if t596 < 0 then (none) else (if t596 = bt594.1 then ((laws_toAlarmS.f k l0).bind fun t597 => ((laws_toSub.f k l1_0 a1_1).bind fun bt600 => ((impl_Heard.f k t597 bt600.1 bt600.2).bind fun t604 => ((laws_eqAlarmS.f k t604 t565).bind fun t607 => (if t607 = true then ((laws_heldAlarmS.f k bt594.2 1).bind fun t608 => (if t608 < 0 then (none) else (if t608 = bt594.1 then (some true) else (none)))) else (none)))))) else (none))))) else (none)))))) else (none)))) = some r := by rw [if_pos rfl] at H; exact H
     clear H
     have H := H1
     clear H1
     replace H := Option.bind_eq_some_iff.mp H
     obtain ⟨⟨t584, t587⟩, A240, H⟩ := H
     replace H : ((laws_eqSub.f k t571 t574 t584 t587).bind fun t588 => (if t588 = true then ((laws_markAlarmS.f k t568 1).bind fun bt589 => ((laws_markSub.f k t571 t574 bt589.1).bind fun bt591 => (if bt591.1 < 0 then (none) else ((laws_eqAlarmS.f k t576 t565).bind fun t593 => (if t593 = true then ((laws_markAlarmS.f k t576 1).bind fun bt594 => ((laws_heldAlarmS.f k bt594.2 1).bind fun t596 => (if t596 < 0 then (none) else (if t596 = bt594.1 then ((laws_toAlarmS.f k l0).bind fun t597 => ((laws_toSub.f k l1_0 a1_1).bind fun bt600 => ((impl_Heard.f k t597 bt600.1 bt600.2).bind fun t604 => ((laws_eqAlarmS.f k t604 t565).bind fun t607 => (if t607 = true then ((laws_heldAlarmS.f k bt594.2 1).bind fun t608 => (if t608 < 0 then (none) else (if t608 = bt594.1 then (some true) else (none)))) else (none)))))) else (none))))) else (none)))))) else (none))) = some r := H
     have A24 := Aside0.mk A240
     clear A240
     replace H := Option.bind_eq_some_iff.mp H
     obtain ⟨t588, A250, H⟩ := H
     replace H : (if t588 = true then ((laws_markAlarmS.f k t568 1).bind fun bt589 => ((laws_markSub.f k t571 t574 bt589.1).bind fun bt591 => (if bt591.1 < 0 then (none) else ((laws_eqAlarmS.f k t576 t565).bind fun t593 => (if t593 = true then ((laws_markAlarmS.f k t576 1).bind fun bt594 => ((laws_heldAlarmS.f k bt594.2 1).bind fun t596 => (if t596 < 0 then (none) else (if t596 = bt594.1 then ((laws_toAlarmS.f k l0).bind fun t597 => ((laws_toSub.f k l1_0 a1_1).bind fun bt600 => ((impl_Heard.f k t597 bt600.1 bt600.2).bind fun t604 => ((laws_eqAlarmS.f k t604 t565).bind fun t607 => (if t607 = true then ((laws_heldAlarmS.f k bt594.2 1).bind fun t608 => (if t608 < 0 then (none) else (if t608 = bt594.1 then (some true) else (none)))) else (none)))))) else (none))))) else (none)))))) else (none)) = some r := H
     have A25 := Aside0.mk A250
     clear A250
     by_cases c26 : t588 = true
     ·
      subst c26
      have H1 : ((laws_markAlarmS.f k t568 1).bind fun bt589 => ((laws_markSub.f k t571 t574 bt589.1).bind fun bt591 => (if bt591.1 < 0 then (none) else ((laws_eqAlarmS.f k t576 t565).bind fun t593 => (if t593 = true then ((laws_markAlarmS.f k t576 1).bind fun bt594 => ((laws_heldAlarmS.f k bt594.2 1).bind fun t596 => (if t596 < 0 then (none) else (if t596 = bt594.1 then ((laws_toAlarmS.f k l0).bind fun t597 => ((laws_toSub.f k l1_0 a1_1).bind fun bt600 => ((impl_Heard.f k t597 bt600.1 bt600.2).bind fun t604 => ((laws_eqAlarmS.f k t604 t565).bind fun t607 => (if t607 = true then ((laws_heldAlarmS.f k bt594.2 1).bind fun t608 => (if t608 < 0 then (none) else (if t608 = bt594.1 then (some true) else (none)))) else (none)))))) else (none))))) else (none)))))) = some r := by rw [if_pos rfl] at H; exact H
      clear H
      have H := H1
      clear H1
      replace H := Option.bind_eq_some_iff.mp H
      obtain ⟨⟨t589, t590⟩, A270, H⟩ := H
      replace H : ((laws_markSub.f k t571 t574 t589).bind fun bt591 => (if bt591.1 < 0 then (none) else ((laws_eqAlarmS.f k t576 t565).bind fun t593 => (if t593 = true then ((laws_markAlarmS.f k t576 1).bind fun bt594 => ((laws_heldAlarmS.f k bt594.2 1).bind fun t596 => (if t596 < 0 then (none) else (if t596 = bt594.1 then ((laws_toAlarmS.f k l0).bind fun t597 => ((laws_toSub.f k l1_0 a1_1).bind fun bt600 => ((impl_Heard.f k t597 bt600.1 bt600.2).bind fun t604 => ((laws_eqAlarmS.f k t604 t565).bind fun t607 => (if t607 = true then ((laws_heldAlarmS.f k bt594.2 1).bind fun t608 => (if t608 < 0 then (none) else (if t608 = bt594.1 then (some true) else (none)))) else (none)))))) else (none))))) else (none))))) = some r := H
      have A27 := Aside0.mk A270
      clear A270
      replace H := Option.bind_eq_some_iff.mp H
      obtain ⟨⟨t591, t592⟩, A280, H⟩ := H
      replace H : (if t591 < 0 then (none) else ((laws_eqAlarmS.f k t576 t565).bind fun t593 => (if t593 = true then ((laws_markAlarmS.f k t576 1).bind fun bt594 => ((laws_heldAlarmS.f k bt594.2 1).bind fun t596 => (if t596 < 0 then (none) else (if t596 = bt594.1 then ((laws_toAlarmS.f k l0).bind fun t597 => ((laws_toSub.f k l1_0 a1_1).bind fun bt600 => ((impl_Heard.f k t597 bt600.1 bt600.2).bind fun t604 => ((laws_eqAlarmS.f k t604 t565).bind fun t607 => (if t607 = true then ((laws_heldAlarmS.f k bt594.2 1).bind fun t608 => (if t608 < 0 then (none) else (if t608 = bt594.1 then (some true) else (none)))) else (none)))))) else (none))))) else (none)))) = some r := H
      have A28 := Aside0.mk A280
      clear A280
      by_cases c29 : t591 < 0
      ·
       rw [if_pos c29] at H
       exact absurd H (by simp)
      ·
       rw [if_neg c29] at H
       have c29b0 : decide (t591 < 0) = false := decide_eq_false c29
       clear c29
       replace H := Option.bind_eq_some_iff.mp H
       obtain ⟨t593, A300, H⟩ := H
       replace H : (if t593 = true then ((laws_markAlarmS.f k t576 1).bind fun bt594 => ((laws_heldAlarmS.f k bt594.2 1).bind fun t596 => (if t596 < 0 then (none) else (if t596 = bt594.1 then ((laws_toAlarmS.f k l0).bind fun t597 => ((laws_toSub.f k l1_0 a1_1).bind fun bt600 => ((impl_Heard.f k t597 bt600.1 bt600.2).bind fun t604 => ((laws_eqAlarmS.f k t604 t565).bind fun t607 => (if t607 = true then ((laws_heldAlarmS.f k bt594.2 1).bind fun t608 => (if t608 < 0 then (none) else (if t608 = bt594.1 then (some true) else (none)))) else (none)))))) else (none))))) else (none)) = some r := H
       have A30 := Aside0.mk A300
       clear A300
       by_cases c31 : t593 = true
       ·
        subst c31
        have H1 : ((laws_markAlarmS.f k t576 1).bind fun bt594 => ((laws_heldAlarmS.f k bt594.2 1).bind fun t596 => (if t596 < 0 then (none) else (if t596 = bt594.1 then ((laws_toAlarmS.f k l0).bind fun t597 => ((laws_toSub.f k l1_0 a1_1).bind fun bt600 => ((impl_Heard.f k t597 bt600.1 bt600.2).bind fun t604 => ((laws_eqAlarmS.f k t604 t565).bind fun t607 => (if t607 = true then ((laws_heldAlarmS.f k bt594.2 1).bind fun t608 => (if t608 < 0 then (none) else (if t608 = bt594.1 then (some true) else (none)))) else (none)))))) else (none))))) = some r := by rw [if_pos rfl] at H; exact H
        clear H
        have H := H1
        clear H1
        replace H := Option.bind_eq_some_iff.mp H
        obtain ⟨⟨t594, t595⟩, A320, H⟩ := H
        replace H : ((laws_heldAlarmS.f k t595 1).bind fun t596 => (if t596 < 0 then (none) else (if t596 = t594 then ((laws_toAlarmS.f k l0).bind fun t597 => ((laws_toSub.f k l1_0 a1_1).bind fun bt600 => ((impl_Heard.f k t597 bt600.1 bt600.2).bind fun t604 => ((laws_eqAlarmS.f k t604 t565).bind fun t607 => (if t607 = true then ((laws_heldAlarmS.f k t595 1).bind fun t608 => (if t608 < 0 then (none) else (if t608 = t594 then (some true) else (none)))) else (none)))))) else (none)))) = some r := H
        have A32 := Aside0.mk A320
        clear A320
        replace H := Option.bind_eq_some_iff.mp H
        obtain ⟨t596, A330, H⟩ := H
        replace H : (if t596 < 0 then (none) else (if t596 = t594 then ((laws_toAlarmS.f k l0).bind fun t597 => ((laws_toSub.f k l1_0 a1_1).bind fun bt600 => ((impl_Heard.f k t597 bt600.1 bt600.2).bind fun t604 => ((laws_eqAlarmS.f k t604 t565).bind fun t607 => (if t607 = true then ((laws_heldAlarmS.f k t595 1).bind fun t608 => (if t608 < 0 then (none) else (if t608 = t594 then (some true) else (none)))) else (none)))))) else (none))) = some r := H
        have A33 := Aside0.mk A330
        clear A330
        by_cases c34 : t596 < 0
        ·
         rw [if_pos c34] at H
         exact absurd H (by simp)
        ·
         rw [if_neg c34] at H
         have c34b0 : decide (t596 < 0) = false := decide_eq_false c34
         clear c34
         by_cases c35 : t596 = t594
         ·
          rw [if_pos c35] at H
          have c35b0 : (t596 == t594) = true := beq_iff_eq.mpr c35
          have c35b1 : (t596 != t594) = false := bne_eq_false_iff_eq.mpr c35
          clear c35
          replace H := Option.bind_eq_some_iff.mp H
          obtain ⟨t597, A360, H⟩ := H
          replace H : ((laws_toSub.f k l1_0 a1_1).bind fun bt600 => ((impl_Heard.f k t597 bt600.1 bt600.2).bind fun t604 => ((laws_eqAlarmS.f k t604 t565).bind fun t607 => (if t607 = true then ((laws_heldAlarmS.f k t595 1).bind fun t608 => (if t608 < 0 then (none) else (if t608 = t594 then (some true) else (none)))) else (none))))) = some r := H
          have A36 := Aside0.mk A360
          clear A360
          replace H := Option.bind_eq_some_iff.mp H
          obtain ⟨⟨t600, t603⟩, A370, H⟩ := H
          replace H : ((impl_Heard.f k t597 t600 t603).bind fun t604 => ((laws_eqAlarmS.f k t604 t565).bind fun t607 => (if t607 = true then ((laws_heldAlarmS.f k t595 1).bind fun t608 => (if t608 < 0 then (none) else (if t608 = t594 then (some true) else (none)))) else (none)))) = some r := H
          have A37 := Aside0.mk A370
          clear A370
          replace H := Option.bind_eq_some_iff.mp H
          obtain ⟨t604, A380, H⟩ := H
          replace H : ((laws_eqAlarmS.f k t604 t565).bind fun t607 => (if t607 = true then ((laws_heldAlarmS.f k t595 1).bind fun t608 => (if t608 < 0 then (none) else (if t608 = t594 then (some true) else (none)))) else (none))) = some r := H
          have A38 := Aside0.mk A380
          clear A380
          replace H := Option.bind_eq_some_iff.mp H
          obtain ⟨t607, A390, H⟩ := H
          replace H : (if t607 = true then ((laws_heldAlarmS.f k t595 1).bind fun t608 => (if t608 < 0 then (none) else (if t608 = t594 then (some true) else (none)))) else (none)) = some r := H
          have A39 := Aside0.mk A390
          clear A390
          by_cases c40 : t607 = true
          ·
           subst c40
           have H1 : ((laws_heldAlarmS.f k t595 1).bind fun t608 => (if t608 < 0 then (none) else (if t608 = t594 then (some true) else (none)))) = some r := by rw [if_pos rfl] at H; exact H
           clear H
           have H := H1
           clear H1
           replace H := Option.bind_eq_some_iff.mp H
           obtain ⟨t608, A410, H⟩ := H
           replace H : (if t608 < 0 then (none) else (if t608 = t594 then (some true) else (none))) = some r := H
           have A41 := Aside0.mk A410
           clear A410
           by_cases c42 : t608 < 0
           ·
            rw [if_pos c42] at H
            exact absurd H (by simp)
           ·
            rw [if_neg c42] at H
            have c42b0 : decide (t608 < 0) = false := decide_eq_false c42
            clear c42
            by_cases c43 : t608 = t594
            ·
             rw [if_pos c43] at H
             have c43b0 : (t608 == t594) = true := beq_iff_eq.mpr c43
             have c43b1 : (t608 != t594) = false := bne_eq_false_iff_eq.mpr c43
             clear c43
             obtain rfl := Option.some.inj H
             go_enter Try.func6, Try.ntmps6
             try go_wp2_with (first | ((with_reducible refine gate_dst (N := 3) rfl ?_); refine box_event ?hg (N := 3) ?hd (cs := #[.slice A1_0 l1_0.length c1_0, .bool a1_1]) (t := 31) ?hr ?_; (case hd => rfl); (case hg => rfl); (case hr => first | (go_simp; done) | (go_simp; rfl)); intro gb555 hg w44 hbox hb; have n0_ := Aside0.mk (below_step (by repeat (first | (with_reducible first | exact HB.out | apply below_alloc | apply pw_below_drewN | apply below_drew1) | exact HB.out)) hb); have n1_ := Aside0.mk (hbox); have n2_ := Aside0.mk ((by rw [hg]; exact (below_size (by repeat (first | (with_reducible first | exact HB.out | apply below_alloc | apply pw_below_drewN | apply below_drew1) | exact HB.out))) : w.heap.size ≤ gb555)); have n3_ := Aside0.mk ((by rw [hg]; exact (below_size (by repeat (first | (with_reducible first | exact HB.out | apply below_alloc | apply pw_below_drewN | apply below_drew1) | exact HB.out))) : w.heap.size ≤ gb555)); clear HB; have HB := n0_; have BK555 := n1_; have GW555 := n2_; have GE555 := n3_; clear n0_ n1_ n2_ n3_; clear hb hbox hg) | ((with_reducible refine gate_callee (f := 34) rfl ?_); refine goesL_ (some 16) rfl rfl Try.func34 (by kernel_rfl) rfl #[.slice A0 l0.length c0, .int .i64 1048576] rfl (by (try simp only [List.map_toArray, List.map_cons, List.map_nil]); first | done | rfl | (simp only [List.length_drop, List.length_take]; rfl)) ?_; (with_reducible refine (laws_szAlarmS.calls k _ _ l0 1048576 t556 _ ?side1 ?side2 A3.out).mono ?_); (case side1 => repeat (first | exact (Kd.C_below HR0.out HB.out) | (with_reducible refine Kd.C_alloc ?_ _) | (with_reducible refine Kd.C_drewN ?_ _) | (with_reducible refine Kd.C_drew ?_))); (case side2 => exact HC0.out); rintro e w45 ⟨rfl, hb⟩; refine ⟨_, rfl, ?_⟩; have n0_ := Aside0.mk (blk_below (g := gb555) (o := .cells #[.slice A1_0 l1_0.length c1_0, .bool a1_1] 31 (0, 0)) (by (with_reducible repeat (first | refine blk_drewN ?_ _ | refine blk_drew ?_ | refine blk_alloc ?_ _)); exact BK555.out) hb); have n1_ := Aside0.mk (below_step (by repeat (first | (with_reducible first | exact HB.out | apply below_alloc | apply pw_below_drewN | apply below_drew1 | refine below_set ?_ GE555.out) | exact HB.out)) hb); clear BK555; clear HB; have BK555 := n0_; have HB := n1_; clear n0_ n1_; (try clear hb); (try clear hb2); (try clear hk); (try clear hi); have hcz46_0 : w45.cell? ⟨gb555, 0, none⟩ = some (.slice A1_0 l1_0.length c1_0) := (blk_cell BK555.out 0).trans rfl; have hcz46_1 : w45.cell? ⟨gb555, 1, none⟩ = some (.bool a1_1) := (blk_cell BK555.out 1).trans rfl; have hfz46_0 := blk_frozen BK555.out 0; have hfz46_1 := blk_frozen BK555.out 1) | ((with_reducible refine gate_callee (f := 20) rfl ?_); refine goesL_ (some 21) rfl rfl Try.func20 (by kernel_rfl) rfl #[.agg #[.slice A1_0 l1_0.length c1_0, .bool a1_1], .int .i64 t556] rfl (by (try simp only [List.map_toArray, List.map_cons, List.map_nil]); first | done | rfl | (simp only [List.length_drop, List.length_take]; rfl)) ?_; (with_reducible refine (laws_szSub.calls k _ _ l1_0 a1_1 t556 t557 _ ?side1 ?side2 A7.out).mono ?_); (case side1 => repeat (first | exact (Kd.C_below HR1_0.out HB.out) | (with_reducible refine Kd.C_alloc ?_ _) | (with_reducible refine Kd.C_drewN ?_ _) | (with_reducible refine Kd.C_drew ?_))); (case side2 => exact HC1_0.out); rintro e w47 ⟨rfl, hb⟩; refine ⟨_, rfl, ?_⟩; have n0_ := Aside0.mk (blk_below (g := gb555) (o := .cells #[.slice A1_0 l1_0.length c1_0, .bool a1_1] 31 (0, 0)) (by (with_reducible repeat (first | refine blk_drewN ?_ _ | refine blk_drew ?_ | refine blk_alloc ?_ _)); exact BK555.out) hb); have n1_ := Aside0.mk (below_step (by repeat (first | (with_reducible first | exact HB.out | apply below_alloc | apply pw_below_drewN | apply below_drew1 | refine below_set ?_ GE555.out) | exact HB.out)) hb); clear BK555; clear HB; have BK555 := n0_; have HB := n1_; clear n0_ n1_; (try clear hb); (try clear hb2); (try clear hk); (try clear hi)))
             have n0_ := Aside0.mk (blk_drew BK555.out)
             have n1_ := Aside0.mk (below_drew1 HB.out)
             clear BK555
             clear HB
             have BK555 := n0_
             have HB := n1_
             clear n0_ n1_
             refine start_ (n := 6) (S := fun w' => w'.cell? ⟨gb555, 0, none⟩ = some (.slice A1_0 l1_0.length c1_0) ∧ w'.cell? ⟨gb555, 1, none⟩ = some (.bool a1_1)) (ds := []) #[false, false, false, false, false, false] (by kernel_rfl) rfl rfl ⟨(blk_cell BK555.out 0).trans rfl, (blk_cell BK555.out 1).trans rfl⟩ (fun hHeld => ?_)
             generalize w47.drew = w48 at BK555 HB hHeld ⊢
             refine pure_ (i := 0) (N := some 24) (v := ?_) (a' := ?_) #[true, false, false, false, false, false] rfl rfl (by kernel_rfl) (fun _ _ _ h => h) (Or.inl ⟨by rfl, ?_⟩) ?_ ?_
             rotate_left
             ·
              intro w'
              go_simp
              with_reducible rfl
             rotate_left
             ·
              simp only [Act.put, List.setIfInBounds_toArray, List.set_cons_zero, List.set_cons_succ, i64_w, i32_w]
              rfl
             refine take_ (i := 2) (N := some 26) (v := ?_) (a' := ?_) #[true, false, true, false, false, false] rfl rfl (by kernel_rfl) (fun _ _ _ h => h) (Or.inl ⟨by rfl, ?_⟩) hHeld ?_ ?_
             rotate_left
             ·
              rintro w' ⟨s0, s1⟩
              go_simp
              with_reducible rfl
             rotate_left
             ·
              simp only [Act.put, List.setIfInBounds_toArray, List.set_cons_zero, List.set_cons_succ, i64_w, i32_w]
              rfl
             refine one_ (i := 1) (N := some 25) #[true, true, true, false, false, false] rfl rfl (by kernel_rfl) (by decide) (fun K hK => ?_)
             refine goes_ Try.func36 (by kernel_rfl) rfl #[.slice A0 l0.length c0] (by rfl) rfl rfl (by (try simp only [List.map_toArray, List.map_cons, List.map_nil]); first | done | rfl | (simp only [List.length_drop, List.length_take]; rfl)) ?_
             with_reducible refine (laws_toAlarmS.calls k _ _ l0 t558 _ ?side1 ?side2 A13.out).mono ?_
             (case side1 => repeat (first | exact (Kd.C_below HR0.out HB.out) | (with_reducible refine Kd.C_alloc ?_ _) | (with_reducible refine Kd.C_drewN ?_ _) | (with_reducible refine Kd.C_drew ?_)))
             (case side2 => exact HC0.out)
             rintro e w49 ⟨v559, rfl, ho0, hb⟩
             refine ⟨_, rfl, ?_⟩
             obtain ⟨nz50, hz50⟩ := Kd.S_name ho0
             have n0_ := Aside0.mk (Kd.S_lower (Kd.S_gez hz50 ho0) (below_size (by repeat (first | (with_reducible first | exact HB.out | apply below_alloc | apply pw_below_drewN | apply below_drew1 | refine below_set ?_ GE555.out) | exact HB.out))))
             have n1_ := Aside0.mk (blk_below (g := gb555) (o := .cells #[.slice A1_0 l1_0.length c1_0, .bool a1_1] 31 (0, 0)) (by (with_reducible repeat (first | refine blk_drewN ?_ _ | refine blk_drew ?_ | refine blk_alloc ?_ _)); exact BK555.out) hb)
             have n2_ := Aside0.mk (below_step (by repeat (first | (with_reducible first | exact HB.out | apply below_alloc | apply pw_below_drewN | apply below_drew1 | refine below_set ?_ GE555.out) | exact HB.out)) hb)
             clear BK555
             clear HB
             have HO560 := n0_
             have BK555 := n1_
             have HB := n2_
             clear n0_ n1_ n2_
             (try clear hb)
             (try clear hb2)
             (try clear hk)
             (try clear hi)
             (try clear ho0)
             refine hK.out _ _ ⟨(blk_cell BK555.out 0).trans rfl, (blk_cell BK555.out 1).trans rfl⟩ (fun hHeld => ?_)
             clear hK K
             refine norm_ (a' := ?_) ?_ ?_
             rotate_left
             ·
              show Act.put _ (some 25) _ = _
              simp only [Act.put, List.setIfInBounds_toArray, List.set_cons_zero, List.set_cons_succ, i64_w, i32_w]
              rfl
             refine one_ (i := 3) (N := some 27) #[true, true, true, true, false, false] rfl rfl (by kernel_rfl) (by decide) (fun K hK => ?_)
             refine goes_ Try.func23 (by kernel_rfl) rfl #[.agg #[.slice A1_0 l1_0.length c1_0, .bool a1_1]] (by rfl) rfl rfl (by (try simp only [List.map_toArray, List.map_cons, List.map_nil]); first | done | rfl | (simp only [List.length_drop, List.length_take]; rfl)) ?_
             with_reducible refine (laws_toSub.calls k _ _ l1_0 a1_1 t561 t564 _ ?side1 ?side2 A14.out).mono ?_
             (case side1 => repeat (first | exact (Kd.C_below HR1_0.out HB.out) | (with_reducible refine Kd.C_alloc ?_ _) | (with_reducible refine Kd.C_drewN ?_ _) | (with_reducible refine Kd.C_drew ?_)))
             (case side2 => exact HC1_0.out)
             rintro e w51 ⟨v562, rfl, ho0, hb⟩
             refine ⟨_, rfl, ?_⟩
             obtain ⟨nz52, hz52⟩ := Kd.S_name ho0
             have n0_ := Aside0.mk (Kd.S_elder' (Kd.S_ltz hz52 (by (with_reducible repeat (first | apply Kd.S_alloc | apply Kd.S_drewN | apply Kd.S_drew)); exact HO560.out)) (Kd.S_base ho0) hb)
             have n1_ := Aside0.mk (Kd.S_lower (Kd.S_new' (Kd.S_gez hz52 ho0) (Kd.S_lt (by (with_reducible repeat (first | apply Kd.S_alloc | apply Kd.S_drewN | apply Kd.S_drew)); exact HO560.out))) (below_size (by repeat (first | (with_reducible first | exact HB.out | apply below_alloc | apply pw_below_drewN | apply below_drew1 | refine below_set ?_ GE555.out) | exact HB.out))))
             have n2_ := Aside0.mk (blk_below (g := gb555) (o := .cells #[.slice A1_0 l1_0.length c1_0, .bool a1_1] 31 (0, 0)) (by (with_reducible repeat (first | refine blk_drewN ?_ _ | refine blk_drew ?_ | refine blk_alloc ?_ _)); exact BK555.out) hb)
             have n3_ := Aside0.mk (below_step (by repeat (first | (with_reducible first | exact HB.out | apply below_alloc | apply pw_below_drewN | apply below_drew1 | refine below_set ?_ GE555.out) | exact HB.out)) hb)
             clear HO560
             clear BK555
             clear HB
             have HO560 := n0_
             have HO563 := n1_
             have BK555 := n2_
             have HB := n3_
             clear n0_ n1_ n2_ n3_
             (try clear hb)
             (try clear hb2)
             (try clear hk)
             (try clear hi)
             (try clear ho0)
             obtain ⟨Ao53, co53, eo53⟩ := Kd.S_slice HO560.out
             (first | subst eo53 | (injection eo53 with f1_ f2_ f3_; have f4_ := f1_.symm; have f5_ := f3_.symm; clear f1_ f2_ f3_; subst f4_; subst f5_))
             obtain ⟨Ao54, co54, eo54⟩ := Kd.S_slice HO563.out
             (first | subst eo54 | (injection eo54 with f1_ f2_ f3_; have f4_ := f1_.symm; have f5_ := f3_.symm; clear f1_ f2_ f3_; subst f4_; subst f5_))
             refine hK.out _ _ ⟨(blk_cell BK555.out 0).trans rfl, (blk_cell BK555.out 1).trans rfl⟩ (fun hHeld => ?_)
             clear hK K
             refine norm_ (a' := ?_) ?_ ?_
             rotate_left
             ·
              show Act.put _ (some 27) _ = _
              simp only [Act.put, List.setIfInBounds_toArray, List.set_cons_zero, List.set_cons_succ, i64_w, i32_w]
              rfl
             refine one_ (i := 4) (N := some 28) #[true, true, true, true, true, false] rfl rfl (by kernel_rfl) (by decide) (fun K hK => ?_)
             refine goes_ Try.func35 (by kernel_rfl) rfl #[.slice Ao53 t558.length co53, .agg #[.slice Ao54 t561.length co54, .bool t564]] (by rfl) rfl rfl (by (try simp only [List.map_toArray, List.map_cons, List.map_nil]); first | done | rfl | (simp only [List.length_drop, List.length_take]; rfl)) ?_
             with_reducible refine (spec_Heard.calls k _ _ t558 _ _ t561 t564 t565 _ ?side1 ?side2 ?side3 ?side4 A15.out).mono ?_
             (case side1 => repeat (first | exact (Kd.S_reads' HO560.out).2.2 | (with_reducible refine Kd.C_alloc ?_ _) | (with_reducible refine Kd.C_drewN ?_ _) | (with_reducible refine Kd.C_drew ?_)))
             (case side2 => exact (Kd.S_reads' HO560.out).2.1)
             (case side3 => repeat (first | exact (Kd.S_reads' HO563.out).2.2 | (with_reducible refine Kd.C_alloc ?_ _) | (with_reducible refine Kd.C_drewN ?_ _) | (with_reducible refine Kd.C_drew ?_)))
             (case side4 => exact (Kd.S_reads' HO563.out).2.1)
             rintro e w55 ⟨v566, rfl, ho0, hb⟩
             refine ⟨_, rfl, ?_⟩
             obtain ⟨nz56, hz56⟩ := Kd.S_name ho0
             have n0_ := Aside0.mk (Kd.S_elder' (Kd.S_ltz hz56 (by (with_reducible repeat (first | apply Kd.S_alloc | apply Kd.S_drewN | apply Kd.S_drew)); exact HO560.out)) (Kd.S_base ho0) hb)
             have n1_ := Aside0.mk (Kd.S_elder' (Kd.S_ltz hz56 (by (with_reducible repeat (first | apply Kd.S_alloc | apply Kd.S_drewN | apply Kd.S_drew)); exact HO563.out)) (Kd.S_base ho0) hb)
             have n2_ := Aside0.mk (Kd.S_lower (Kd.S_new' (Kd.S_new' (Kd.S_gez hz56 ho0) (Kd.S_lt (by (with_reducible repeat (first | apply Kd.S_alloc | apply Kd.S_drewN | apply Kd.S_drew)); exact HO560.out))) (Kd.S_lt (by (with_reducible repeat (first | apply Kd.S_alloc | apply Kd.S_drewN | apply Kd.S_drew)); exact HO563.out))) (below_size (by repeat (first | (with_reducible first | exact HB.out | apply below_alloc | apply pw_below_drewN | apply below_drew1 | refine below_set ?_ GE555.out) | exact HB.out))))
             have n3_ := Aside0.mk (blk_below (g := gb555) (o := .cells #[.slice A1_0 l1_0.length c1_0, .bool a1_1] 31 (0, 0)) (by (with_reducible repeat (first | refine blk_drewN ?_ _ | refine blk_drew ?_ | refine blk_alloc ?_ _)); exact BK555.out) hb)
             have n4_ := Aside0.mk (below_step (by repeat (first | (with_reducible first | exact HB.out | apply below_alloc | apply pw_below_drewN | apply below_drew1 | refine below_set ?_ GE555.out) | exact HB.out)) hb)
             clear HO560
             clear HO563
             clear BK555
             clear HB
             have HO560 := n0_
             have HO563 := n1_
             have HO567 := n2_
             have BK555 := n3_
             have HB := n4_
             clear n0_ n1_ n2_ n3_ n4_
             (try clear hb)
             (try clear hb2)
             (try clear hk)
             (try clear hi)
             (try clear ho0)
             refine hK.out _ _ ⟨(blk_cell BK555.out 0).trans rfl, (blk_cell BK555.out 1).trans rfl⟩ (fun hHeld => ?_)
             clear hK K
             refine norm_ (a' := ?_) ?_ ?_
             rotate_left
             ·
              show Act.put _ (some 28) _ = _
              simp only [Act.put, List.setIfInBounds_toArray, List.set_cons_zero, List.set_cons_succ, i64_w, i32_w]
              rfl
             refine pure_ (i := 5) (N := some 6) (v := ?_) (a' := ?_) #[true, true, true, true, true, true] rfl rfl (by kernel_rfl) (fun _ _ _ h => h) (Or.inl ⟨by rfl, ?_⟩) ?_ ?_
             rotate_left
             ·
              intro w'
              go_simp
              with_reducible rfl
             rotate_left
             ·
              simp only [Act.put, List.setIfInBounds_toArray, List.set_cons_zero, List.set_cons_succ, i64_w, i32_w]
              rfl
             refine done_ (by kernel_rfl) ?_
             try go_wp2_with (first | ((with_reducible refine gate_callee (f := 36) rfl ?_); refine goesL_ (some 30) rfl rfl Try.func36 (by kernel_rfl) rfl #[.slice A0 l0.length c0] rfl (by (try simp only [List.map_toArray, List.map_cons, List.map_nil]); first | done | rfl | (simp only [List.length_drop, List.length_take]; rfl)) ?_; (with_reducible refine (laws_toAlarmS.calls k _ _ l0 t568 _ ?side1 ?side2 A16.out).mono ?_); (case side1 => repeat (first | exact (Kd.C_below HR0.out HB.out) | (with_reducible refine Kd.C_alloc ?_ _) | (with_reducible refine Kd.C_drewN ?_ _) | (with_reducible refine Kd.C_drew ?_))); (case side2 => exact HC0.out); rintro e w57 ⟨v569, rfl, ho0, hb⟩; refine ⟨_, rfl, ?_⟩; obtain ⟨nz58, hz58⟩ := Kd.S_name ho0; have n0_ := Aside0.mk (Kd.S_elder' (Kd.S_ltz hz58 (by (with_reducible repeat (first | apply Kd.S_alloc | apply Kd.S_drewN | apply Kd.S_drew)); exact HO560.out)) (Kd.S_base ho0) hb); have n1_ := Aside0.mk (Kd.S_elder' (Kd.S_ltz hz58 (by (with_reducible repeat (first | apply Kd.S_alloc | apply Kd.S_drewN | apply Kd.S_drew)); exact HO563.out)) (Kd.S_base ho0) hb); have n2_ := Aside0.mk (Kd.S_elder' (Kd.S_ltz hz58 (by (with_reducible repeat (first | apply Kd.S_alloc | apply Kd.S_drewN | apply Kd.S_drew)); exact HO567.out)) (Kd.S_base ho0) hb); have n3_ := Aside0.mk (Kd.S_lower (Kd.S_new' (Kd.S_new' (Kd.S_new' (Kd.S_gez hz58 ho0) (Kd.S_lt (by (with_reducible repeat (first | apply Kd.S_alloc | apply Kd.S_drewN | apply Kd.S_drew)); exact HO560.out))) (Kd.S_lt (by (with_reducible repeat (first | apply Kd.S_alloc | apply Kd.S_drewN | apply Kd.S_drew)); exact HO563.out))) (Kd.S_lt (by (with_reducible repeat (first | apply Kd.S_alloc | apply Kd.S_drewN | apply Kd.S_drew)); exact HO567.out))) (below_size (by repeat (first | (with_reducible first | exact HB.out | apply below_alloc | apply pw_below_drewN | apply below_drew1 | refine below_set ?_ GE555.out) | exact HB.out)))); have n4_ := Aside0.mk (blk_below (g := gb555) (o := .cells #[.slice A1_0 l1_0.length c1_0, .bool a1_1] 31 (0, 0)) (by (with_reducible repeat (first | refine blk_drewN ?_ _ | refine blk_drew ?_ | refine blk_alloc ?_ _)); exact BK555.out) hb); have n5_ := Aside0.mk (below_step (by repeat (first | (with_reducible first | exact HB.out | apply below_alloc | apply pw_below_drewN | apply below_drew1 | refine below_set ?_ GE555.out) | exact HB.out)) hb); clear HO560; clear HO563; clear HO567; clear BK555; clear HB; have HO560 := n0_; have HO563 := n1_; have HO567 := n2_; have HO570 := n3_; have BK555 := n4_; have HB := n5_; clear n0_ n1_ n2_ n3_ n4_ n5_; (try clear hb); (try clear hb2); (try clear hk); (try clear hi); (try clear ho0); have hcz59_0 : w57.cell? ⟨gb555, 0, none⟩ = some (.slice A1_0 l1_0.length c1_0) := (blk_cell BK555.out 0).trans rfl; have hcz59_1 : w57.cell? ⟨gb555, 1, none⟩ = some (.bool a1_1) := (blk_cell BK555.out 1).trans rfl; have hfz59_0 := blk_frozen BK555.out 0; have hfz59_1 := blk_frozen BK555.out 1) | ((with_reducible refine gate_callee (f := 23) rfl ?_); refine goesL_ (some 32) rfl rfl Try.func23 (by kernel_rfl) rfl #[.agg #[.slice A1_0 l1_0.length c1_0, .bool a1_1]] rfl (by (try simp only [List.map_toArray, List.map_cons, List.map_nil]); first | done | rfl | (simp only [List.length_drop, List.length_take]; rfl)) ?_; (with_reducible refine (laws_toSub.calls k _ _ l1_0 a1_1 t571 t574 _ ?side1 ?side2 A17.out).mono ?_); (case side1 => repeat (first | exact (Kd.C_below HR1_0.out HB.out) | (with_reducible refine Kd.C_alloc ?_ _) | (with_reducible refine Kd.C_drewN ?_ _) | (with_reducible refine Kd.C_drew ?_))); (case side2 => exact HC1_0.out); rintro e w60 ⟨v572, rfl, ho0, hb⟩; refine ⟨_, rfl, ?_⟩; obtain ⟨nz61, hz61⟩ := Kd.S_name ho0; have n0_ := Aside0.mk (Kd.S_elder' (Kd.S_ltz hz61 (by (with_reducible repeat (first | apply Kd.S_alloc | apply Kd.S_drewN | apply Kd.S_drew)); exact HO560.out)) (Kd.S_base ho0) hb); have n1_ := Aside0.mk (Kd.S_elder' (Kd.S_ltz hz61 (by (with_reducible repeat (first | apply Kd.S_alloc | apply Kd.S_drewN | apply Kd.S_drew)); exact HO563.out)) (Kd.S_base ho0) hb); have n2_ := Aside0.mk (Kd.S_elder' (Kd.S_ltz hz61 (by (with_reducible repeat (first | apply Kd.S_alloc | apply Kd.S_drewN | apply Kd.S_drew)); exact HO567.out)) (Kd.S_base ho0) hb); have n3_ := Aside0.mk (Kd.S_elder' (Kd.S_ltz hz61 (by (with_reducible repeat (first | apply Kd.S_alloc | apply Kd.S_drewN | apply Kd.S_drew)); exact HO570.out)) (Kd.S_base ho0) hb); have n4_ := Aside0.mk (Kd.S_lower (Kd.S_new' (Kd.S_new' (Kd.S_new' (Kd.S_new' (Kd.S_gez hz61 ho0) (Kd.S_lt (by (with_reducible repeat (first | apply Kd.S_alloc | apply Kd.S_drewN | apply Kd.S_drew)); exact HO560.out))) (Kd.S_lt (by (with_reducible repeat (first | apply Kd.S_alloc | apply Kd.S_drewN | apply Kd.S_drew)); exact HO563.out))) (Kd.S_lt (by (with_reducible repeat (first | apply Kd.S_alloc | apply Kd.S_drewN | apply Kd.S_drew)); exact HO567.out))) (Kd.S_lt (by (with_reducible repeat (first | apply Kd.S_alloc | apply Kd.S_drewN | apply Kd.S_drew)); exact HO570.out))) (below_size (by repeat (first | (with_reducible first | exact HB.out | apply below_alloc | apply pw_below_drewN | apply below_drew1 | refine below_set ?_ GE555.out) | exact HB.out)))); have n5_ := Aside0.mk (blk_below (g := gb555) (o := .cells #[.slice A1_0 l1_0.length c1_0, .bool a1_1] 31 (0, 0)) (by (with_reducible repeat (first | refine blk_drewN ?_ _ | refine blk_drew ?_ | refine blk_alloc ?_ _)); exact BK555.out) hb); have n6_ := Aside0.mk (below_step (by repeat (first | (with_reducible first | exact HB.out | apply below_alloc | apply pw_below_drewN | apply below_drew1 | refine below_set ?_ GE555.out) | exact HB.out)) hb); clear HO560; clear HO563; clear HO567; clear HO570; clear BK555; clear HB; have HO560 := n0_; have HO563 := n1_; have HO567 := n2_; have HO570 := n3_; have HO573 := n4_; have BK555 := n5_; have HB := n6_; clear n0_ n1_ n2_ n3_ n4_ n5_ n6_; (try clear hb); (try clear hb2); (try clear hk); (try clear hi); (try clear ho0)) | ((with_reducible refine gate_dst (N := 8) rfl ?_); refine box_event ?hg (N := 8) ?hd (cs := #[.slice none 0 0, .bool false]) (t := 39) ?hr ?_; (case hd => rfl); (case hg => rfl); (case hr => first | (go_simp; done) | (go_simp; rfl)); intro gb575 hg w62 hbox hb; have n0_ := Aside0.mk (Kd.S_below (by (with_reducible repeat (first | apply Kd.S_alloc | apply Kd.S_drewN | apply Kd.S_drew)); exact HO560.out) hb); have n1_ := Aside0.mk (Kd.S_below (by (with_reducible repeat (first | apply Kd.S_alloc | apply Kd.S_drewN | apply Kd.S_drew)); exact HO563.out) hb); have n2_ := Aside0.mk (Kd.S_below (by (with_reducible repeat (first | apply Kd.S_alloc | apply Kd.S_drewN | apply Kd.S_drew)); exact HO567.out) hb); have n3_ := Aside0.mk (Kd.S_below (by (with_reducible repeat (first | apply Kd.S_alloc | apply Kd.S_drewN | apply Kd.S_drew)); exact HO570.out) hb); have n4_ := Aside0.mk (Kd.S_below (by (with_reducible repeat (first | apply Kd.S_alloc | apply Kd.S_drewN | apply Kd.S_drew)); exact HO573.out) hb); have n5_ := Aside0.mk (blk_below (g := gb555) (o := .cells #[.slice A1_0 l1_0.length c1_0, .bool a1_1] 31 (0, 0)) (by (with_reducible repeat (first | refine blk_drewN ?_ _ | refine blk_drew ?_ | refine blk_alloc ?_ _)); exact BK555.out) hb); have n6_ := Aside0.mk (below_step (by repeat (first | (with_reducible first | exact HB.out | apply below_alloc | apply pw_below_drewN | apply below_drew1 | refine below_set ?_ GE555.out) | exact HB.out)) hb); have n7_ := Aside0.mk (hbox); have n8_ := Aside0.mk ((by rw [hg]; exact (below_size (by repeat (first | (with_reducible first | exact HB.out | apply below_alloc | apply pw_below_drewN | apply below_drew1 | refine below_set ?_ GE555.out) | exact HB.out))) : w.heap.size ≤ gb575)); have n9_ := Aside0.mk ((by rw [hg]; exact (below_size (by repeat (first | (with_reducible first | exact HB.out | apply below_alloc | apply pw_below_drewN | apply below_drew1 | refine below_set ?_ GE555.out) | exact HB.out))) : w.heap.size ≤ gb575)); have n10_ := Aside0.mk ((by rw [hg]; exact Nat.ne_of_lt (blk_lt (g := gb555) (o := .cells #[.slice A1_0 l1_0.length c1_0, .bool a1_1] 31 (0, 0)) (by (with_reducible repeat (first | refine blk_drewN ?_ _ | refine blk_drew ?_ | refine blk_alloc ?_ _)); exact BK555.out)) : gb555 ≠ gb575)); have n11_ := Aside0.mk ((by rw [hg]; exact Nat.ne_of_gt (blk_lt (g := gb555) (o := .cells #[.slice A1_0 l1_0.length c1_0, .bool a1_1] 31 (0, 0)) (by (with_reducible repeat (first | refine blk_drewN ?_ _ | refine blk_drew ?_ | refine blk_alloc ?_ _)); exact BK555.out)) : gb575 ≠ gb555)); clear HO560; clear HO563; clear HO567; clear HO570; clear HO573; clear BK555; clear HB; have HO560 := n0_; have HO563 := n1_; have HO567 := n2_; have HO570 := n3_; have HO573 := n4_; have BK555 := n5_; have HB := n6_; have BK575 := n7_; have GW575 := n8_; have GE575 := n9_; have NB555_575 := n10_; have NB575_555 := n11_; clear n0_ n1_ n2_ n3_ n4_ n5_ n6_ n7_ n8_ n9_ n10_ n11_; clear hb hbox hg; obtain ⟨Ao63, co63, eo63⟩ := Kd.S_slice HO573.out; subst eo63; have hnb64 := NB575_555.out; have hnc64 := NB555_575.out; have hcz65_0 : w62.cell? ⟨gb575, 0, none⟩ = some (.slice none 0 0) := (blk_cell BK575.out 0).trans rfl; have hcz65_1 : w62.cell? ⟨gb575, 1, none⟩ = some (.bool false) := (blk_cell BK575.out 1).trans rfl; have hfz65_0 := blk_frozen BK575.out 0; have hfz65_1 := blk_frozen BK575.out 1; obtain ⟨Ao66, co66, eo66⟩ := Kd.S_slice HO570.out; subst eo66) | ((with_reducible refine gate_callee (f := 37) rfl ?_); refine goesL_ (some 35) rfl rfl Try.func37 (by kernel_rfl) rfl #[.slice Ao66 t568.length co66, .agg #[.slice Ao63 t571.length co63, .bool t574]] rfl (by (try simp only [List.map_toArray, List.map_cons, List.map_nil]); first | done | rfl | (simp only [List.length_drop, List.length_take]; rfl)) ?_; (with_reducible refine (impl_Heard.calls k _ _ t568 _ _ t571 t574 t576 _ ?side1 ?side2 ?side3 ?side4 A18.out).mono ?_); (case side1 => refine (Kd.S_reads' (e := 44) (base := w.heap.size) (ok := fun k_ => ((((((True ∧ nz58 ≤ k_) ∧ some k_ ≠ (.slice Ao53 t558.length co53 : Value).ownBlock) ∧ some k_ ≠ (.slice Ao54 t561.length co54 : Value).ownBlock) ∧ some k_ ≠ (v566 : Value).ownBlock) ∧ k_ < nz61) ∧ some k_ ≠ (.slice Ao63 t571.length co63 : Value).ownBlock)) (n := t568.length) (c := co66) ?_).2.2; exact (by (with_reducible repeat (first | apply Kd.S_alloc | apply Kd.S_drewN | apply Kd.S_drew)); exact (Kd.S_mono (Kd.S_far (p := ⟨gb575, 1, none⟩) (Kd.S_far (p := ⟨gb575, 0, none⟩) (Kd.S_types HO570.out BK575.out (by decide)) (fun _ hk => hk.2) (.slice Ao63 t571.length co63)) (fun _ hk => hk.2) (.bool t574)) (fun _ h_ => h_.1)))); (case side2 => exact (Kd.S_reads' HO570.out).2.1); (case side3 => refine (Kd.S_reads' (e := 44) (base := w.heap.size) (ok := fun k_ => (((((True ∧ nz61 ≤ k_) ∧ some k_ ≠ (.slice Ao53 t558.length co53 : Value).ownBlock) ∧ some k_ ≠ (.slice Ao54 t561.length co54 : Value).ownBlock) ∧ some k_ ≠ (v566 : Value).ownBlock) ∧ some k_ ≠ (.slice Ao66 t568.length co66 : Value).ownBlock)) (n := t571.length) (c := co63) ?_).2.2; exact (by (with_reducible repeat (first | apply Kd.S_alloc | apply Kd.S_drewN | apply Kd.S_drew)); exact (Kd.S_mono (Kd.S_far (p := ⟨gb575, 1, none⟩) (Kd.S_far (p := ⟨gb575, 0, none⟩) (Kd.S_types HO573.out BK575.out (by decide)) (fun _ hk => hk.2) (.slice Ao63 t571.length co63)) (fun _ hk => hk.2) (.bool t574)) (fun _ h_ => h_.1)))); (case side4 => exact (Kd.S_reads' HO573.out).2.1); rintro e w67 ⟨v577, rfl, ho0, hb⟩; refine ⟨_, rfl, ?_⟩; obtain ⟨nz68, hz68⟩ := Kd.S_name ho0; have n0_ := Aside0.mk (Kd.S_elder' (Kd.S_ltz hz68 (by (with_reducible repeat (first | apply Kd.S_alloc | apply Kd.S_drewN | apply Kd.S_drew)); exact (Kd.S_mono (Kd.S_far (p := ⟨gb575, 1, none⟩) (Kd.S_far (p := ⟨gb575, 0, none⟩) (Kd.S_types HO560.out BK575.out (by decide)) (fun _ hk => hk.2) (.slice Ao63 t571.length co63)) (fun _ hk => hk.2) (.bool t574)) (fun _ h_ => h_.1)))) (Kd.S_base ho0) hb); have n1_ := Aside0.mk (Kd.S_elder' (Kd.S_ltz hz68 (by (with_reducible repeat (first | apply Kd.S_alloc | apply Kd.S_drewN | apply Kd.S_drew)); exact (Kd.S_mono (Kd.S_far (p := ⟨gb575, 1, none⟩) (Kd.S_far (p := ⟨gb575, 0, none⟩) (Kd.S_types HO563.out BK575.out (by decide)) (fun _ hk => hk.2) (.slice Ao63 t571.length co63)) (fun _ hk => hk.2) (.bool t574)) (fun _ h_ => h_.1)))) (Kd.S_base ho0) hb); have n2_ := Aside0.mk (Kd.S_elder' (Kd.S_ltz hz68 (by (with_reducible repeat (first | apply Kd.S_alloc | apply Kd.S_drewN | apply Kd.S_drew)); exact (Kd.S_mono (Kd.S_far (p := ⟨gb575, 1, none⟩) (Kd.S_far (p := ⟨gb575, 0, none⟩) (Kd.S_types HO567.out BK575.out (by decide)) (fun _ hk => hk.2) (.slice Ao63 t571.length co63)) (fun _ hk => hk.2) (.bool t574)) (fun _ h_ => h_.1)))) (Kd.S_base ho0) hb); have n3_ := Aside0.mk (Kd.S_elder' (Kd.S_ltz hz68 (by (with_reducible repeat (first | apply Kd.S_alloc | apply Kd.S_drewN | apply Kd.S_drew)); exact (Kd.S_mono (Kd.S_far (p := ⟨gb575, 1, none⟩) (Kd.S_far (p := ⟨gb575, 0, none⟩) (Kd.S_types HO570.out BK575.out (by decide)) (fun _ hk => hk.2) (.slice Ao63 t571.length co63)) (fun _ hk => hk.2) (.bool t574)) (fun _ h_ => h_.1)))) (Kd.S_base ho0) hb); have n4_ := Aside0.mk (Kd.S_elder' (Kd.S_ltz hz68 (by (with_reducible repeat (first | apply Kd.S_alloc | apply Kd.S_drewN | apply Kd.S_drew)); exact (Kd.S_mono (Kd.S_far (p := ⟨gb575, 1, none⟩) (Kd.S_far (p := ⟨gb575, 0, none⟩) (Kd.S_types HO573.out BK575.out (by decide)) (fun _ hk => hk.2) (.slice Ao63 t571.length co63)) (fun _ hk => hk.2) (.bool t574)) (fun _ h_ => h_.1)))) (Kd.S_base ho0) hb); have n5_ := Aside0.mk (Kd.S_lower (Kd.S_new' (Kd.S_new' (Kd.S_new' (Kd.S_new' (Kd.S_new' (Kd.S_gez hz68 ho0) (Kd.S_lt (by (with_reducible repeat (first | apply Kd.S_alloc | apply Kd.S_drewN | apply Kd.S_drew)); exact (Kd.S_mono (Kd.S_far (p := ⟨gb575, 1, none⟩) (Kd.S_far (p := ⟨gb575, 0, none⟩) (Kd.S_types HO560.out BK575.out (by decide)) (fun _ hk => hk.2) (.slice Ao63 t571.length co63)) (fun _ hk => hk.2) (.bool t574)) (fun _ h_ => h_.1))))) (Kd.S_lt (by (with_reducible repeat (first | apply Kd.S_alloc | apply Kd.S_drewN | apply Kd.S_drew)); exact (Kd.S_mono (Kd.S_far (p := ⟨gb575, 1, none⟩) (Kd.S_far (p := ⟨gb575, 0, none⟩) (Kd.S_types HO563.out BK575.out (by decide)) (fun _ hk => hk.2) (.slice Ao63 t571.length co63)) (fun _ hk => hk.2) (.bool t574)) (fun _ h_ => h_.1))))) (Kd.S_lt (by (with_reducible repeat (first | apply Kd.S_alloc | apply Kd.S_drewN | apply Kd.S_drew)); exact (Kd.S_mono (Kd.S_far (p := ⟨gb575, 1, none⟩) (Kd.S_far (p := ⟨gb575, 0, none⟩) (Kd.S_types HO567.out BK575.out (by decide)) (fun _ hk => hk.2) (.slice Ao63 t571.length co63)) (fun _ hk => hk.2) (.bool t574)) (fun _ h_ => h_.1))))) (Kd.S_lt (by (with_reducible repeat (first | apply Kd.S_alloc | apply Kd.S_drewN | apply Kd.S_drew)); exact (Kd.S_mono (Kd.S_far (p := ⟨gb575, 1, none⟩) (Kd.S_far (p := ⟨gb575, 0, none⟩) (Kd.S_types HO570.out BK575.out (by decide)) (fun _ hk => hk.2) (.slice Ao63 t571.length co63)) (fun _ hk => hk.2) (.bool t574)) (fun _ h_ => h_.1))))) (Kd.S_lt (by (with_reducible repeat (first | apply Kd.S_alloc | apply Kd.S_drewN | apply Kd.S_drew)); exact (Kd.S_mono (Kd.S_far (p := ⟨gb575, 1, none⟩) (Kd.S_far (p := ⟨gb575, 0, none⟩) (Kd.S_types HO573.out BK575.out (by decide)) (fun _ hk => hk.2) (.slice Ao63 t571.length co63)) (fun _ hk => hk.2) (.bool t574)) (fun _ h_ => h_.1))))) (below_size (by repeat (first | (with_reducible first | exact HB.out | apply below_alloc | apply pw_below_drewN | apply below_drew1 | refine below_set ?_ GE555.out | refine below_set ?_ GE575.out) | exact HB.out)))); have n6_ := Aside0.mk (blk_below (g := gb555) (o := .cells #[.slice A1_0 l1_0.length c1_0, .bool a1_1] 31 (0, 0)) (by (with_reducible repeat (first | refine blk_drewN ?_ _ | refine blk_drew ?_ | refine blk_alloc ?_ _)); refine blk_far ?_ NB555_575.out _; (with_reducible repeat (first | refine blk_drewN ?_ _ | refine blk_drew ?_ | refine blk_alloc ?_ _)); refine blk_far ?_ NB555_575.out _; (with_reducible repeat (first | refine blk_drewN ?_ _ | refine blk_drew ?_ | refine blk_alloc ?_ _)); exact BK555.out) hb); have n7_ := Aside0.mk (blk_below (g := gb575) (o := .cells #[.slice Ao63 t571.length co63, .bool t574] 39 (0, 0)) (by (with_reducible repeat (first | refine blk_drewN ?_ _ | refine blk_drew ?_ | refine blk_alloc ?_ _)); refine blk_put (cs := #[.slice Ao63 t571.length co63, .bool false]) ?_ 1 _ rfl; (with_reducible repeat (first | refine blk_drewN ?_ _ | refine blk_drew ?_ | refine blk_alloc ?_ _)); refine blk_put (cs := #[.slice none 0 0, .bool false]) ?_ 0 _ rfl; (with_reducible repeat (first | refine blk_drewN ?_ _ | refine blk_drew ?_ | refine blk_alloc ?_ _)); exact BK575.out) hb); have n8_ := Aside0.mk (below_step (by repeat (first | (with_reducible first | exact HB.out | apply below_alloc | apply pw_below_drewN | apply below_drew1 | refine below_set ?_ GE555.out | refine below_set ?_ GE575.out) | exact HB.out)) hb); clear HO560; clear HO563; clear HO567; clear HO570; clear HO573; clear BK555; clear BK575; clear HB; have HO560 := n0_; have HO563 := n1_; have HO567 := n2_; have HO570 := n3_; have HO573 := n4_; have HO578 := n5_; have BK555 := n6_; have BK575 := n7_; have HB := n8_; clear n0_ n1_ n2_ n3_ n4_ n5_ n6_ n7_ n8_; (try clear hb); (try clear hb2); (try clear hk); (try clear hi); (try clear ho0); obtain ⟨Ao69, co69, eo69⟩ := Kd.S_slice HO578.out; subst eo69; obtain ⟨Ao70, co70, eo70⟩ := Kd.S_slice HO567.out; subst eo70) | ((with_reducible refine gate_callee (f := 38) rfl ?_); refine goesL_ (some 38) rfl rfl Try.func38 (by kernel_rfl) rfl #[.slice Ao69 t576.length co69, .slice Ao70 t565.length co70] rfl (by (try simp only [List.map_toArray, List.map_cons, List.map_nil]); first | done | rfl | (simp only [List.length_drop, List.length_take]; rfl)) ?_; (with_reducible refine (laws_eqAlarmS.calls k _ _ t576 _ _ t565 true _ ?side1 ?side2 ?side3 ?side4 A19.out).mono ?_); (case side1 => repeat (first | exact (Kd.S_reads' HO578.out).2.2 | (with_reducible refine Kd.C_alloc ?_ _) | (with_reducible refine Kd.C_drewN ?_ _) | (with_reducible refine Kd.C_drew ?_))); (case side2 => exact (Kd.S_reads' HO578.out).2.1); (case side3 => repeat (first | exact (Kd.S_reads' HO567.out).2.2 | (with_reducible refine Kd.C_alloc ?_ _) | (with_reducible refine Kd.C_drewN ?_ _) | (with_reducible refine Kd.C_drew ?_))); (case side4 => exact (Kd.S_reads' HO567.out).2.1); rintro e w71 ⟨rfl, hb⟩; refine ⟨_, rfl, ?_⟩; have n0_ := Aside0.mk (Kd.S_below (by (with_reducible repeat (first | apply Kd.S_alloc | apply Kd.S_drewN | apply Kd.S_drew)); exact HO560.out) hb); have n1_ := Aside0.mk (Kd.S_below (by (with_reducible repeat (first | apply Kd.S_alloc | apply Kd.S_drewN | apply Kd.S_drew)); exact HO563.out) hb); have n2_ := Aside0.mk (Kd.S_below (by (with_reducible repeat (first | apply Kd.S_alloc | apply Kd.S_drewN | apply Kd.S_drew)); exact HO567.out) hb); have n3_ := Aside0.mk (Kd.S_below (by (with_reducible repeat (first | apply Kd.S_alloc | apply Kd.S_drewN | apply Kd.S_drew)); exact HO570.out) hb); have n4_ := Aside0.mk (Kd.S_below (by (with_reducible repeat (first | apply Kd.S_alloc | apply Kd.S_drewN | apply Kd.S_drew)); exact HO573.out) hb); have n5_ := Aside0.mk (Kd.S_below (by (with_reducible repeat (first | apply Kd.S_alloc | apply Kd.S_drewN | apply Kd.S_drew)); exact HO578.out) hb); have n6_ := Aside0.mk (blk_below (g := gb555) (o := .cells #[.slice A1_0 l1_0.length c1_0, .bool a1_1] 31 (0, 0)) (by (with_reducible repeat (first | refine blk_drewN ?_ _ | refine blk_drew ?_ | refine blk_alloc ?_ _)); exact BK555.out) hb); have n7_ := Aside0.mk (blk_below (g := gb575) (o := .cells #[.slice Ao63 t571.length co63, .bool t574] 39 (0, 0)) (by (with_reducible repeat (first | refine blk_drewN ?_ _ | refine blk_drew ?_ | refine blk_alloc ?_ _)); exact BK575.out) hb); have n8_ := Aside0.mk (below_step (by repeat (first | (with_reducible first | exact HB.out | apply below_alloc | apply pw_below_drewN | apply below_drew1 | refine below_set ?_ GE555.out | refine below_set ?_ GE575.out) | exact HB.out)) hb); clear HO560; clear HO563; clear HO567; clear HO570; clear HO573; clear HO578; clear BK555; clear BK575; clear HB; have HO560 := n0_; have HO563 := n1_; have HO567 := n2_; have HO570 := n3_; have HO573 := n4_; have HO578 := n5_; have BK555 := n6_; have BK575 := n7_; have HB := n8_; clear n0_ n1_ n2_ n3_ n4_ n5_ n6_ n7_ n8_; (try clear hb); (try clear hb2); (try clear hk); (try clear hi)) | ((with_reducible refine gate_callee (f := 36) rfl ?_); refine goesL_ (some 42) rfl rfl Try.func36 (by kernel_rfl) rfl #[.slice A0 l0.length c0] rfl (by (try simp only [List.map_toArray, List.map_cons, List.map_nil]); first | done | rfl | (simp only [List.length_drop, List.length_take]; rfl)) ?_; (with_reducible refine (laws_toAlarmS.calls k _ _ l0 t580 _ ?side1 ?side2 A21.out).mono ?_); (case side1 => repeat (first | exact (Kd.C_below HR0.out HB.out) | (with_reducible refine Kd.C_alloc ?_ _) | (with_reducible refine Kd.C_drewN ?_ _) | (with_reducible refine Kd.C_drew ?_))); (case side2 => exact HC0.out); rintro e w72 ⟨v581, rfl, ho0, hb⟩; refine ⟨_, rfl, ?_⟩; obtain ⟨nz73, hz73⟩ := Kd.S_name ho0; have n0_ := Aside0.mk (Kd.S_elder' (Kd.S_ltz hz73 (by (with_reducible repeat (first | apply Kd.S_alloc | apply Kd.S_drewN | apply Kd.S_drew)); exact HO560.out)) (Kd.S_base ho0) hb); have n1_ := Aside0.mk (Kd.S_elder' (Kd.S_ltz hz73 (by (with_reducible repeat (first | apply Kd.S_alloc | apply Kd.S_drewN | apply Kd.S_drew)); exact HO563.out)) (Kd.S_base ho0) hb); have n2_ := Aside0.mk (Kd.S_elder' (Kd.S_ltz hz73 (by (with_reducible repeat (first | apply Kd.S_alloc | apply Kd.S_drewN | apply Kd.S_drew)); exact HO567.out)) (Kd.S_base ho0) hb); have n3_ := Aside0.mk (Kd.S_elder' (Kd.S_ltz hz73 (by (with_reducible repeat (first | apply Kd.S_alloc | apply Kd.S_drewN | apply Kd.S_drew)); exact HO570.out)) (Kd.S_base ho0) hb); have n4_ := Aside0.mk (Kd.S_elder' (Kd.S_ltz hz73 (by (with_reducible repeat (first | apply Kd.S_alloc | apply Kd.S_drewN | apply Kd.S_drew)); exact HO573.out)) (Kd.S_base ho0) hb); have n5_ := Aside0.mk (Kd.S_elder' (Kd.S_ltz hz73 (by (with_reducible repeat (first | apply Kd.S_alloc | apply Kd.S_drewN | apply Kd.S_drew)); exact HO578.out)) (Kd.S_base ho0) hb); have n6_ := Aside0.mk (Kd.S_lower (Kd.S_new' (Kd.S_new' (Kd.S_new' (Kd.S_new' (Kd.S_new' (Kd.S_new' (Kd.S_gez hz73 ho0) (Kd.S_lt (by (with_reducible repeat (first | apply Kd.S_alloc | apply Kd.S_drewN | apply Kd.S_drew)); exact HO560.out))) (Kd.S_lt (by (with_reducible repeat (first | apply Kd.S_alloc | apply Kd.S_drewN | apply Kd.S_drew)); exact HO563.out))) (Kd.S_lt (by (with_reducible repeat (first | apply Kd.S_alloc | apply Kd.S_drewN | apply Kd.S_drew)); exact HO567.out))) (Kd.S_lt (by (with_reducible repeat (first | apply Kd.S_alloc | apply Kd.S_drewN | apply Kd.S_drew)); exact HO570.out))) (Kd.S_lt (by (with_reducible repeat (first | apply Kd.S_alloc | apply Kd.S_drewN | apply Kd.S_drew)); exact HO573.out))) (Kd.S_lt (by (with_reducible repeat (first | apply Kd.S_alloc | apply Kd.S_drewN | apply Kd.S_drew)); exact HO578.out))) (below_size (by repeat (first | (with_reducible first | exact HB.out | apply below_alloc | apply pw_below_drewN | apply below_drew1 | refine below_set ?_ GE555.out | refine below_set ?_ GE575.out) | exact HB.out)))); have n7_ := Aside0.mk (blk_below (g := gb555) (o := .cells #[.slice A1_0 l1_0.length c1_0, .bool a1_1] 31 (0, 0)) (by (with_reducible repeat (first | refine blk_drewN ?_ _ | refine blk_drew ?_ | refine blk_alloc ?_ _)); exact BK555.out) hb); have n8_ := Aside0.mk (blk_below (g := gb575) (o := .cells #[.slice Ao63 t571.length co63, .bool t574] 39 (0, 0)) (by (with_reducible repeat (first | refine blk_drewN ?_ _ | refine blk_drew ?_ | refine blk_alloc ?_ _)); exact BK575.out) hb); have n9_ := Aside0.mk (below_step (by repeat (first | (with_reducible first | exact HB.out | apply below_alloc | apply pw_below_drewN | apply below_drew1 | refine below_set ?_ GE555.out | refine below_set ?_ GE575.out) | exact HB.out)) hb); clear HO560; clear HO563; clear HO567; clear HO570; clear HO573; clear HO578; clear BK555; clear BK575; clear HB; have HO560 := n0_; have HO563 := n1_; have HO567 := n2_; have HO570 := n3_; have HO573 := n4_; have HO578 := n5_; have HO582 := n6_; have BK555 := n7_; have BK575 := n8_; have HB := n9_; clear n0_ n1_ n2_ n3_ n4_ n5_ n6_ n7_ n8_ n9_; (try clear hb); (try clear hb2); (try clear hk); (try clear hi); (try clear ho0); obtain ⟨Ao74, co74, eo74⟩ := Kd.S_slice HO582.out; subst eo74) | ((with_reducible refine gate_callee (f := 38) rfl ?_); refine goesL_ (some 43) rfl rfl Try.func38 (by kernel_rfl) rfl #[.slice Ao66 t568.length co66, .slice Ao74 t580.length co74] rfl (by (try simp only [List.map_toArray, List.map_cons, List.map_nil]); first | done | rfl | (simp only [List.length_drop, List.length_take]; rfl)) ?_; (with_reducible refine (laws_eqAlarmS.calls k _ _ t568 _ _ t580 true _ ?side1 ?side2 ?side3 ?side4 A22.out).mono ?_); (case side1 => repeat (first | exact (Kd.S_reads' HO570.out).2.2 | (with_reducible refine Kd.C_alloc ?_ _) | (with_reducible refine Kd.C_drewN ?_ _) | (with_reducible refine Kd.C_drew ?_))); (case side2 => exact (Kd.S_reads' HO570.out).2.1); (case side3 => repeat (first | exact (Kd.S_reads' HO582.out).2.2 | (with_reducible refine Kd.C_alloc ?_ _) | (with_reducible refine Kd.C_drewN ?_ _) | (with_reducible refine Kd.C_drew ?_))); (case side4 => exact (Kd.S_reads' HO582.out).2.1); rintro e w75 ⟨rfl, hb⟩; refine ⟨_, rfl, ?_⟩; have n0_ := Aside0.mk (Kd.S_below (by (with_reducible repeat (first | apply Kd.S_alloc | apply Kd.S_drewN | apply Kd.S_drew)); exact HO560.out) hb); have n1_ := Aside0.mk (Kd.S_below (by (with_reducible repeat (first | apply Kd.S_alloc | apply Kd.S_drewN | apply Kd.S_drew)); exact HO563.out) hb); have n2_ := Aside0.mk (Kd.S_below (by (with_reducible repeat (first | apply Kd.S_alloc | apply Kd.S_drewN | apply Kd.S_drew)); exact HO567.out) hb); have n3_ := Aside0.mk (Kd.S_below (by (with_reducible repeat (first | apply Kd.S_alloc | apply Kd.S_drewN | apply Kd.S_drew)); exact HO570.out) hb); have n4_ := Aside0.mk (Kd.S_below (by (with_reducible repeat (first | apply Kd.S_alloc | apply Kd.S_drewN | apply Kd.S_drew)); exact HO573.out) hb); have n5_ := Aside0.mk (Kd.S_below (by (with_reducible repeat (first | apply Kd.S_alloc | apply Kd.S_drewN | apply Kd.S_drew)); exact HO578.out) hb); have n6_ := Aside0.mk (Kd.S_below (by (with_reducible repeat (first | apply Kd.S_alloc | apply Kd.S_drewN | apply Kd.S_drew)); exact HO582.out) hb); have n7_ := Aside0.mk (blk_below (g := gb555) (o := .cells #[.slice A1_0 l1_0.length c1_0, .bool a1_1] 31 (0, 0)) (by (with_reducible repeat (first | refine blk_drewN ?_ _ | refine blk_drew ?_ | refine blk_alloc ?_ _)); exact BK555.out) hb); have n8_ := Aside0.mk (blk_below (g := gb575) (o := .cells #[.slice Ao63 t571.length co63, .bool t574] 39 (0, 0)) (by (with_reducible repeat (first | refine blk_drewN ?_ _ | refine blk_drew ?_ | refine blk_alloc ?_ _)); exact BK575.out) hb); have n9_ := Aside0.mk (below_step (by repeat (first | (with_reducible first | exact HB.out | apply below_alloc | apply pw_below_drewN | apply below_drew1 | refine below_set ?_ GE555.out | refine below_set ?_ GE575.out) | exact HB.out)) hb); clear HO560; clear HO563; clear HO567; clear HO570; clear HO573; clear HO578; clear HO582; clear BK555; clear BK575; clear HB; have HO560 := n0_; have HO563 := n1_; have HO567 := n2_; have HO570 := n3_; have HO573 := n4_; have HO578 := n5_; have HO582 := n6_; have BK555 := n7_; have BK575 := n8_; have HB := n9_; clear n0_ n1_ n2_ n3_ n4_ n5_ n6_ n7_ n8_ n9_; (try clear hb); (try clear hb2); (try clear hk); (try clear hi)))
             have n0_ := Aside0.mk (Kd.S_drew HO560.out)
             have n1_ := Aside0.mk (Kd.S_drew HO563.out)
             have n2_ := Aside0.mk (Kd.S_drew HO567.out)
             have n3_ := Aside0.mk (Kd.S_drew HO570.out)
             have n4_ := Aside0.mk (Kd.S_drew HO573.out)
             have n5_ := Aside0.mk (Kd.S_drew HO578.out)
             have n6_ := Aside0.mk (Kd.S_drew HO582.out)
             have n7_ := Aside0.mk (blk_drew BK555.out)
             have n8_ := Aside0.mk (blk_drew BK575.out)
             have n9_ := Aside0.mk (below_drew1 HB.out)
             clear HO560
             clear HO563
             clear HO567
             clear HO570
             clear HO573
             clear HO578
             clear HO582
             clear BK555
             clear BK575
             clear HB
             have HO560 := n0_
             have HO563 := n1_
             have HO567 := n2_
             have HO570 := n3_
             have HO573 := n4_
             have HO578 := n5_
             have HO582 := n6_
             have BK555 := n7_
             have BK575 := n8_
             have HB := n9_
             clear n0_ n1_ n2_ n3_ n4_ n5_ n6_ n7_ n8_ n9_
             refine start_ (n := 5) (S := fun w' => w'.cell? ⟨gb575, 0, none⟩ = some (.slice Ao63 t571.length co63) ∧ w'.cell? ⟨gb575, 1, none⟩ = some (.bool t574) ∧ w'.cell? ⟨gb555, 0, none⟩ = some (.slice A1_0 l1_0.length c1_0) ∧ w'.cell? ⟨gb555, 1, none⟩ = some (.bool a1_1)) (ds := []) #[false, false, false, false, false] (by kernel_rfl) rfl rfl ⟨(blk_cell BK575.out 0).trans rfl, (blk_cell BK575.out 1).trans rfl, (blk_cell BK555.out 0).trans rfl, (blk_cell BK555.out 1).trans rfl⟩ (fun hHeld => ?_)
             generalize w75.drew = w76 at HO560 HO563 HO567 HO570 HO573 HO578 HO582 BK555 BK575 HB hHeld ⊢
             refine take_ (i := 0) (N := some 45) (v := ?_) (a' := ?_) #[true, false, false, false, false] rfl rfl (by kernel_rfl) (fun _ _ _ h => h) (Or.inl ⟨by rfl, ?_⟩) hHeld ?_ ?_
             rotate_left
             ·
              rintro w' ⟨s0, s1, s2, s3⟩
              go_simp
              with_reducible rfl
             rotate_left
             ·
              simp only [Act.put, List.setIfInBounds_toArray, List.set_cons_zero, List.set_cons_succ, i64_w, i32_w]
              rfl
             refine take_ (i := 1) (N := some 46) (v := ?_) (a' := ?_) #[true, true, false, false, false] rfl rfl (by kernel_rfl) (fun _ _ _ h => h) (Or.inl ⟨by rfl, ?_⟩) hHeld ?_ ?_
             rotate_left
             ·
              rintro w' ⟨s0, s1, s2, s3⟩
              go_simp
              with_reducible rfl
             rotate_left
             ·
              simp only [Act.put, List.setIfInBounds_toArray, List.set_cons_zero, List.set_cons_succ, i64_w, i32_w]
              rfl
             refine one_ (i := 2) (N := some 47) #[true, true, true, false, false] rfl rfl (by kernel_rfl) (by decide) (fun K hK => ?_)
             refine goes_ Try.func23 (by kernel_rfl) rfl #[.agg #[.slice A1_0 l1_0.length c1_0, .bool a1_1]] (by rfl) rfl rfl (by (try simp only [List.map_toArray, List.map_cons, List.map_nil]); first | done | rfl | (simp only [List.length_drop, List.length_take]; rfl)) ?_
             with_reducible refine (laws_toSub.calls k _ _ l1_0 a1_1 t584 t587 _ ?side1 ?side2 A24.out).mono ?_
             (case side1 => repeat (first | exact (Kd.C_below HR1_0.out HB.out) | (with_reducible refine Kd.C_alloc ?_ _) | (with_reducible refine Kd.C_drewN ?_ _) | (with_reducible refine Kd.C_drew ?_)))
             (case side2 => exact HC1_0.out)
             rintro e w77 ⟨v585, rfl, ho0, hb⟩
             refine ⟨_, rfl, ?_⟩
             obtain ⟨nz78, hz78⟩ := Kd.S_name ho0
             have n0_ := Aside0.mk (Kd.S_elder' (Kd.S_ltz hz78 (by (with_reducible repeat (first | apply Kd.S_alloc | apply Kd.S_drewN | apply Kd.S_drew)); exact HO560.out)) (Kd.S_base ho0) hb)
             have n1_ := Aside0.mk (Kd.S_elder' (Kd.S_ltz hz78 (by (with_reducible repeat (first | apply Kd.S_alloc | apply Kd.S_drewN | apply Kd.S_drew)); exact HO563.out)) (Kd.S_base ho0) hb)
             have n2_ := Aside0.mk (Kd.S_elder' (Kd.S_ltz hz78 (by (with_reducible repeat (first | apply Kd.S_alloc | apply Kd.S_drewN | apply Kd.S_drew)); exact HO567.out)) (Kd.S_base ho0) hb)
             have n3_ := Aside0.mk (Kd.S_elder' (Kd.S_ltz hz78 (by (with_reducible repeat (first | apply Kd.S_alloc | apply Kd.S_drewN | apply Kd.S_drew)); exact HO570.out)) (Kd.S_base ho0) hb)
             have n4_ := Aside0.mk (Kd.S_elder' (Kd.S_ltz hz78 (by (with_reducible repeat (first | apply Kd.S_alloc | apply Kd.S_drewN | apply Kd.S_drew)); exact HO573.out)) (Kd.S_base ho0) hb)
             have n5_ := Aside0.mk (Kd.S_elder' (Kd.S_ltz hz78 (by (with_reducible repeat (first | apply Kd.S_alloc | apply Kd.S_drewN | apply Kd.S_drew)); exact HO578.out)) (Kd.S_base ho0) hb)
             have n6_ := Aside0.mk (Kd.S_elder' (Kd.S_ltz hz78 (by (with_reducible repeat (first | apply Kd.S_alloc | apply Kd.S_drewN | apply Kd.S_drew)); exact HO582.out)) (Kd.S_base ho0) hb)
             have n7_ := Aside0.mk (Kd.S_lower (Kd.S_new' (Kd.S_new' (Kd.S_new' (Kd.S_new' (Kd.S_new' (Kd.S_new' (Kd.S_new' (Kd.S_gez hz78 ho0) (Kd.S_lt (by (with_reducible repeat (first | apply Kd.S_alloc | apply Kd.S_drewN | apply Kd.S_drew)); exact HO560.out))) (Kd.S_lt (by (with_reducible repeat (first | apply Kd.S_alloc | apply Kd.S_drewN | apply Kd.S_drew)); exact HO563.out))) (Kd.S_lt (by (with_reducible repeat (first | apply Kd.S_alloc | apply Kd.S_drewN | apply Kd.S_drew)); exact HO567.out))) (Kd.S_lt (by (with_reducible repeat (first | apply Kd.S_alloc | apply Kd.S_drewN | apply Kd.S_drew)); exact HO570.out))) (Kd.S_lt (by (with_reducible repeat (first | apply Kd.S_alloc | apply Kd.S_drewN | apply Kd.S_drew)); exact HO573.out))) (Kd.S_lt (by (with_reducible repeat (first | apply Kd.S_alloc | apply Kd.S_drewN | apply Kd.S_drew)); exact HO578.out))) (Kd.S_lt (by (with_reducible repeat (first | apply Kd.S_alloc | apply Kd.S_drewN | apply Kd.S_drew)); exact HO582.out))) (below_size (by repeat (first | (with_reducible first | exact HB.out | apply below_alloc | apply pw_below_drewN | apply below_drew1 | refine below_set ?_ GE555.out | refine below_set ?_ GE575.out) | exact HB.out))))
             have n8_ := Aside0.mk (blk_below (g := gb555) (o := .cells #[.slice A1_0 l1_0.length c1_0, .bool a1_1] 31 (0, 0)) (by (with_reducible repeat (first | refine blk_drewN ?_ _ | refine blk_drew ?_ | refine blk_alloc ?_ _)); exact BK555.out) hb)
             have n9_ := Aside0.mk (blk_below (g := gb575) (o := .cells #[.slice Ao63 t571.length co63, .bool t574] 39 (0, 0)) (by (with_reducible repeat (first | refine blk_drewN ?_ _ | refine blk_drew ?_ | refine blk_alloc ?_ _)); exact BK575.out) hb)
             have n10_ := Aside0.mk (below_step (by repeat (first | (with_reducible first | exact HB.out | apply below_alloc | apply pw_below_drewN | apply below_drew1 | refine below_set ?_ GE555.out | refine below_set ?_ GE575.out) | exact HB.out)) hb)
             clear HO560
             clear HO563
             clear HO567
             clear HO570
             clear HO573
             clear HO578
             clear HO582
             clear BK555
             clear BK575
             clear HB
             have HO560 := n0_
             have HO563 := n1_
             have HO567 := n2_
             have HO570 := n3_
             have HO573 := n4_
             have HO578 := n5_
             have HO582 := n6_
             have HO586 := n7_
             have BK555 := n8_
             have BK575 := n9_
             have HB := n10_
             clear n0_ n1_ n2_ n3_ n4_ n5_ n6_ n7_ n8_ n9_ n10_
             (try clear hb)
             (try clear hb2)
             (try clear hk)
             (try clear hi)
             (try clear ho0)
             obtain ⟨Ao79, co79, eo79⟩ := Kd.S_slice HO586.out
             (first | subst eo79 | (injection eo79 with f1_ f2_ f3_; have f4_ := f1_.symm; have f5_ := f3_.symm; clear f1_ f2_ f3_; subst f4_; subst f5_))
             refine hK.out _ _ ⟨(blk_cell BK575.out 0).trans rfl, (blk_cell BK575.out 1).trans rfl, (blk_cell BK555.out 0).trans rfl, (blk_cell BK555.out 1).trans rfl⟩ (fun hHeld => ?_)
             clear hK K
             refine norm_ (a' := ?_) ?_ ?_
             rotate_left
             ·
              show Act.put _ (some 47) _ = _
              simp only [Act.put, List.setIfInBounds_toArray, List.set_cons_zero, List.set_cons_succ, i64_w, i32_w]
              rfl
             refine one_ (i := 3) (N := some 48) #[true, true, true, true, false] rfl rfl (by kernel_rfl) (by decide) (fun K hK => ?_)
             refine goes_ Try.func26 (by kernel_rfl) rfl #[.agg #[.slice Ao63 t571.length co63, .bool t574], .agg #[.slice Ao79 t584.length co79, .bool t587]] (by rfl) rfl rfl (by (try simp only [List.map_toArray, List.map_cons, List.map_nil]); first | done | rfl | (simp only [List.length_drop, List.length_take]; rfl)) ?_
             with_reducible refine (laws_eqSub.calls k _ _ t571 t574 _ _ t584 t587 true _ ?side1 ?side2 ?side3 ?side4 A25.out).mono ?_
             (case side1 => repeat (first | exact (Kd.S_reads' HO573.out).2.2 | (with_reducible refine Kd.C_alloc ?_ _) | (with_reducible refine Kd.C_drewN ?_ _) | (with_reducible refine Kd.C_drew ?_)))
             (case side2 => exact (Kd.S_reads' HO573.out).2.1)
             (case side3 => repeat (first | exact (Kd.S_reads' HO586.out).2.2 | (with_reducible refine Kd.C_alloc ?_ _) | (with_reducible refine Kd.C_drewN ?_ _) | (with_reducible refine Kd.C_drew ?_)))
             (case side4 => exact (Kd.S_reads' HO586.out).2.1)
             rintro e w80 ⟨rfl, hb⟩
             refine ⟨_, rfl, ?_⟩
             have n0_ := Aside0.mk (Kd.S_below (by (with_reducible repeat (first | apply Kd.S_alloc | apply Kd.S_drewN | apply Kd.S_drew)); exact HO560.out) hb)
             have n1_ := Aside0.mk (Kd.S_below (by (with_reducible repeat (first | apply Kd.S_alloc | apply Kd.S_drewN | apply Kd.S_drew)); exact HO563.out) hb)
             have n2_ := Aside0.mk (Kd.S_below (by (with_reducible repeat (first | apply Kd.S_alloc | apply Kd.S_drewN | apply Kd.S_drew)); exact HO567.out) hb)
             have n3_ := Aside0.mk (Kd.S_below (by (with_reducible repeat (first | apply Kd.S_alloc | apply Kd.S_drewN | apply Kd.S_drew)); exact HO570.out) hb)
             have n4_ := Aside0.mk (Kd.S_below (by (with_reducible repeat (first | apply Kd.S_alloc | apply Kd.S_drewN | apply Kd.S_drew)); exact HO573.out) hb)
             have n5_ := Aside0.mk (Kd.S_below (by (with_reducible repeat (first | apply Kd.S_alloc | apply Kd.S_drewN | apply Kd.S_drew)); exact HO578.out) hb)
             have n6_ := Aside0.mk (Kd.S_below (by (with_reducible repeat (first | apply Kd.S_alloc | apply Kd.S_drewN | apply Kd.S_drew)); exact HO582.out) hb)
             have n7_ := Aside0.mk (Kd.S_below (by (with_reducible repeat (first | apply Kd.S_alloc | apply Kd.S_drewN | apply Kd.S_drew)); exact HO586.out) hb)
             have n8_ := Aside0.mk (blk_below (g := gb555) (o := .cells #[.slice A1_0 l1_0.length c1_0, .bool a1_1] 31 (0, 0)) (by (with_reducible repeat (first | refine blk_drewN ?_ _ | refine blk_drew ?_ | refine blk_alloc ?_ _)); exact BK555.out) hb)
             have n9_ := Aside0.mk (blk_below (g := gb575) (o := .cells #[.slice Ao63 t571.length co63, .bool t574] 39 (0, 0)) (by (with_reducible repeat (first | refine blk_drewN ?_ _ | refine blk_drew ?_ | refine blk_alloc ?_ _)); exact BK575.out) hb)
             have n10_ := Aside0.mk (below_step (by repeat (first | (with_reducible first | exact HB.out | apply below_alloc | apply pw_below_drewN | apply below_drew1 | refine below_set ?_ GE555.out | refine below_set ?_ GE575.out) | exact HB.out)) hb)
             clear HO560
             clear HO563
             clear HO567
             clear HO570
             clear HO573
             clear HO578
             clear HO582
             clear HO586
             clear BK555
             clear BK575
             clear HB
             have HO560 := n0_
             have HO563 := n1_
             have HO567 := n2_
             have HO570 := n3_
             have HO573 := n4_
             have HO578 := n5_
             have HO582 := n6_
             have HO586 := n7_
             have BK555 := n8_
             have BK575 := n9_
             have HB := n10_
             clear n0_ n1_ n2_ n3_ n4_ n5_ n6_ n7_ n8_ n9_ n10_
             (try clear hb)
             (try clear hb2)
             (try clear hk)
             (try clear hi)
             refine hK.out _ _ ⟨(blk_cell BK575.out 0).trans rfl, (blk_cell BK575.out 1).trans rfl, (blk_cell BK555.out 0).trans rfl, (blk_cell BK555.out 1).trans rfl⟩ (fun hHeld => ?_)
             clear hK K
             refine norm_ (a' := ?_) ?_ ?_
             rotate_left
             ·
              show Act.put _ (some 48) _ = _
              simp only [Act.put, List.setIfInBounds_toArray, List.set_cons_zero, List.set_cons_succ, i64_w, i32_w]
              rfl
             refine pure_ (i := 4) (N := some 49) (v := ?_) (a' := ?_) #[true, true, true, true, true] rfl rfl (by kernel_rfl) (fun _ _ _ h => h) (Or.inl ⟨by rfl, ?_⟩) ?_ ?_
             rotate_left
             ·
              intro w'
              go_simp
              with_reducible rfl
             rotate_left
             ·
              simp only [Act.put, List.setIfInBounds_toArray, List.set_cons_zero, List.set_cons_succ, i64_w, i32_w]
              rfl
             refine done_ (by kernel_rfl) ?_
             obtain ⟨PXP81, hPXP81, hPlP81⟩ := Kd.S_fp HO570.out
             try go_wp2_with (first | ((with_reducible refine gate_callee (f := 39) rfl ?_); refine goesL_ (some 52) rfl rfl Try.func39 (by kernel_rfl) rfl #[.slice Ao66 t568.length co66, .int .i64 1] rfl (by (try simp only [List.map_toArray, List.map_cons, List.map_nil]); first | done | rfl | (simp only [List.length_drop, List.length_take]; rfl)) ?_; (with_reducible refine (laws_markAlarmS.calls k PXP81 (.slice Ao66 t568.length co66) t568 1 t589 t590 w _ ?side1 ?side2 A27.out).mono ?_); (case side1 => repeat (first | (with_reducible first | exact HB.out | apply below_alloc | apply pw_below_drewN | apply below_drew1 | refine below_set ?_ GE555.out | refine below_set ?_ GE575.out) | exact HB.out)); (case side2 => exact hPXP81); rintro e w82 ⟨rfl, hy0, hb, hkp⟩; refine ⟨_, rfl, ?_⟩; have n0_ := Aside0.mk (blk_kept (by (with_reducible repeat (first | refine blk_drewN ?_ _ | refine blk_drew ?_ | refine blk_alloc ?_ _)); exact BK555.out) hkp (fun hs_ => (fun e_ => no_blk (by (with_reducible repeat (first | refine blk_drewN ?_ _ | refine blk_drew ?_ | refine blk_alloc ?_ _)); exact BK555.out) (by decide) (hPlP81 _ e_).2.2) hs_)); have n1_ := Aside0.mk (Kd.S_mono (ok' := fun k_ => some k_ ≠ (.slice Ao54 t561.length co54 : Value).ownBlock ∧ some k_ ≠ (.slice Ao70 t565.length co70 : Value).ownBlock ∧ some k_ ≠ (.slice Ao66 t568.length co66 : Value).ownBlock ∧ some k_ ≠ (.slice Ao63 t571.length co63 : Value).ownBlock ∧ some k_ ≠ (.slice Ao69 t576.length co69 : Value).ownBlock ∧ some k_ ≠ (.slice Ao74 t580.length co74 : Value).ownBlock ∧ some k_ ≠ (.slice Ao79 t584.length co79 : Value).ownBlock ∧ nz50 ≤ k_ ∧ k_ < nz52 ∧ k_ < nz56 ∧ k_ < nz58 ∧ k_ < nz61 ∧ k_ < nz68 ∧ k_ < nz73 ∧ k_ < nz78) (Kd.S_keptB (HO560.out) hkp (fun k_ hk_ hs_ => (fun e_ => Nat.lt_irrefl _ (Nat.lt_of_lt_of_le hk_.1.1.1.1.1.1.1.1.1.2 (hPlP81 _ e_).1.1.1.1.1.1.1.1.1.1.1.1.2)) hs_)) (fun k_ hk_ => ⟨hk_.1.1.1.1.1.1.1.1.1.1.1.1.1.2, hk_.1.1.1.1.1.1.1.1.1.1.1.2, hk_.1.1.1.1.1.1.1.1.1.2, hk_.1.1.1.1.1.1.1.2, hk_.1.1.1.1.1.2, hk_.1.1.1.2, hk_.1.2, hk_.1.1.1.1.1.1.1.1.1.1.1.1.1.1.1.2, hk_.1.1.1.1.1.1.1.1.1.1.1.1.1.1.2, hk_.1.1.1.1.1.1.1.1.1.1.1.1.2, hk_.1.1.1.1.1.1.1.1.1.1.2, hk_.1.1.1.1.1.1.1.1.2, hk_.1.1.1.1.1.1.2, hk_.1.1.1.1.2, hk_.1.1.2⟩)); have n2_ := Aside0.mk (Kd.S_mono (ok' := fun k_ => some k_ ≠ (.slice Ao53 t558.length co53 : Value).ownBlock ∧ some k_ ≠ (.slice Ao70 t565.length co70 : Value).ownBlock ∧ some k_ ≠ (.slice Ao66 t568.length co66 : Value).ownBlock ∧ some k_ ≠ (.slice Ao63 t571.length co63 : Value).ownBlock ∧ some k_ ≠ (.slice Ao69 t576.length co69 : Value).ownBlock ∧ some k_ ≠ (.slice Ao74 t580.length co74 : Value).ownBlock ∧ some k_ ≠ (.slice Ao79 t584.length co79 : Value).ownBlock ∧ nz52 ≤ k_ ∧ k_ < nz56 ∧ k_ < nz58 ∧ k_ < nz61 ∧ k_ < nz68 ∧ k_ < nz73 ∧ k_ < nz78) (Kd.S_keptB (HO563.out) hkp (fun k_ hk_ hs_ => (fun e_ => Nat.lt_irrefl _ (Nat.lt_of_lt_of_le hk_.1.1.1.1.1.1.1.1.1.2 (hPlP81 _ e_).1.1.1.1.1.1.1.1.1.1.1.1.2)) hs_)) (fun k_ hk_ => ⟨hk_.1.1.1.1.1.1.1.1.1.1.1.1.1.2, hk_.1.1.1.1.1.1.1.1.1.1.1.2, hk_.1.1.1.1.1.1.1.1.1.2, hk_.1.1.1.1.1.1.1.2, hk_.1.1.1.1.1.2, hk_.1.1.1.2, hk_.1.2, hk_.1.1.1.1.1.1.1.1.1.1.1.1.1.1.2, hk_.1.1.1.1.1.1.1.1.1.1.1.1.2, hk_.1.1.1.1.1.1.1.1.1.1.2, hk_.1.1.1.1.1.1.1.1.2, hk_.1.1.1.1.1.1.2, hk_.1.1.1.1.2, hk_.1.1.2⟩)); have n3_ := Aside0.mk (Kd.S_mono (ok' := fun k_ => some k_ ≠ (.slice Ao53 t558.length co53 : Value).ownBlock ∧ some k_ ≠ (.slice Ao54 t561.length co54 : Value).ownBlock ∧ some k_ ≠ (.slice Ao66 t568.length co66 : Value).ownBlock ∧ some k_ ≠ (.slice Ao63 t571.length co63 : Value).ownBlock ∧ some k_ ≠ (.slice Ao69 t576.length co69 : Value).ownBlock ∧ some k_ ≠ (.slice Ao74 t580.length co74 : Value).ownBlock ∧ some k_ ≠ (.slice Ao79 t584.length co79 : Value).ownBlock ∧ nz56 ≤ k_ ∧ k_ < nz58 ∧ k_ < nz61 ∧ k_ < nz68 ∧ k_ < nz73 ∧ k_ < nz78) (Kd.S_keptB (HO567.out) hkp (fun k_ hk_ hs_ => (fun e_ => Nat.lt_irrefl _ (Nat.lt_of_lt_of_le hk_.1.1.1.1.1.1.1.1.1.2 (hPlP81 _ e_).1.1.1.1.1.1.1.1.1.1.1.1.2)) hs_)) (fun k_ hk_ => ⟨hk_.1.1.1.1.1.1.1.1.1.1.1.1.2, hk_.1.1.1.1.1.1.1.1.1.1.1.2, hk_.1.1.1.1.1.1.1.1.1.2, hk_.1.1.1.1.1.1.1.2, hk_.1.1.1.1.1.2, hk_.1.1.1.2, hk_.1.2, hk_.1.1.1.1.1.1.1.1.1.1.1.1.1.2, hk_.1.1.1.1.1.1.1.1.1.1.2, hk_.1.1.1.1.1.1.1.1.2, hk_.1.1.1.1.1.1.2, hk_.1.1.1.1.2, hk_.1.1.2⟩)); have n4_ := Aside0.mk (Kd.S_mono hy0 (fun k_ hk_ => (hPlP81 k_ hk_).1)); have n5_ := Aside0.mk (Kd.S_mono (ok' := fun k_ => some k_ ≠ (.slice Ao53 t558.length co53 : Value).ownBlock ∧ some k_ ≠ (.slice Ao54 t561.length co54 : Value).ownBlock ∧ some k_ ≠ (.slice Ao70 t565.length co70 : Value).ownBlock ∧ some k_ ≠ (.slice Ao66 t568.length co66 : Value).ownBlock ∧ some k_ ≠ (.slice Ao69 t576.length co69 : Value).ownBlock ∧ some k_ ≠ (.slice Ao74 t580.length co74 : Value).ownBlock ∧ some k_ ≠ (.slice Ao79 t584.length co79 : Value).ownBlock ∧ nz61 ≤ k_ ∧ k_ < nz68 ∧ k_ < nz73 ∧ k_ < nz78) (Kd.S_keptB (HO573.out) hkp (fun k_ hk_ hs_ => (fun e_ => Nat.lt_irrefl _ (Nat.lt_of_lt_of_le (hPlP81 _ e_).1.1.1.1.1.1.1.1.2 hk_.1.1.1.1.1.1.1.1.1.1.2)) hs_)) (fun k_ hk_ => ⟨hk_.1.1.1.1.1.1.1.1.1.1.2, hk_.1.1.1.1.1.1.1.1.1.2, hk_.1.1.1.1.1.1.1.1.2, hk_.1.1.1.1.1.1.1.2, hk_.1.1.1.1.1.2, hk_.1.1.1.2, hk_.1.2, hk_.1.1.1.1.1.1.1.1.1.1.1.2, hk_.1.1.1.1.1.1.2, hk_.1.1.1.1.2, hk_.1.1.2⟩)); have n6_ := Aside0.mk (blk_kept (by (with_reducible repeat (first | refine blk_drewN ?_ _ | refine blk_drew ?_ | refine blk_alloc ?_ _)); exact BK575.out) hkp (fun hs_ => (fun e_ => no_blk (by (with_reducible repeat (first | refine blk_drewN ?_ _ | refine blk_drew ?_ | refine blk_alloc ?_ _)); exact BK575.out) (by decide) (hPlP81 _ e_).2.2) hs_)); have n7_ := Aside0.mk (Kd.S_mono (ok' := fun k_ => some k_ ≠ (.slice Ao53 t558.length co53 : Value).ownBlock ∧ some k_ ≠ (.slice Ao54 t561.length co54 : Value).ownBlock ∧ some k_ ≠ (.slice Ao70 t565.length co70 : Value).ownBlock ∧ some k_ ≠ (.slice Ao66 t568.length co66 : Value).ownBlock ∧ some k_ ≠ (.slice Ao63 t571.length co63 : Value).ownBlock ∧ some k_ ≠ (.slice Ao74 t580.length co74 : Value).ownBlock ∧ some k_ ≠ (.slice Ao79 t584.length co79 : Value).ownBlock ∧ nz68 ≤ k_ ∧ k_ < nz73 ∧ k_ < nz78) (Kd.S_keptB (HO578.out) hkp (fun k_ hk_ hs_ => (fun e_ => Nat.lt_irrefl _ (Nat.lt_of_lt_of_le (hPlP81 _ e_).1.1.1.1.1.1.2 hk_.1.1.1.1.1.1.1.1.1.2)) hs_)) (fun k_ hk_ => ⟨hk_.1.1.1.1.1.1.1.1.1.2, hk_.1.1.1.1.1.1.1.1.2, hk_.1.1.1.1.1.1.1.2, hk_.1.1.1.1.1.1.2, hk_.1.1.1.1.1.2, hk_.1.1.1.2, hk_.1.2, hk_.1.1.1.1.1.1.1.1.1.1.2, hk_.1.1.1.1.2, hk_.1.1.2⟩)); have n8_ := Aside0.mk (Kd.S_mono (ok' := fun k_ => some k_ ≠ (.slice Ao53 t558.length co53 : Value).ownBlock ∧ some k_ ≠ (.slice Ao54 t561.length co54 : Value).ownBlock ∧ some k_ ≠ (.slice Ao70 t565.length co70 : Value).ownBlock ∧ some k_ ≠ (.slice Ao66 t568.length co66 : Value).ownBlock ∧ some k_ ≠ (.slice Ao63 t571.length co63 : Value).ownBlock ∧ some k_ ≠ (.slice Ao69 t576.length co69 : Value).ownBlock ∧ some k_ ≠ (.slice Ao79 t584.length co79 : Value).ownBlock ∧ nz73 ≤ k_ ∧ k_ < nz78) (Kd.S_keptB (HO582.out) hkp (fun k_ hk_ hs_ => (fun e_ => Nat.lt_irrefl _ (Nat.lt_of_lt_of_le (hPlP81 _ e_).1.1.1.1.2 hk_.1.1.1.1.1.1.1.1.2)) hs_)) (fun k_ hk_ => ⟨hk_.1.1.1.1.1.1.1.1.2, hk_.1.1.1.1.1.1.1.2, hk_.1.1.1.1.1.1.2, hk_.1.1.1.1.1.2, hk_.1.1.1.1.2, hk_.1.1.1.2, hk_.1.2, hk_.1.1.1.1.1.1.1.1.1.2, hk_.1.1.2⟩)); have n9_ := Aside0.mk (Kd.S_mono (ok' := fun k_ => some k_ ≠ (.slice Ao53 t558.length co53 : Value).ownBlock ∧ some k_ ≠ (.slice Ao54 t561.length co54 : Value).ownBlock ∧ some k_ ≠ (.slice Ao70 t565.length co70 : Value).ownBlock ∧ some k_ ≠ (.slice Ao66 t568.length co66 : Value).ownBlock ∧ some k_ ≠ (.slice Ao63 t571.length co63 : Value).ownBlock ∧ some k_ ≠ (.slice Ao69 t576.length co69 : Value).ownBlock ∧ some k_ ≠ (.slice Ao74 t580.length co74 : Value).ownBlock ∧ nz78 ≤ k_) (Kd.S_keptB (HO586.out) hkp (fun k_ hk_ hs_ => (fun e_ => Nat.lt_irrefl _ (Nat.lt_of_lt_of_le (hPlP81 _ e_).1.1.2 hk_.1.1.1.1.1.1.1.2)) hs_)) (fun k_ hk_ => ⟨hk_.1.1.1.1.1.1.1.2, hk_.1.1.1.1.1.1.2, hk_.1.1.1.1.1.2, hk_.1.1.1.1.2, hk_.1.1.1.2, hk_.1.1.2, hk_.1.2, hk_.1.1.1.1.1.1.1.1.2⟩)); have n10_ := Aside0.mk (hb); clear BK555; clear HO560; clear HO563; clear HO567; clear HO570; clear HO573; clear BK575; clear HO578; clear HO582; clear HO586; clear HB; have BK555 := n0_; have HO560 := n1_; have HO563 := n2_; have HO567 := n3_; have HO570 := n4_; have HO573 := n5_; have BK575 := n6_; have HO578 := n7_; have HO582 := n8_; have HO586 := n9_; have HB := n10_; clear n0_ n1_ n2_ n3_ n4_ n5_ n6_ n7_ n8_ n9_ n10_; (try clear hb); (try clear hkp); (try clear hy0); have hcz83_0 : w82.cell? ⟨gb575, 0, none⟩ = some (.slice Ao63 t571.length co63) := (blk_cell BK575.out 0).trans rfl; have hcz83_1 : w82.cell? ⟨gb575, 1, none⟩ = some (.bool t574) := (blk_cell BK575.out 1).trans rfl; have hfz83_0 := blk_frozen BK575.out 0; have hfz83_1 := blk_frozen BK575.out 1; obtain ⟨PXP84, hPXP84, hPlP84⟩ := Kd.S_fp HO573.out) | ((with_reducible refine gate_callee (f := 28) rfl ?_); refine goesL_ (some 55) rfl rfl Try.func28 (by kernel_rfl) rfl #[.agg #[.slice Ao63 t571.length co63, .bool t574], .int .i64 t589] rfl (by (try simp only [List.map_toArray, List.map_cons, List.map_nil]); first | done | rfl | (simp only [List.length_drop, List.length_take]; rfl)) ?_; (with_reducible refine (laws_markSub.calls k PXP84 (.slice Ao63 t571.length co63) t571 t574 t589 t591 t592 w _ ?side1 ?side2 A28.out).mono ?_); (case side1 => repeat (first | (with_reducible first | exact HB.out | apply below_alloc | apply pw_below_drewN | apply below_drew1 | refine below_set ?_ GE555.out | refine below_set ?_ GE575.out) | exact HB.out)); (case side2 => exact hPXP84); rintro e w85 ⟨rfl, hy0, hb, hkp⟩; refine ⟨_, rfl, ?_⟩; have n0_ := Aside0.mk (blk_kept (by (with_reducible repeat (first | refine blk_drewN ?_ _ | refine blk_drew ?_ | refine blk_alloc ?_ _)); exact BK555.out) hkp (fun hs_ => (fun e_ => no_blk (by (with_reducible repeat (first | refine blk_drewN ?_ _ | refine blk_drew ?_ | refine blk_alloc ?_ _)); exact BK555.out) (by decide) (hPlP84 _ e_).2.2) hs_)); have n1_ := Aside0.mk (Kd.S_mono (ok' := fun k_ => some k_ ≠ (.slice Ao54 t561.length co54 : Value).ownBlock ∧ some k_ ≠ (.slice Ao70 t565.length co70 : Value).ownBlock ∧ some k_ ≠ (.slice Ao66 t568.length co66 : Value).ownBlock ∧ some k_ ≠ (.slice Ao63 t571.length co63 : Value).ownBlock ∧ some k_ ≠ (.slice Ao69 t576.length co69 : Value).ownBlock ∧ some k_ ≠ (.slice Ao74 t580.length co74 : Value).ownBlock ∧ some k_ ≠ (.slice Ao79 t584.length co79 : Value).ownBlock ∧ nz50 ≤ k_ ∧ k_ < nz52 ∧ k_ < nz56 ∧ k_ < nz58 ∧ k_ < nz61 ∧ k_ < nz68 ∧ k_ < nz73 ∧ k_ < nz78) (Kd.S_keptB (HO560.out) hkp (fun k_ hk_ hs_ => (fun e_ => Nat.lt_irrefl _ (Nat.lt_of_lt_of_le hk_.2.2.2.2.2.2.2.2.2.2.2.1 (hPlP84 _ e_).1.2.2.2.2.2.2.2.1)) hs_)) (fun k_ hk_ => ⟨hk_.1.1, hk_.1.2.1, hk_.1.2.2.1, hk_.1.2.2.2.1, hk_.1.2.2.2.2.1, hk_.1.2.2.2.2.2.1, hk_.1.2.2.2.2.2.2.1, hk_.1.2.2.2.2.2.2.2.1, hk_.1.2.2.2.2.2.2.2.2.1, hk_.1.2.2.2.2.2.2.2.2.2.1, hk_.1.2.2.2.2.2.2.2.2.2.2.1, hk_.1.2.2.2.2.2.2.2.2.2.2.2.1, hk_.1.2.2.2.2.2.2.2.2.2.2.2.2.1, hk_.1.2.2.2.2.2.2.2.2.2.2.2.2.2.1, hk_.1.2.2.2.2.2.2.2.2.2.2.2.2.2.2⟩)); have n2_ := Aside0.mk (Kd.S_mono (ok' := fun k_ => some k_ ≠ (.slice Ao53 t558.length co53 : Value).ownBlock ∧ some k_ ≠ (.slice Ao70 t565.length co70 : Value).ownBlock ∧ some k_ ≠ (.slice Ao66 t568.length co66 : Value).ownBlock ∧ some k_ ≠ (.slice Ao63 t571.length co63 : Value).ownBlock ∧ some k_ ≠ (.slice Ao69 t576.length co69 : Value).ownBlock ∧ some k_ ≠ (.slice Ao74 t580.length co74 : Value).ownBlock ∧ some k_ ≠ (.slice Ao79 t584.length co79 : Value).ownBlock ∧ nz52 ≤ k_ ∧ k_ < nz56 ∧ k_ < nz58 ∧ k_ < nz61 ∧ k_ < nz68 ∧ k_ < nz73 ∧ k_ < nz78) (Kd.S_keptB (HO563.out) hkp (fun k_ hk_ hs_ => (fun e_ => Nat.lt_irrefl _ (Nat.lt_of_lt_of_le hk_.2.2.2.2.2.2.2.2.2.2.1 (hPlP84 _ e_).1.2.2.2.2.2.2.2.1)) hs_)) (fun k_ hk_ => ⟨hk_.1.1, hk_.1.2.1, hk_.1.2.2.1, hk_.1.2.2.2.1, hk_.1.2.2.2.2.1, hk_.1.2.2.2.2.2.1, hk_.1.2.2.2.2.2.2.1, hk_.1.2.2.2.2.2.2.2.1, hk_.1.2.2.2.2.2.2.2.2.1, hk_.1.2.2.2.2.2.2.2.2.2.1, hk_.1.2.2.2.2.2.2.2.2.2.2.1, hk_.1.2.2.2.2.2.2.2.2.2.2.2.1, hk_.1.2.2.2.2.2.2.2.2.2.2.2.2.1, hk_.1.2.2.2.2.2.2.2.2.2.2.2.2.2⟩)); have n3_ := Aside0.mk (Kd.S_mono (ok' := fun k_ => some k_ ≠ (.slice Ao53 t558.length co53 : Value).ownBlock ∧ some k_ ≠ (.slice Ao54 t561.length co54 : Value).ownBlock ∧ some k_ ≠ (.slice Ao66 t568.length co66 : Value).ownBlock ∧ some k_ ≠ (.slice Ao63 t571.length co63 : Value).ownBlock ∧ some k_ ≠ (.slice Ao69 t576.length co69 : Value).ownBlock ∧ some k_ ≠ (.slice Ao74 t580.length co74 : Value).ownBlock ∧ some k_ ≠ (.slice Ao79 t584.length co79 : Value).ownBlock ∧ nz56 ≤ k_ ∧ k_ < nz58 ∧ k_ < nz61 ∧ k_ < nz68 ∧ k_ < nz73 ∧ k_ < nz78) (Kd.S_keptB (HO567.out) hkp (fun k_ hk_ hs_ => (fun e_ => Nat.lt_irrefl _ (Nat.lt_of_lt_of_le hk_.2.2.2.2.2.2.2.2.2.1 (hPlP84 _ e_).1.2.2.2.2.2.2.2.1)) hs_)) (fun k_ hk_ => ⟨hk_.1.1, hk_.1.2.1, hk_.1.2.2.1, hk_.1.2.2.2.1, hk_.1.2.2.2.2.1, hk_.1.2.2.2.2.2.1, hk_.1.2.2.2.2.2.2.1, hk_.1.2.2.2.2.2.2.2.1, hk_.1.2.2.2.2.2.2.2.2.1, hk_.1.2.2.2.2.2.2.2.2.2.1, hk_.1.2.2.2.2.2.2.2.2.2.2.1, hk_.1.2.2.2.2.2.2.2.2.2.2.2.1, hk_.1.2.2.2.2.2.2.2.2.2.2.2.2⟩)); have n4_ := Aside0.mk (Kd.S_mono (ok' := fun k_ => some k_ ≠ (.slice Ao53 t558.length co53 : Value).ownBlock ∧ some k_ ≠ (.slice Ao54 t561.length co54 : Value).ownBlock ∧ some k_ ≠ (.slice Ao70 t565.length co70 : Value).ownBlock ∧ some k_ ≠ (.slice Ao63 t571.length co63 : Value).ownBlock ∧ some k_ ≠ (.slice Ao69 t576.length co69 : Value).ownBlock ∧ some k_ ≠ (.slice Ao74 t580.length co74 : Value).ownBlock ∧ some k_ ≠ (.slice Ao79 t584.length co79 : Value).ownBlock ∧ nz58 ≤ k_ ∧ k_ < nz61 ∧ k_ < nz68 ∧ k_ < nz73 ∧ k_ < nz78) (Kd.S_keptB (HO570.out) hkp (fun k_ hk_ hs_ => (fun e_ => Nat.lt_irrefl _ (Nat.lt_of_lt_of_le hk_.1.1.1.1.1.1.1.2 (hPlP84 _ e_).1.2.2.2.2.2.2.2.1)) hs_)) (fun k_ hk_ => ⟨hk_.1.1.1.1.1.1.1.1.1.1.1.2, hk_.1.1.1.1.1.1.1.1.1.1.2, hk_.1.1.1.1.1.1.1.1.1.2, hk_.1.1.1.1.1.1.1.2, hk_.1.1.1.1.1.2, hk_.1.1.1.2, hk_.1.2, hk_.1.1.1.1.1.1.1.1.1.1.1.1.2, hk_.1.1.1.1.1.1.1.1.2, hk_.1.1.1.1.1.1.2, hk_.1.1.1.1.2, hk_.1.1.2⟩)); have n5_ := Aside0.mk (Kd.S_mono hy0 (fun k_ hk_ => (hPlP84 k_ hk_).1)); have n6_ := Aside0.mk (blk_kept (by (with_reducible repeat (first | refine blk_drewN ?_ _ | refine blk_drew ?_ | refine blk_alloc ?_ _)); exact BK575.out) hkp (fun hs_ => (fun e_ => no_blk (by (with_reducible repeat (first | refine blk_drewN ?_ _ | refine blk_drew ?_ | refine blk_alloc ?_ _)); exact BK575.out) (by decide) (hPlP84 _ e_).2.2) hs_)); have n7_ := Aside0.mk (Kd.S_mono (ok' := fun k_ => some k_ ≠ (.slice Ao53 t558.length co53 : Value).ownBlock ∧ some k_ ≠ (.slice Ao54 t561.length co54 : Value).ownBlock ∧ some k_ ≠ (.slice Ao70 t565.length co70 : Value).ownBlock ∧ some k_ ≠ (.slice Ao66 t568.length co66 : Value).ownBlock ∧ some k_ ≠ (.slice Ao63 t571.length co63 : Value).ownBlock ∧ some k_ ≠ (.slice Ao74 t580.length co74 : Value).ownBlock ∧ some k_ ≠ (.slice Ao79 t584.length co79 : Value).ownBlock ∧ nz68 ≤ k_ ∧ k_ < nz73 ∧ k_ < nz78) (Kd.S_keptB (HO578.out) hkp (fun k_ hk_ hs_ => (fun e_ => Nat.lt_irrefl _ (Nat.lt_of_lt_of_le (hPlP84 _ e_).1.2.2.2.2.2.2.2.2.1 hk_.2.2.2.2.2.2.2.1)) hs_)) (fun k_ hk_ => ⟨hk_.1.1, hk_.1.2.1, hk_.1.2.2.1, hk_.1.2.2.2.1, hk_.1.2.2.2.2.1, hk_.1.2.2.2.2.2.1, hk_.1.2.2.2.2.2.2.1, hk_.1.2.2.2.2.2.2.2.1, hk_.1.2.2.2.2.2.2.2.2.1, hk_.1.2.2.2.2.2.2.2.2.2⟩)); have n8_ := Aside0.mk (Kd.S_mono (ok' := fun k_ => some k_ ≠ (.slice Ao53 t558.length co53 : Value).ownBlock ∧ some k_ ≠ (.slice Ao54 t561.length co54 : Value).ownBlock ∧ some k_ ≠ (.slice Ao70 t565.length co70 : Value).ownBlock ∧ some k_ ≠ (.slice Ao66 t568.length co66 : Value).ownBlock ∧ some k_ ≠ (.slice Ao63 t571.length co63 : Value).ownBlock ∧ some k_ ≠ (.slice Ao69 t576.length co69 : Value).ownBlock ∧ some k_ ≠ (.slice Ao79 t584.length co79 : Value).ownBlock ∧ nz73 ≤ k_ ∧ k_ < nz78) (Kd.S_keptB (HO582.out) hkp (fun k_ hk_ hs_ => (fun e_ => Nat.lt_irrefl _ (Nat.lt_of_lt_of_le (hPlP84 _ e_).1.2.2.2.2.2.2.2.2.2.1 hk_.2.2.2.2.2.2.2.1)) hs_)) (fun k_ hk_ => ⟨hk_.1.1, hk_.1.2.1, hk_.1.2.2.1, hk_.1.2.2.2.1, hk_.1.2.2.2.2.1, hk_.1.2.2.2.2.2.1, hk_.1.2.2.2.2.2.2.1, hk_.1.2.2.2.2.2.2.2.1, hk_.1.2.2.2.2.2.2.2.2⟩)); have n9_ := Aside0.mk (Kd.S_mono (ok' := fun k_ => some k_ ≠ (.slice Ao53 t558.length co53 : Value).ownBlock ∧ some k_ ≠ (.slice Ao54 t561.length co54 : Value).ownBlock ∧ some k_ ≠ (.slice Ao70 t565.length co70 : Value).ownBlock ∧ some k_ ≠ (.slice Ao66 t568.length co66 : Value).ownBlock ∧ some k_ ≠ (.slice Ao63 t571.length co63 : Value).ownBlock ∧ some k_ ≠ (.slice Ao69 t576.length co69 : Value).ownBlock ∧ some k_ ≠ (.slice Ao74 t580.length co74 : Value).ownBlock ∧ nz78 ≤ k_) (Kd.S_keptB (HO586.out) hkp (fun k_ hk_ hs_ => (fun e_ => Nat.lt_irrefl _ (Nat.lt_of_lt_of_le (hPlP84 _ e_).1.2.2.2.2.2.2.2.2.2.2 hk_.2.2.2.2.2.2.2)) hs_)) (fun k_ hk_ => ⟨hk_.1.1, hk_.1.2.1, hk_.1.2.2.1, hk_.1.2.2.2.1, hk_.1.2.2.2.2.1, hk_.1.2.2.2.2.2.1, hk_.1.2.2.2.2.2.2.1, hk_.1.2.2.2.2.2.2.2⟩)); have n10_ := Aside0.mk (hb); clear BK555; clear HO560; clear HO563; clear HO567; clear HO570; clear HO573; clear BK575; clear HO578; clear HO582; clear HO586; clear HB; have BK555 := n0_; have HO560 := n1_; have HO563 := n2_; have HO567 := n3_; have HO570 := n4_; have HO573 := n5_; have BK575 := n6_; have HO578 := n7_; have HO582 := n8_; have HO586 := n9_; have HB := n10_; clear n0_ n1_ n2_ n3_ n4_ n5_ n6_ n7_ n8_ n9_ n10_; (try clear hb); (try clear hkp); (try clear hy0)) | (go_at_call 38; (with_reducible refine (laws_eqAlarmS.calls k _ _ t576 _ _ t565 true _ ?side1 ?side2 ?side3 ?side4 A30.out).mono ?_); (case side1 => repeat (first | exact (Kd.S_reads' HO578.out).2.2 | (with_reducible refine Kd.C_alloc ?_ _) | (with_reducible refine Kd.C_drewN ?_ _) | (with_reducible refine Kd.C_drew ?_))); (case side2 => exact (Kd.S_reads' HO578.out).2.1); (case side3 => repeat (first | exact (Kd.S_reads' HO567.out).2.2 | (with_reducible refine Kd.C_alloc ?_ _) | (with_reducible refine Kd.C_drewN ?_ _) | (with_reducible refine Kd.C_drew ?_))); (case side4 => exact (Kd.S_reads' HO567.out).2.1); rintro e w86 ⟨rfl, hb⟩; have n0_ := Aside0.mk (Kd.S_below (by (with_reducible repeat (first | apply Kd.S_alloc | apply Kd.S_drewN | apply Kd.S_drew)); exact HO560.out) hb); have n1_ := Aside0.mk (Kd.S_below (by (with_reducible repeat (first | apply Kd.S_alloc | apply Kd.S_drewN | apply Kd.S_drew)); exact HO563.out) hb); have n2_ := Aside0.mk (Kd.S_below (by (with_reducible repeat (first | apply Kd.S_alloc | apply Kd.S_drewN | apply Kd.S_drew)); exact HO567.out) hb); have n3_ := Aside0.mk (Kd.S_below (by (with_reducible repeat (first | apply Kd.S_alloc | apply Kd.S_drewN | apply Kd.S_drew)); exact HO570.out) hb); have n4_ := Aside0.mk (Kd.S_below (by (with_reducible repeat (first | apply Kd.S_alloc | apply Kd.S_drewN | apply Kd.S_drew)); exact HO573.out) hb); have n5_ := Aside0.mk (Kd.S_below (by (with_reducible repeat (first | apply Kd.S_alloc | apply Kd.S_drewN | apply Kd.S_drew)); exact HO578.out) hb); have n6_ := Aside0.mk (Kd.S_below (by (with_reducible repeat (first | apply Kd.S_alloc | apply Kd.S_drewN | apply Kd.S_drew)); exact HO582.out) hb); have n7_ := Aside0.mk (Kd.S_below (by (with_reducible repeat (first | apply Kd.S_alloc | apply Kd.S_drewN | apply Kd.S_drew)); exact HO586.out) hb); have n8_ := Aside0.mk (blk_below (g := gb555) (o := .cells #[.slice A1_0 l1_0.length c1_0, .bool a1_1] 31 (0, 0)) (by (with_reducible repeat (first | refine blk_drewN ?_ _ | refine blk_drew ?_ | refine blk_alloc ?_ _)); exact BK555.out) hb); have n9_ := Aside0.mk (blk_below (g := gb575) (o := .cells #[.slice Ao63 t571.length co63, .bool t574] 39 (0, 0)) (by (with_reducible repeat (first | refine blk_drewN ?_ _ | refine blk_drew ?_ | refine blk_alloc ?_ _)); exact BK575.out) hb); have n10_ := Aside0.mk (below_step (by repeat (first | (with_reducible first | exact HB.out | apply below_alloc | apply pw_below_drewN | apply below_drew1 | refine below_set ?_ GE555.out | refine below_set ?_ GE575.out) | exact HB.out)) hb); clear HO560; clear HO563; clear HO567; clear HO570; clear HO573; clear HO578; clear HO582; clear HO586; clear BK555; clear BK575; clear HB; have HO560 := n0_; have HO563 := n1_; have HO567 := n2_; have HO570 := n3_; have HO573 := n4_; have HO578 := n5_; have HO582 := n6_; have HO586 := n7_; have BK555 := n8_; have BK575 := n9_; have HB := n10_; clear n0_ n1_ n2_ n3_ n4_ n5_ n6_ n7_ n8_ n9_ n10_; (try clear hb); (try clear hb2); (try clear hk); (try clear hi); obtain ⟨PXP87, hPXP87, hPlP87⟩ := Kd.S_fp HO578.out) | ((with_reducible refine gate_callee (f := 39) rfl ?_); refine goesL_ (some 66) rfl rfl Try.func39 (by kernel_rfl) rfl #[.slice Ao69 t576.length co69, .int .i64 1] rfl (by (try simp only [List.map_toArray, List.map_cons, List.map_nil]); first | done | rfl | (simp only [List.length_drop, List.length_take]; rfl)) ?_; (with_reducible refine (laws_markAlarmS.calls k PXP87 (.slice Ao69 t576.length co69) t576 1 t594 t595 w _ ?side1 ?side2 A32.out).mono ?_); (case side1 => repeat (first | (with_reducible first | exact HB.out | apply below_alloc | apply pw_below_drewN | apply below_drew1 | refine below_set ?_ GE555.out | refine below_set ?_ GE575.out) | exact HB.out)); (case side2 => exact hPXP87); rintro e w88 ⟨rfl, hy0, hb, hkp⟩; refine ⟨_, rfl, ?_⟩; have n0_ := Aside0.mk (blk_kept (by (with_reducible repeat (first | refine blk_drewN ?_ _ | refine blk_drew ?_ | refine blk_alloc ?_ _)); exact BK555.out) hkp (fun hs_ => (fun e_ => no_blk (by (with_reducible repeat (first | refine blk_drewN ?_ _ | refine blk_drew ?_ | refine blk_alloc ?_ _)); exact BK555.out) (by decide) (hPlP87 _ e_).2.2) hs_)); have n1_ := Aside0.mk (Kd.S_mono (ok' := fun k_ => some k_ ≠ (.slice Ao54 t561.length co54 : Value).ownBlock ∧ some k_ ≠ (.slice Ao70 t565.length co70 : Value).ownBlock ∧ some k_ ≠ (.slice Ao66 t568.length co66 : Value).ownBlock ∧ some k_ ≠ (.slice Ao63 t571.length co63 : Value).ownBlock ∧ some k_ ≠ (.slice Ao69 t576.length co69 : Value).ownBlock ∧ some k_ ≠ (.slice Ao74 t580.length co74 : Value).ownBlock ∧ some k_ ≠ (.slice Ao79 t584.length co79 : Value).ownBlock ∧ nz50 ≤ k_ ∧ k_ < nz52 ∧ k_ < nz56 ∧ k_ < nz58 ∧ k_ < nz61 ∧ k_ < nz68 ∧ k_ < nz73 ∧ k_ < nz78) (Kd.S_keptB (HO560.out) hkp (fun k_ hk_ hs_ => (fun e_ => Nat.lt_irrefl _ (Nat.lt_of_lt_of_le hk_.2.2.2.2.2.2.2.2.2.2.2.2.1 (hPlP87 _ e_).1.2.2.2.2.2.2.2.1)) hs_)) (fun k_ hk_ => ⟨hk_.1.1, hk_.1.2.1, hk_.1.2.2.1, hk_.1.2.2.2.1, hk_.1.2.2.2.2.1, hk_.1.2.2.2.2.2.1, hk_.1.2.2.2.2.2.2.1, hk_.1.2.2.2.2.2.2.2.1, hk_.1.2.2.2.2.2.2.2.2.1, hk_.1.2.2.2.2.2.2.2.2.2.1, hk_.1.2.2.2.2.2.2.2.2.2.2.1, hk_.1.2.2.2.2.2.2.2.2.2.2.2.1, hk_.1.2.2.2.2.2.2.2.2.2.2.2.2.1, hk_.1.2.2.2.2.2.2.2.2.2.2.2.2.2.1, hk_.1.2.2.2.2.2.2.2.2.2.2.2.2.2.2⟩)); have n2_ := Aside0.mk (Kd.S_mono (ok' := fun k_ => some k_ ≠ (.slice Ao53 t558.length co53 : Value).ownBlock ∧ some k_ ≠ (.slice Ao70 t565.length co70 : Value).ownBlock ∧ some k_ ≠ (.slice Ao66 t568.length co66 : Value).ownBlock ∧ some k_ ≠ (.slice Ao63 t571.length co63 : Value).ownBlock ∧ some k_ ≠ (.slice Ao69 t576.length co69 : Value).ownBlock ∧ some k_ ≠ (.slice Ao74 t580.length co74 : Value).ownBlock ∧ some k_ ≠ (.slice Ao79 t584.length co79 : Value).ownBlock ∧ nz52 ≤ k_ ∧ k_ < nz56 ∧ k_ < nz58 ∧ k_ < nz61 ∧ k_ < nz68 ∧ k_ < nz73 ∧ k_ < nz78) (Kd.S_keptB (HO563.out) hkp (fun k_ hk_ hs_ => (fun e_ => Nat.lt_irrefl _ (Nat.lt_of_lt_of_le hk_.2.2.2.2.2.2.2.2.2.2.2.1 (hPlP87 _ e_).1.2.2.2.2.2.2.2.1)) hs_)) (fun k_ hk_ => ⟨hk_.1.1, hk_.1.2.1, hk_.1.2.2.1, hk_.1.2.2.2.1, hk_.1.2.2.2.2.1, hk_.1.2.2.2.2.2.1, hk_.1.2.2.2.2.2.2.1, hk_.1.2.2.2.2.2.2.2.1, hk_.1.2.2.2.2.2.2.2.2.1, hk_.1.2.2.2.2.2.2.2.2.2.1, hk_.1.2.2.2.2.2.2.2.2.2.2.1, hk_.1.2.2.2.2.2.2.2.2.2.2.2.1, hk_.1.2.2.2.2.2.2.2.2.2.2.2.2.1, hk_.1.2.2.2.2.2.2.2.2.2.2.2.2.2⟩)); have n3_ := Aside0.mk (Kd.S_mono (ok' := fun k_ => some k_ ≠ (.slice Ao53 t558.length co53 : Value).ownBlock ∧ some k_ ≠ (.slice Ao54 t561.length co54 : Value).ownBlock ∧ some k_ ≠ (.slice Ao66 t568.length co66 : Value).ownBlock ∧ some k_ ≠ (.slice Ao63 t571.length co63 : Value).ownBlock ∧ some k_ ≠ (.slice Ao69 t576.length co69 : Value).ownBlock ∧ some k_ ≠ (.slice Ao74 t580.length co74 : Value).ownBlock ∧ some k_ ≠ (.slice Ao79 t584.length co79 : Value).ownBlock ∧ nz56 ≤ k_ ∧ k_ < nz58 ∧ k_ < nz61 ∧ k_ < nz68 ∧ k_ < nz73 ∧ k_ < nz78) (Kd.S_keptB (HO567.out) hkp (fun k_ hk_ hs_ => (fun e_ => Nat.lt_irrefl _ (Nat.lt_of_lt_of_le hk_.2.2.2.2.2.2.2.2.2.2.1 (hPlP87 _ e_).1.2.2.2.2.2.2.2.1)) hs_)) (fun k_ hk_ => ⟨hk_.1.1, hk_.1.2.1, hk_.1.2.2.1, hk_.1.2.2.2.1, hk_.1.2.2.2.2.1, hk_.1.2.2.2.2.2.1, hk_.1.2.2.2.2.2.2.1, hk_.1.2.2.2.2.2.2.2.1, hk_.1.2.2.2.2.2.2.2.2.1, hk_.1.2.2.2.2.2.2.2.2.2.1, hk_.1.2.2.2.2.2.2.2.2.2.2.1, hk_.1.2.2.2.2.2.2.2.2.2.2.2.1, hk_.1.2.2.2.2.2.2.2.2.2.2.2.2⟩)); have n4_ := Aside0.mk (Kd.S_mono (ok' := fun k_ => some k_ ≠ (.slice Ao53 t558.length co53 : Value).ownBlock ∧ some k_ ≠ (.slice Ao54 t561.length co54 : Value).ownBlock ∧ some k_ ≠ (.slice Ao70 t565.length co70 : Value).ownBlock ∧ some k_ ≠ (.slice Ao63 t571.length co63 : Value).ownBlock ∧ some k_ ≠ (.slice Ao69 t576.length co69 : Value).ownBlock ∧ some k_ ≠ (.slice Ao74 t580.length co74 : Value).ownBlock ∧ some k_ ≠ (.slice Ao79 t584.length co79 : Value).ownBlock ∧ nz58 ≤ k_ ∧ k_ < nz61 ∧ k_ < nz68 ∧ k_ < nz73 ∧ k_ < nz78) (Kd.S_keptB (HO570.out) hkp (fun k_ hk_ hs_ => (fun e_ => Nat.lt_irrefl _ (Nat.lt_of_lt_of_le hk_.2.2.2.2.2.2.2.2.2.1 (hPlP87 _ e_).1.2.2.2.2.2.2.2.1)) hs_)) (fun k_ hk_ => ⟨hk_.1.1, hk_.1.2.1, hk_.1.2.2.1, hk_.1.2.2.2.1, hk_.1.2.2.2.2.1, hk_.1.2.2.2.2.2.1, hk_.1.2.2.2.2.2.2.1, hk_.1.2.2.2.2.2.2.2.1, hk_.1.2.2.2.2.2.2.2.2.1, hk_.1.2.2.2.2.2.2.2.2.2.1, hk_.1.2.2.2.2.2.2.2.2.2.2.1, hk_.1.2.2.2.2.2.2.2.2.2.2.2⟩)); have n5_ := Aside0.mk (Kd.S_mono (ok' := fun k_ => some k_ ≠ (.slice Ao53 t558.length co53 : Value).ownBlock ∧ some k_ ≠ (.slice Ao54 t561.length co54 : Value).ownBlock ∧ some k_ ≠ (.slice Ao70 t565.length co70 : Value).ownBlock ∧ some k_ ≠ (.slice Ao66 t568.length co66 : Value).ownBlock ∧ some k_ ≠ (.slice Ao69 t576.length co69 : Value).ownBlock ∧ some k_ ≠ (.slice Ao74 t580.length co74 : Value).ownBlock ∧ some k_ ≠ (.slice Ao79 t584.length co79 : Value).ownBlock ∧ nz61 ≤ k_ ∧ k_ < nz68 ∧ k_ < nz73 ∧ k_ < nz78) (Kd.S_keptB (HO573.out) hkp (fun k_ hk_ hs_ => (fun e_ => Nat.lt_irrefl _ (Nat.lt_of_lt_of_le hk_.2.2.2.2.2.2.2.2.1 (hPlP87 _ e_).1.2.2.2.2.2.2.2.1)) hs_)) (fun k_ hk_ => ⟨hk_.1.1, hk_.1.2.1, hk_.1.2.2.1, hk_.1.2.2.2.1, hk_.1.2.2.2.2.1, hk_.1.2.2.2.2.2.1, hk_.1.2.2.2.2.2.2.1, hk_.1.2.2.2.2.2.2.2.1, hk_.1.2.2.2.2.2.2.2.2.1, hk_.1.2.2.2.2.2.2.2.2.2.1, hk_.1.2.2.2.2.2.2.2.2.2.2⟩)); have n6_ := Aside0.mk (blk_kept (by (with_reducible repeat (first | refine blk_drewN ?_ _ | refine blk_drew ?_ | refine blk_alloc ?_ _)); exact BK575.out) hkp (fun hs_ => (fun e_ => no_blk (by (with_reducible repeat (first | refine blk_drewN ?_ _ | refine blk_drew ?_ | refine blk_alloc ?_ _)); exact BK575.out) (by decide) (hPlP87 _ e_).2.2) hs_)); have n7_ := Aside0.mk (Kd.S_mono hy0 (fun k_ hk_ => (hPlP87 k_ hk_).1)); have n8_ := Aside0.mk (Kd.S_mono (ok' := fun k_ => some k_ ≠ (.slice Ao53 t558.length co53 : Value).ownBlock ∧ some k_ ≠ (.slice Ao54 t561.length co54 : Value).ownBlock ∧ some k_ ≠ (.slice Ao70 t565.length co70 : Value).ownBlock ∧ some k_ ≠ (.slice Ao66 t568.length co66 : Value).ownBlock ∧ some k_ ≠ (.slice Ao63 t571.length co63 : Value).ownBlock ∧ some k_ ≠ (.slice Ao69 t576.length co69 : Value).ownBlock ∧ some k_ ≠ (.slice Ao79 t584.length co79 : Value).ownBlock ∧ nz73 ≤ k_ ∧ k_ < nz78) (Kd.S_keptB (HO582.out) hkp (fun k_ hk_ hs_ => (fun e_ => Nat.lt_irrefl _ (Nat.lt_of_lt_of_le (hPlP87 _ e_).1.2.2.2.2.2.2.2.2.1 hk_.2.2.2.2.2.2.2.1)) hs_)) (fun k_ hk_ => ⟨hk_.1.1, hk_.1.2.1, hk_.1.2.2.1, hk_.1.2.2.2.1, hk_.1.2.2.2.2.1, hk_.1.2.2.2.2.2.1, hk_.1.2.2.2.2.2.2.1, hk_.1.2.2.2.2.2.2.2.1, hk_.1.2.2.2.2.2.2.2.2⟩)); have n9_ := Aside0.mk (Kd.S_mono (ok' := fun k_ => some k_ ≠ (.slice Ao53 t558.length co53 : Value).ownBlock ∧ some k_ ≠ (.slice Ao54 t561.length co54 : Value).ownBlock ∧ some k_ ≠ (.slice Ao70 t565.length co70 : Value).ownBlock ∧ some k_ ≠ (.slice Ao66 t568.length co66 : Value).ownBlock ∧ some k_ ≠ (.slice Ao63 t571.length co63 : Value).ownBlock ∧ some k_ ≠ (.slice Ao69 t576.length co69 : Value).ownBlock ∧ some k_ ≠ (.slice Ao74 t580.length co74 : Value).ownBlock ∧ nz78 ≤ k_) (Kd.S_keptB (HO586.out) hkp (fun k_ hk_ hs_ => (fun e_ => Nat.lt_irrefl _ (Nat.lt_of_lt_of_le (hPlP87 _ e_).1.2.2.2.2.2.2.2.2.2 hk_.2.2.2.2.2.2.2)) hs_)) (fun k_ hk_ => ⟨hk_.1.1, hk_.1.2.1, hk_.1.2.2.1, hk_.1.2.2.2.1, hk_.1.2.2.2.2.1, hk_.1.2.2.2.2.2.1, hk_.1.2.2.2.2.2.2.1, hk_.1.2.2.2.2.2.2.2⟩)); have n10_ := Aside0.mk (hb); clear BK555; clear HO560; clear HO563; clear HO567; clear HO570; clear HO573; clear BK575; clear HO578; clear HO582; clear HO586; clear HB; have BK555 := n0_; have HO560 := n1_; have HO563 := n2_; have HO567 := n3_; have HO570 := n4_; have HO573 := n5_; have BK575 := n6_; have HO578 := n7_; have HO582 := n8_; have HO586 := n9_; have HB := n10_; clear n0_ n1_ n2_ n3_ n4_ n5_ n6_ n7_ n8_ n9_ n10_; (try clear hb); (try clear hkp); (try clear hy0)) | ((with_reducible refine gate_callee (f := 40) rfl ?_); refine goesL_ (some 69) rfl rfl Try.func40 (by kernel_rfl) rfl #[.slice Ao69 t595.length co69, .int .i64 1] rfl (by (try simp only [List.map_toArray, List.map_cons, List.map_nil]); first | done | (rw [show t595.length = t576.length from (Kd.S_reads' HO578.out).1.symm] <;> rfl) | rfl | (simp only [List.length_drop, List.length_take]; rfl)) ?_; (with_reducible refine (laws_heldAlarmS.calls k _ _ t595 1 t596 _ ?side1 ?side2 A33.out).mono ?_); (case side1 => repeat (first | exact (Kd.S_reads' HO578.out).2.2 | (with_reducible refine Kd.C_alloc ?_ _) | (with_reducible refine Kd.C_drewN ?_ _) | (with_reducible refine Kd.C_drew ?_))); (case side2 => rw [show t595.length = t576.length from (Kd.S_reads' HO578.out).1.symm]; exact (Kd.S_reads' HO578.out).2.1); rintro e w89 ⟨rfl, hb⟩; refine ⟨_, rfl, ?_⟩; have n0_ := Aside0.mk (Kd.S_below (by (with_reducible repeat (first | apply Kd.S_alloc | apply Kd.S_drewN | apply Kd.S_drew)); exact HO560.out) hb); have n1_ := Aside0.mk (Kd.S_below (by (with_reducible repeat (first | apply Kd.S_alloc | apply Kd.S_drewN | apply Kd.S_drew)); exact HO563.out) hb); have n2_ := Aside0.mk (Kd.S_below (by (with_reducible repeat (first | apply Kd.S_alloc | apply Kd.S_drewN | apply Kd.S_drew)); exact HO567.out) hb); have n3_ := Aside0.mk (Kd.S_below (by (with_reducible repeat (first | apply Kd.S_alloc | apply Kd.S_drewN | apply Kd.S_drew)); exact HO570.out) hb); have n4_ := Aside0.mk (Kd.S_below (by (with_reducible repeat (first | apply Kd.S_alloc | apply Kd.S_drewN | apply Kd.S_drew)); exact HO573.out) hb); have n5_ := Aside0.mk (Kd.S_below (by (with_reducible repeat (first | apply Kd.S_alloc | apply Kd.S_drewN | apply Kd.S_drew)); exact HO578.out) hb); have n6_ := Aside0.mk (Kd.S_below (by (with_reducible repeat (first | apply Kd.S_alloc | apply Kd.S_drewN | apply Kd.S_drew)); exact HO582.out) hb); have n7_ := Aside0.mk (Kd.S_below (by (with_reducible repeat (first | apply Kd.S_alloc | apply Kd.S_drewN | apply Kd.S_drew)); exact HO586.out) hb); have n8_ := Aside0.mk (blk_below (g := gb555) (o := .cells #[.slice A1_0 l1_0.length c1_0, .bool a1_1] 31 (0, 0)) (by (with_reducible repeat (first | refine blk_drewN ?_ _ | refine blk_drew ?_ | refine blk_alloc ?_ _)); exact BK555.out) hb); have n9_ := Aside0.mk (blk_below (g := gb575) (o := .cells #[.slice Ao63 t571.length co63, .bool t574] 39 (0, 0)) (by (with_reducible repeat (first | refine blk_drewN ?_ _ | refine blk_drew ?_ | refine blk_alloc ?_ _)); exact BK575.out) hb); have n10_ := Aside0.mk (below_step (by repeat (first | (with_reducible first | exact HB.out | apply below_alloc | apply pw_below_drewN | apply below_drew1 | refine below_set ?_ GE555.out | refine below_set ?_ GE575.out) | exact HB.out)) hb); clear HO560; clear HO563; clear HO567; clear HO570; clear HO573; clear HO578; clear HO582; clear HO586; clear BK555; clear BK575; clear HB; have HO560 := n0_; have HO563 := n1_; have HO567 := n2_; have HO570 := n3_; have HO573 := n4_; have HO578 := n5_; have HO582 := n6_; have HO586 := n7_; have BK555 := n8_; have BK575 := n9_; have HB := n10_; clear n0_ n1_ n2_ n3_ n4_ n5_ n6_ n7_ n8_ n9_ n10_; (try clear hb); (try clear hb2); (try clear hk); (try clear hi)))
             have n0_ := Aside0.mk (Kd.S_drew HO560.out)
             have n1_ := Aside0.mk (Kd.S_drew HO563.out)
             have n2_ := Aside0.mk (Kd.S_drew HO567.out)
             have n3_ := Aside0.mk (Kd.S_drew HO570.out)
             have n4_ := Aside0.mk (Kd.S_drew HO573.out)
             have n5_ := Aside0.mk (Kd.S_drew HO578.out)
             have n6_ := Aside0.mk (Kd.S_drew HO582.out)
             have n7_ := Aside0.mk (Kd.S_drew HO586.out)
             have n8_ := Aside0.mk (blk_drew BK555.out)
             have n9_ := Aside0.mk (blk_drew BK575.out)
             have n10_ := Aside0.mk (below_drew1 HB.out)
             clear HO560
             clear HO563
             clear HO567
             clear HO570
             clear HO573
             clear HO578
             clear HO582
             clear HO586
             clear BK555
             clear BK575
             clear HB
             have HO560 := n0_
             have HO563 := n1_
             have HO567 := n2_
             have HO570 := n3_
             have HO573 := n4_
             have HO578 := n5_
             have HO582 := n6_
             have HO586 := n7_
             have BK555 := n8_
             have BK575 := n9_
             have HB := n10_
             clear n0_ n1_ n2_ n3_ n4_ n5_ n6_ n7_ n8_ n9_ n10_
             refine start_ (n := 6) (S := fun w' => w'.cell? ⟨gb555, 0, none⟩ = some (.slice A1_0 l1_0.length c1_0) ∧ w'.cell? ⟨gb555, 1, none⟩ = some (.bool a1_1)) (ds := []) #[false, false, false, false, false, false] (by kernel_rfl) rfl rfl ⟨(blk_cell BK555.out 0).trans rfl, (blk_cell BK555.out 1).trans rfl⟩ (fun hHeld => ?_)
             generalize w89.drew = w90 at HO560 HO563 HO567 HO570 HO573 HO578 HO582 HO586 BK555 BK575 HB hHeld ⊢
             refine pure_ (i := 0) (N := some 75) (v := ?_) (a' := ?_) #[true, false, false, false, false, false] rfl rfl (by kernel_rfl) (fun _ _ _ h => h) (Or.inl ⟨by rfl, ?_⟩) ?_ ?_
             rotate_left
             ·
              intro w'
              go_simp
              with_reducible rfl
             rotate_left
             ·
              simp only [Act.put, List.setIfInBounds_toArray, List.set_cons_zero, List.set_cons_succ, i64_w, i32_w]
              rfl
             refine take_ (i := 2) (N := some 77) (v := ?_) (a' := ?_) #[true, false, true, false, false, false] rfl rfl (by kernel_rfl) (fun _ _ _ h => h) (Or.inl ⟨by rfl, ?_⟩) hHeld ?_ ?_
             rotate_left
             ·
              rintro w' ⟨s0, s1⟩
              go_simp
              with_reducible rfl
             rotate_left
             ·
              simp only [Act.put, List.setIfInBounds_toArray, List.set_cons_zero, List.set_cons_succ, i64_w, i32_w]
              rfl
             refine one_ (i := 1) (N := some 76) #[true, true, true, false, false, false] rfl rfl (by kernel_rfl) (by decide) (fun K hK => ?_)
             refine goes_ Try.func36 (by kernel_rfl) rfl #[.slice A0 l0.length c0] (by rfl) rfl rfl (by (try simp only [List.map_toArray, List.map_cons, List.map_nil]); first | done | rfl | (simp only [List.length_drop, List.length_take]; rfl)) ?_
             with_reducible refine (laws_toAlarmS.calls k _ _ l0 t597 _ ?side1 ?side2 A36.out).mono ?_
             (case side1 => repeat (first | exact (Kd.C_below HR0.out HB.out) | (with_reducible refine Kd.C_alloc ?_ _) | (with_reducible refine Kd.C_drewN ?_ _) | (with_reducible refine Kd.C_drew ?_)))
             (case side2 => exact HC0.out)
             rintro e w91 ⟨v598, rfl, ho0, hb⟩
             refine ⟨_, rfl, ?_⟩
             obtain ⟨nz92, hz92⟩ := Kd.S_name ho0
             have n0_ := Aside0.mk (Kd.S_elder' (Kd.S_ltz hz92 (by (with_reducible repeat (first | apply Kd.S_alloc | apply Kd.S_drewN | apply Kd.S_drew)); exact HO560.out)) (Kd.S_base ho0) hb)
             have n1_ := Aside0.mk (Kd.S_elder' (Kd.S_ltz hz92 (by (with_reducible repeat (first | apply Kd.S_alloc | apply Kd.S_drewN | apply Kd.S_drew)); exact HO563.out)) (Kd.S_base ho0) hb)
             have n2_ := Aside0.mk (Kd.S_elder' (Kd.S_ltz hz92 (by (with_reducible repeat (first | apply Kd.S_alloc | apply Kd.S_drewN | apply Kd.S_drew)); exact HO567.out)) (Kd.S_base ho0) hb)
             have n3_ := Aside0.mk (Kd.S_elder' (Kd.S_ltz hz92 (by (with_reducible repeat (first | apply Kd.S_alloc | apply Kd.S_drewN | apply Kd.S_drew)); exact HO570.out)) (Kd.S_base ho0) hb)
             have n4_ := Aside0.mk (Kd.S_elder' (Kd.S_ltz hz92 (by (with_reducible repeat (first | apply Kd.S_alloc | apply Kd.S_drewN | apply Kd.S_drew)); exact HO573.out)) (Kd.S_base ho0) hb)
             have n5_ := Aside0.mk (Kd.S_elder' (Kd.S_ltz hz92 (by (with_reducible repeat (first | apply Kd.S_alloc | apply Kd.S_drewN | apply Kd.S_drew)); exact HO578.out)) (Kd.S_base ho0) hb)
             have n6_ := Aside0.mk (Kd.S_elder' (Kd.S_ltz hz92 (by (with_reducible repeat (first | apply Kd.S_alloc | apply Kd.S_drewN | apply Kd.S_drew)); exact HO582.out)) (Kd.S_base ho0) hb)
             have n7_ := Aside0.mk (Kd.S_elder' (Kd.S_ltz hz92 (by (with_reducible repeat (first | apply Kd.S_alloc | apply Kd.S_drewN | apply Kd.S_drew)); exact HO586.out)) (Kd.S_base ho0) hb)
             have n8_ := Aside0.mk (Kd.S_lower (Kd.S_new' (Kd.S_new' (Kd.S_new' (Kd.S_new' (Kd.S_new' (Kd.S_new' (Kd.S_new' (Kd.S_new' (Kd.S_gez hz92 ho0) (Kd.S_lt (by (with_reducible repeat (first | apply Kd.S_alloc | apply Kd.S_drewN | apply Kd.S_drew)); exact HO560.out))) (Kd.S_lt (by (with_reducible repeat (first | apply Kd.S_alloc | apply Kd.S_drewN | apply Kd.S_drew)); exact HO563.out))) (Kd.S_lt (by (with_reducible repeat (first | apply Kd.S_alloc | apply Kd.S_drewN | apply Kd.S_drew)); exact HO567.out))) (Kd.S_lt (by (with_reducible repeat (first | apply Kd.S_alloc | apply Kd.S_drewN | apply Kd.S_drew)); exact HO570.out))) (Kd.S_lt (by (with_reducible repeat (first | apply Kd.S_alloc | apply Kd.S_drewN | apply Kd.S_drew)); exact HO573.out))) (Kd.S_lt (by (with_reducible repeat (first | apply Kd.S_alloc | apply Kd.S_drewN | apply Kd.S_drew)); exact HO578.out))) (Kd.S_lt (by (with_reducible repeat (first | apply Kd.S_alloc | apply Kd.S_drewN | apply Kd.S_drew)); exact HO582.out))) (Kd.S_lt (by (with_reducible repeat (first | apply Kd.S_alloc | apply Kd.S_drewN | apply Kd.S_drew)); exact HO586.out))) (below_size (by repeat (first | (with_reducible first | exact HB.out | apply below_alloc | apply pw_below_drewN | apply below_drew1 | refine below_set ?_ GE555.out | refine below_set ?_ GE575.out) | exact HB.out))))
             have n9_ := Aside0.mk (blk_below (g := gb555) (o := .cells #[.slice A1_0 l1_0.length c1_0, .bool a1_1] 31 (0, 0)) (by (with_reducible repeat (first | refine blk_drewN ?_ _ | refine blk_drew ?_ | refine blk_alloc ?_ _)); exact BK555.out) hb)
             have n10_ := Aside0.mk (blk_below (g := gb575) (o := .cells #[.slice Ao63 t571.length co63, .bool t574] 39 (0, 0)) (by (with_reducible repeat (first | refine blk_drewN ?_ _ | refine blk_drew ?_ | refine blk_alloc ?_ _)); exact BK575.out) hb)
             have n11_ := Aside0.mk (below_step (by repeat (first | (with_reducible first | exact HB.out | apply below_alloc | apply pw_below_drewN | apply below_drew1 | refine below_set ?_ GE555.out | refine below_set ?_ GE575.out) | exact HB.out)) hb)
             clear HO560
             clear HO563
             clear HO567
             clear HO570
             clear HO573
             clear HO578
             clear HO582
             clear HO586
             clear BK555
             clear BK575
             clear HB
             have HO560 := n0_
             have HO563 := n1_
             have HO567 := n2_
             have HO570 := n3_
             have HO573 := n4_
             have HO578 := n5_
             have HO582 := n6_
             have HO586 := n7_
             have HO599 := n8_
             have BK555 := n9_
             have BK575 := n10_
             have HB := n11_
             clear n0_ n1_ n2_ n3_ n4_ n5_ n6_ n7_ n8_ n9_ n10_ n11_
             (try clear hb)
             (try clear hb2)
             (try clear hk)
             (try clear hi)
             (try clear ho0)
             refine hK.out _ _ ⟨(blk_cell BK555.out 0).trans rfl, (blk_cell BK555.out 1).trans rfl⟩ (fun hHeld => ?_)
             clear hK K
             refine norm_ (a' := ?_) ?_ ?_
             rotate_left
             ·
              show Act.put _ (some 76) _ = _
              simp only [Act.put, List.setIfInBounds_toArray, List.set_cons_zero, List.set_cons_succ, i64_w, i32_w]
              rfl
             refine one_ (i := 3) (N := some 78) #[true, true, true, true, false, false] rfl rfl (by kernel_rfl) (by decide) (fun K hK => ?_)
             refine goes_ Try.func23 (by kernel_rfl) rfl #[.agg #[.slice A1_0 l1_0.length c1_0, .bool a1_1]] (by rfl) rfl rfl (by (try simp only [List.map_toArray, List.map_cons, List.map_nil]); first | done | rfl | (simp only [List.length_drop, List.length_take]; rfl)) ?_
             with_reducible refine (laws_toSub.calls k _ _ l1_0 a1_1 t600 t603 _ ?side1 ?side2 A37.out).mono ?_
             (case side1 => repeat (first | exact (Kd.C_below HR1_0.out HB.out) | (with_reducible refine Kd.C_alloc ?_ _) | (with_reducible refine Kd.C_drewN ?_ _) | (with_reducible refine Kd.C_drew ?_)))
             (case side2 => exact HC1_0.out)
             rintro e w93 ⟨v601, rfl, ho0, hb⟩
             refine ⟨_, rfl, ?_⟩
             obtain ⟨nz94, hz94⟩ := Kd.S_name ho0
             have n0_ := Aside0.mk (Kd.S_elder' (Kd.S_ltz hz94 (by (with_reducible repeat (first | apply Kd.S_alloc | apply Kd.S_drewN | apply Kd.S_drew)); exact HO560.out)) (Kd.S_base ho0) hb)
             have n1_ := Aside0.mk (Kd.S_elder' (Kd.S_ltz hz94 (by (with_reducible repeat (first | apply Kd.S_alloc | apply Kd.S_drewN | apply Kd.S_drew)); exact HO563.out)) (Kd.S_base ho0) hb)
             have n2_ := Aside0.mk (Kd.S_elder' (Kd.S_ltz hz94 (by (with_reducible repeat (first | apply Kd.S_alloc | apply Kd.S_drewN | apply Kd.S_drew)); exact HO567.out)) (Kd.S_base ho0) hb)
             have n3_ := Aside0.mk (Kd.S_elder' (Kd.S_ltz hz94 (by (with_reducible repeat (first | apply Kd.S_alloc | apply Kd.S_drewN | apply Kd.S_drew)); exact HO570.out)) (Kd.S_base ho0) hb)
             have n4_ := Aside0.mk (Kd.S_elder' (Kd.S_ltz hz94 (by (with_reducible repeat (first | apply Kd.S_alloc | apply Kd.S_drewN | apply Kd.S_drew)); exact HO573.out)) (Kd.S_base ho0) hb)
             have n5_ := Aside0.mk (Kd.S_elder' (Kd.S_ltz hz94 (by (with_reducible repeat (first | apply Kd.S_alloc | apply Kd.S_drewN | apply Kd.S_drew)); exact HO578.out)) (Kd.S_base ho0) hb)
             have n6_ := Aside0.mk (Kd.S_elder' (Kd.S_ltz hz94 (by (with_reducible repeat (first | apply Kd.S_alloc | apply Kd.S_drewN | apply Kd.S_drew)); exact HO582.out)) (Kd.S_base ho0) hb)
             have n7_ := Aside0.mk (Kd.S_elder' (Kd.S_ltz hz94 (by (with_reducible repeat (first | apply Kd.S_alloc | apply Kd.S_drewN | apply Kd.S_drew)); exact HO586.out)) (Kd.S_base ho0) hb)
             have n8_ := Aside0.mk (Kd.S_elder' (Kd.S_ltz hz94 (by (with_reducible repeat (first | apply Kd.S_alloc | apply Kd.S_drewN | apply Kd.S_drew)); exact HO599.out)) (Kd.S_base ho0) hb)
             have n9_ := Aside0.mk (Kd.S_lower (Kd.S_new' (Kd.S_new' (Kd.S_new' (Kd.S_new' (Kd.S_new' (Kd.S_new' (Kd.S_new' (Kd.S_new' (Kd.S_new' (Kd.S_gez hz94 ho0) (Kd.S_lt (by (with_reducible repeat (first | apply Kd.S_alloc | apply Kd.S_drewN | apply Kd.S_drew)); exact HO560.out))) (Kd.S_lt (by (with_reducible repeat (first | apply Kd.S_alloc | apply Kd.S_drewN | apply Kd.S_drew)); exact HO563.out))) (Kd.S_lt (by (with_reducible repeat (first | apply Kd.S_alloc | apply Kd.S_drewN | apply Kd.S_drew)); exact HO567.out))) (Kd.S_lt (by (with_reducible repeat (first | apply Kd.S_alloc | apply Kd.S_drewN | apply Kd.S_drew)); exact HO570.out))) (Kd.S_lt (by (with_reducible repeat (first | apply Kd.S_alloc | apply Kd.S_drewN | apply Kd.S_drew)); exact HO573.out))) (Kd.S_lt (by (with_reducible repeat (first | apply Kd.S_alloc | apply Kd.S_drewN | apply Kd.S_drew)); exact HO578.out))) (Kd.S_lt (by (with_reducible repeat (first | apply Kd.S_alloc | apply Kd.S_drewN | apply Kd.S_drew)); exact HO582.out))) (Kd.S_lt (by (with_reducible repeat (first | apply Kd.S_alloc | apply Kd.S_drewN | apply Kd.S_drew)); exact HO586.out))) (Kd.S_lt (by (with_reducible repeat (first | apply Kd.S_alloc | apply Kd.S_drewN | apply Kd.S_drew)); exact HO599.out))) (below_size (by repeat (first | (with_reducible first | exact HB.out | apply below_alloc | apply pw_below_drewN | apply below_drew1 | refine below_set ?_ GE555.out | refine below_set ?_ GE575.out) | exact HB.out))))
             have n10_ := Aside0.mk (blk_below (g := gb555) (o := .cells #[.slice A1_0 l1_0.length c1_0, .bool a1_1] 31 (0, 0)) (by (with_reducible repeat (first | refine blk_drewN ?_ _ | refine blk_drew ?_ | refine blk_alloc ?_ _)); exact BK555.out) hb)
             have n11_ := Aside0.mk (blk_below (g := gb575) (o := .cells #[.slice Ao63 t571.length co63, .bool t574] 39 (0, 0)) (by (with_reducible repeat (first | refine blk_drewN ?_ _ | refine blk_drew ?_ | refine blk_alloc ?_ _)); exact BK575.out) hb)
             have n12_ := Aside0.mk (below_step (by repeat (first | (with_reducible first | exact HB.out | apply below_alloc | apply pw_below_drewN | apply below_drew1 | refine below_set ?_ GE555.out | refine below_set ?_ GE575.out) | exact HB.out)) hb)
             clear HO560
             clear HO563
             clear HO567
             clear HO570
             clear HO573
             clear HO578
             clear HO582
             clear HO586
             clear HO599
             clear BK555
             clear BK575
             clear HB
             have HO560 := n0_
             have HO563 := n1_
             have HO567 := n2_
             have HO570 := n3_
             have HO573 := n4_
             have HO578 := n5_
             have HO582 := n6_
             have HO586 := n7_
             have HO599 := n8_
             have HO602 := n9_
             have BK555 := n10_
             have BK575 := n11_
             have HB := n12_
             clear n0_ n1_ n2_ n3_ n4_ n5_ n6_ n7_ n8_ n9_ n10_ n11_ n12_
             (try clear hb)
             (try clear hb2)
             (try clear hk)
             (try clear hi)
             (try clear ho0)
             obtain ⟨Ao95, co95, eo95⟩ := Kd.S_slice HO599.out
             (first | subst eo95 | (injection eo95 with f1_ f2_ f3_; have f4_ := f1_.symm; have f5_ := f3_.symm; clear f1_ f2_ f3_; subst f4_; subst f5_))
             obtain ⟨Ao96, co96, eo96⟩ := Kd.S_slice HO602.out
             (first | subst eo96 | (injection eo96 with f1_ f2_ f3_; have f4_ := f1_.symm; have f5_ := f3_.symm; clear f1_ f2_ f3_; subst f4_; subst f5_))
             refine hK.out _ _ ⟨(blk_cell BK555.out 0).trans rfl, (blk_cell BK555.out 1).trans rfl⟩ (fun hHeld => ?_)
             clear hK K
             refine norm_ (a' := ?_) ?_ ?_
             rotate_left
             ·
              show Act.put _ (some 78) _ = _
              simp only [Act.put, List.setIfInBounds_toArray, List.set_cons_zero, List.set_cons_succ, i64_w, i32_w]
              rfl
             refine one_ (i := 4) (N := some 79) #[true, true, true, true, true, false] rfl rfl (by kernel_rfl) (by decide) (fun K hK => ?_)
             refine goes_ Try.func37 (by kernel_rfl) rfl #[.slice Ao95 t597.length co95, .agg #[.slice Ao96 t600.length co96, .bool t603]] (by rfl) rfl rfl (by (try simp only [List.map_toArray, List.map_cons, List.map_nil]); first | done | rfl | (simp only [List.length_drop, List.length_take]; rfl)) ?_
             with_reducible refine (impl_Heard.calls k _ _ t597 _ _ t600 t603 t604 _ ?side1 ?side2 ?side3 ?side4 A38.out).mono ?_
             (case side1 => repeat (first | exact (Kd.S_reads' HO599.out).2.2 | (with_reducible refine Kd.C_alloc ?_ _) | (with_reducible refine Kd.C_drewN ?_ _) | (with_reducible refine Kd.C_drew ?_)))
             (case side2 => exact (Kd.S_reads' HO599.out).2.1)
             (case side3 => repeat (first | exact (Kd.S_reads' HO602.out).2.2 | (with_reducible refine Kd.C_alloc ?_ _) | (with_reducible refine Kd.C_drewN ?_ _) | (with_reducible refine Kd.C_drew ?_)))
             (case side4 => exact (Kd.S_reads' HO602.out).2.1)
             rintro e w97 ⟨v605, rfl, ho0, hb⟩
             refine ⟨_, rfl, ?_⟩
             obtain ⟨nz98, hz98⟩ := Kd.S_name ho0
             have n0_ := Aside0.mk (Kd.S_elder' (Kd.S_ltz hz98 (by (with_reducible repeat (first | apply Kd.S_alloc | apply Kd.S_drewN | apply Kd.S_drew)); exact HO560.out)) (Kd.S_base ho0) hb)
             have n1_ := Aside0.mk (Kd.S_elder' (Kd.S_ltz hz98 (by (with_reducible repeat (first | apply Kd.S_alloc | apply Kd.S_drewN | apply Kd.S_drew)); exact HO563.out)) (Kd.S_base ho0) hb)
             have n2_ := Aside0.mk (Kd.S_elder' (Kd.S_ltz hz98 (by (with_reducible repeat (first | apply Kd.S_alloc | apply Kd.S_drewN | apply Kd.S_drew)); exact HO567.out)) (Kd.S_base ho0) hb)
             have n3_ := Aside0.mk (Kd.S_elder' (Kd.S_ltz hz98 (by (with_reducible repeat (first | apply Kd.S_alloc | apply Kd.S_drewN | apply Kd.S_drew)); exact HO570.out)) (Kd.S_base ho0) hb)
             have n4_ := Aside0.mk (Kd.S_elder' (Kd.S_ltz hz98 (by (with_reducible repeat (first | apply Kd.S_alloc | apply Kd.S_drewN | apply Kd.S_drew)); exact HO573.out)) (Kd.S_base ho0) hb)
             have n5_ := Aside0.mk (Kd.S_elder' (Kd.S_ltz hz98 (by (with_reducible repeat (first | apply Kd.S_alloc | apply Kd.S_drewN | apply Kd.S_drew)); exact HO578.out)) (Kd.S_base ho0) hb)
             have n6_ := Aside0.mk (Kd.S_elder' (Kd.S_ltz hz98 (by (with_reducible repeat (first | apply Kd.S_alloc | apply Kd.S_drewN | apply Kd.S_drew)); exact HO582.out)) (Kd.S_base ho0) hb)
             have n7_ := Aside0.mk (Kd.S_elder' (Kd.S_ltz hz98 (by (with_reducible repeat (first | apply Kd.S_alloc | apply Kd.S_drewN | apply Kd.S_drew)); exact HO586.out)) (Kd.S_base ho0) hb)
             have n8_ := Aside0.mk (Kd.S_elder' (Kd.S_ltz hz98 (by (with_reducible repeat (first | apply Kd.S_alloc | apply Kd.S_drewN | apply Kd.S_drew)); exact HO599.out)) (Kd.S_base ho0) hb)
             have n9_ := Aside0.mk (Kd.S_elder' (Kd.S_ltz hz98 (by (with_reducible repeat (first | apply Kd.S_alloc | apply Kd.S_drewN | apply Kd.S_drew)); exact HO602.out)) (Kd.S_base ho0) hb)
             have n10_ := Aside0.mk (Kd.S_lower (Kd.S_new' (Kd.S_new' (Kd.S_new' (Kd.S_new' (Kd.S_new' (Kd.S_new' (Kd.S_new' (Kd.S_new' (Kd.S_new' (Kd.S_new' (Kd.S_gez hz98 ho0) (Kd.S_lt (by (with_reducible repeat (first | apply Kd.S_alloc | apply Kd.S_drewN | apply Kd.S_drew)); exact HO560.out))) (Kd.S_lt (by (with_reducible repeat (first | apply Kd.S_alloc | apply Kd.S_drewN | apply Kd.S_drew)); exact HO563.out))) (Kd.S_lt (by (with_reducible repeat (first | apply Kd.S_alloc | apply Kd.S_drewN | apply Kd.S_drew)); exact HO567.out))) (Kd.S_lt (by (with_reducible repeat (first | apply Kd.S_alloc | apply Kd.S_drewN | apply Kd.S_drew)); exact HO570.out))) (Kd.S_lt (by (with_reducible repeat (first | apply Kd.S_alloc | apply Kd.S_drewN | apply Kd.S_drew)); exact HO573.out))) (Kd.S_lt (by (with_reducible repeat (first | apply Kd.S_alloc | apply Kd.S_drewN | apply Kd.S_drew)); exact HO578.out))) (Kd.S_lt (by (with_reducible repeat (first | apply Kd.S_alloc | apply Kd.S_drewN | apply Kd.S_drew)); exact HO582.out))) (Kd.S_lt (by (with_reducible repeat (first | apply Kd.S_alloc | apply Kd.S_drewN | apply Kd.S_drew)); exact HO586.out))) (Kd.S_lt (by (with_reducible repeat (first | apply Kd.S_alloc | apply Kd.S_drewN | apply Kd.S_drew)); exact HO599.out))) (Kd.S_lt (by (with_reducible repeat (first | apply Kd.S_alloc | apply Kd.S_drewN | apply Kd.S_drew)); exact HO602.out))) (below_size (by repeat (first | (with_reducible first | exact HB.out | apply below_alloc | apply pw_below_drewN | apply below_drew1 | refine below_set ?_ GE555.out | refine below_set ?_ GE575.out) | exact HB.out))))
             have n11_ := Aside0.mk (blk_below (g := gb555) (o := .cells #[.slice A1_0 l1_0.length c1_0, .bool a1_1] 31 (0, 0)) (by (with_reducible repeat (first | refine blk_drewN ?_ _ | refine blk_drew ?_ | refine blk_alloc ?_ _)); exact BK555.out) hb)
             have n12_ := Aside0.mk (blk_below (g := gb575) (o := .cells #[.slice Ao63 t571.length co63, .bool t574] 39 (0, 0)) (by (with_reducible repeat (first | refine blk_drewN ?_ _ | refine blk_drew ?_ | refine blk_alloc ?_ _)); exact BK575.out) hb)
             have n13_ := Aside0.mk (below_step (by repeat (first | (with_reducible first | exact HB.out | apply below_alloc | apply pw_below_drewN | apply below_drew1 | refine below_set ?_ GE555.out | refine below_set ?_ GE575.out) | exact HB.out)) hb)
             clear HO560
             clear HO563
             clear HO567
             clear HO570
             clear HO573
             clear HO578
             clear HO582
             clear HO586
             clear HO599
             clear HO602
             clear BK555
             clear BK575
             clear HB
             have HO560 := n0_
             have HO563 := n1_
             have HO567 := n2_
             have HO570 := n3_
             have HO573 := n4_
             have HO578 := n5_
             have HO582 := n6_
             have HO586 := n7_
             have HO599 := n8_
             have HO602 := n9_
             have HO606 := n10_
             have BK555 := n11_
             have BK575 := n12_
             have HB := n13_
             clear n0_ n1_ n2_ n3_ n4_ n5_ n6_ n7_ n8_ n9_ n10_ n11_ n12_ n13_
             (try clear hb)
             (try clear hb2)
             (try clear hk)
             (try clear hi)
             (try clear ho0)
             refine hK.out _ _ ⟨(blk_cell BK555.out 0).trans rfl, (blk_cell BK555.out 1).trans rfl⟩ (fun hHeld => ?_)
             clear hK K
             refine norm_ (a' := ?_) ?_ ?_
             rotate_left
             ·
              show Act.put _ (some 79) _ = _
              simp only [Act.put, List.setIfInBounds_toArray, List.set_cons_zero, List.set_cons_succ, i64_w, i32_w]
              rfl
             refine pure_ (i := 5) (N := some 13) (v := ?_) (a' := ?_) #[true, true, true, true, true, true] rfl rfl (by kernel_rfl) (fun _ _ _ h => h) (Or.inl ⟨by rfl, ?_⟩) ?_ ?_
             rotate_left
             ·
              intro w'
              go_simp
              with_reducible rfl
             rotate_left
             ·
              simp only [Act.put, List.setIfInBounds_toArray, List.set_cons_zero, List.set_cons_succ, i64_w, i32_w]
              rfl
             refine done_ (by kernel_rfl) ?_
             obtain ⟨Ao99, co99, eo99⟩ := Kd.S_slice HO606.out
             subst eo99
             try go_wp2_with (first | ((with_reducible refine gate_callee (f := 38) rfl ?_); refine goesL_ (some 82) rfl rfl Try.func38 (by kernel_rfl) rfl #[.slice Ao99 t604.length co99, .slice Ao70 t565.length co70] rfl (by (try simp only [List.map_toArray, List.map_cons, List.map_nil]); first | done | rfl | (simp only [List.length_drop, List.length_take]; rfl)) ?_; (with_reducible refine (laws_eqAlarmS.calls k _ _ t604 _ _ t565 true _ ?side1 ?side2 ?side3 ?side4 A39.out).mono ?_); (case side1 => repeat (first | exact (Kd.S_reads' HO606.out).2.2 | (with_reducible refine Kd.C_alloc ?_ _) | (with_reducible refine Kd.C_drewN ?_ _) | (with_reducible refine Kd.C_drew ?_))); (case side2 => exact (Kd.S_reads' HO606.out).2.1); (case side3 => repeat (first | exact (Kd.S_reads' HO567.out).2.2 | (with_reducible refine Kd.C_alloc ?_ _) | (with_reducible refine Kd.C_drewN ?_ _) | (with_reducible refine Kd.C_drew ?_))); (case side4 => exact (Kd.S_reads' HO567.out).2.1); rintro e w100 ⟨rfl, hb⟩; refine ⟨_, rfl, ?_⟩; have n0_ := Aside0.mk (Kd.S_below (by (with_reducible repeat (first | apply Kd.S_alloc | apply Kd.S_drewN | apply Kd.S_drew)); exact HO560.out) hb); have n1_ := Aside0.mk (Kd.S_below (by (with_reducible repeat (first | apply Kd.S_alloc | apply Kd.S_drewN | apply Kd.S_drew)); exact HO563.out) hb); have n2_ := Aside0.mk (Kd.S_below (by (with_reducible repeat (first | apply Kd.S_alloc | apply Kd.S_drewN | apply Kd.S_drew)); exact HO567.out) hb); have n3_ := Aside0.mk (Kd.S_below (by (with_reducible repeat (first | apply Kd.S_alloc | apply Kd.S_drewN | apply Kd.S_drew)); exact HO570.out) hb); have n4_ := Aside0.mk (Kd.S_below (by (with_reducible repeat (first | apply Kd.S_alloc | apply Kd.S_drewN | apply Kd.S_drew)); exact HO573.out) hb); have n5_ := Aside0.mk (Kd.S_below (by (with_reducible repeat (first | apply Kd.S_alloc | apply Kd.S_drewN | apply Kd.S_drew)); exact HO578.out) hb); have n6_ := Aside0.mk (Kd.S_below (by (with_reducible repeat (first | apply Kd.S_alloc | apply Kd.S_drewN | apply Kd.S_drew)); exact HO582.out) hb); have n7_ := Aside0.mk (Kd.S_below (by (with_reducible repeat (first | apply Kd.S_alloc | apply Kd.S_drewN | apply Kd.S_drew)); exact HO586.out) hb); have n8_ := Aside0.mk (Kd.S_below (by (with_reducible repeat (first | apply Kd.S_alloc | apply Kd.S_drewN | apply Kd.S_drew)); exact HO599.out) hb); have n9_ := Aside0.mk (Kd.S_below (by (with_reducible repeat (first | apply Kd.S_alloc | apply Kd.S_drewN | apply Kd.S_drew)); exact HO602.out) hb); have n10_ := Aside0.mk (Kd.S_below (by (with_reducible repeat (first | apply Kd.S_alloc | apply Kd.S_drewN | apply Kd.S_drew)); exact HO606.out) hb); have n11_ := Aside0.mk (blk_below (g := gb555) (o := .cells #[.slice A1_0 l1_0.length c1_0, .bool a1_1] 31 (0, 0)) (by (with_reducible repeat (first | refine blk_drewN ?_ _ | refine blk_drew ?_ | refine blk_alloc ?_ _)); exact BK555.out) hb); have n12_ := Aside0.mk (blk_below (g := gb575) (o := .cells #[.slice Ao63 t571.length co63, .bool t574] 39 (0, 0)) (by (with_reducible repeat (first | refine blk_drewN ?_ _ | refine blk_drew ?_ | refine blk_alloc ?_ _)); exact BK575.out) hb); have n13_ := Aside0.mk (below_step (by repeat (first | (with_reducible first | exact HB.out | apply below_alloc | apply pw_below_drewN | apply below_drew1 | refine below_set ?_ GE555.out | refine below_set ?_ GE575.out) | exact HB.out)) hb); clear HO560; clear HO563; clear HO567; clear HO570; clear HO573; clear HO578; clear HO582; clear HO586; clear HO599; clear HO602; clear HO606; clear BK555; clear BK575; clear HB; have HO560 := n0_; have HO563 := n1_; have HO567 := n2_; have HO570 := n3_; have HO573 := n4_; have HO578 := n5_; have HO582 := n6_; have HO586 := n7_; have HO599 := n8_; have HO602 := n9_; have HO606 := n10_; have BK555 := n11_; have BK575 := n12_; have HB := n13_; clear n0_ n1_ n2_ n3_ n4_ n5_ n6_ n7_ n8_ n9_ n10_ n11_ n12_ n13_; (try clear hb); (try clear hb2); (try clear hk); (try clear hi)) | ((with_reducible refine gate_callee (f := 40) rfl ?_); refine goesL_ (some 86) rfl rfl Try.func40 (by kernel_rfl) rfl #[.slice Ao69 t595.length co69, .int .i64 1] rfl (by (try simp only [List.map_toArray, List.map_cons, List.map_nil]); first | done | (rw [show t595.length = t576.length from (Kd.S_reads' HO578.out).1.symm] <;> rfl) | rfl | (simp only [List.length_drop, List.length_take]; rfl)) ?_; (with_reducible refine (laws_heldAlarmS.calls k _ _ t595 1 t608 _ ?side1 ?side2 A41.out).mono ?_); (case side1 => repeat (first | exact (Kd.S_reads' HO578.out).2.2 | (with_reducible refine Kd.C_alloc ?_ _) | (with_reducible refine Kd.C_drewN ?_ _) | (with_reducible refine Kd.C_drew ?_))); (case side2 => rw [show t595.length = t576.length from (Kd.S_reads' HO578.out).1.symm]; exact (Kd.S_reads' HO578.out).2.1); rintro e w101 ⟨rfl, hb⟩; refine ⟨_, rfl, ?_⟩; have n0_ := Aside0.mk (Kd.S_below (by (with_reducible repeat (first | apply Kd.S_alloc | apply Kd.S_drewN | apply Kd.S_drew)); exact HO560.out) hb); have n1_ := Aside0.mk (Kd.S_below (by (with_reducible repeat (first | apply Kd.S_alloc | apply Kd.S_drewN | apply Kd.S_drew)); exact HO563.out) hb); have n2_ := Aside0.mk (Kd.S_below (by (with_reducible repeat (first | apply Kd.S_alloc | apply Kd.S_drewN | apply Kd.S_drew)); exact HO567.out) hb); have n3_ := Aside0.mk (Kd.S_below (by (with_reducible repeat (first | apply Kd.S_alloc | apply Kd.S_drewN | apply Kd.S_drew)); exact HO570.out) hb); have n4_ := Aside0.mk (Kd.S_below (by (with_reducible repeat (first | apply Kd.S_alloc | apply Kd.S_drewN | apply Kd.S_drew)); exact HO573.out) hb); have n5_ := Aside0.mk (Kd.S_below (by (with_reducible repeat (first | apply Kd.S_alloc | apply Kd.S_drewN | apply Kd.S_drew)); exact HO578.out) hb); have n6_ := Aside0.mk (Kd.S_below (by (with_reducible repeat (first | apply Kd.S_alloc | apply Kd.S_drewN | apply Kd.S_drew)); exact HO582.out) hb); have n7_ := Aside0.mk (Kd.S_below (by (with_reducible repeat (first | apply Kd.S_alloc | apply Kd.S_drewN | apply Kd.S_drew)); exact HO586.out) hb); have n8_ := Aside0.mk (Kd.S_below (by (with_reducible repeat (first | apply Kd.S_alloc | apply Kd.S_drewN | apply Kd.S_drew)); exact HO599.out) hb); have n9_ := Aside0.mk (Kd.S_below (by (with_reducible repeat (first | apply Kd.S_alloc | apply Kd.S_drewN | apply Kd.S_drew)); exact HO602.out) hb); have n10_ := Aside0.mk (Kd.S_below (by (with_reducible repeat (first | apply Kd.S_alloc | apply Kd.S_drewN | apply Kd.S_drew)); exact HO606.out) hb); have n11_ := Aside0.mk (blk_below (g := gb555) (o := .cells #[.slice A1_0 l1_0.length c1_0, .bool a1_1] 31 (0, 0)) (by (with_reducible repeat (first | refine blk_drewN ?_ _ | refine blk_drew ?_ | refine blk_alloc ?_ _)); exact BK555.out) hb); have n12_ := Aside0.mk (blk_below (g := gb575) (o := .cells #[.slice Ao63 t571.length co63, .bool t574] 39 (0, 0)) (by (with_reducible repeat (first | refine blk_drewN ?_ _ | refine blk_drew ?_ | refine blk_alloc ?_ _)); exact BK575.out) hb); have n13_ := Aside0.mk (below_step (by repeat (first | (with_reducible first | exact HB.out | apply below_alloc | apply pw_below_drewN | apply below_drew1 | refine below_set ?_ GE555.out | refine below_set ?_ GE575.out) | exact HB.out)) hb); clear HO560; clear HO563; clear HO567; clear HO570; clear HO573; clear HO578; clear HO582; clear HO586; clear HO599; clear HO602; clear HO606; clear BK555; clear BK575; clear HB; have HO560 := n0_; have HO563 := n1_; have HO567 := n2_; have HO570 := n3_; have HO573 := n4_; have HO578 := n5_; have HO582 := n6_; have HO586 := n7_; have HO599 := n8_; have HO602 := n9_; have HO606 := n10_; have BK555 := n11_; have BK575 := n12_; have HB := n13_; clear n0_ n1_ n2_ n3_ n4_ n5_ n6_ n7_ n8_ n9_ n10_ n11_ n12_ n13_; (try clear hb); (try clear hb2); (try clear hk); (try clear hi)))
             go_ret
             exact ⟨by first | rfl | (simp [errW_none, errW_some] <;> rfl) | (simp [*, errW_none, errW_some] <;> rfl), by repeat (first | (with_reducible first | exact HB.out | apply below_alloc | apply pw_below_drewN | apply below_drew1 | refine below_set ?_ GE555.out | refine below_set ?_ GE575.out) | exact HB.out)⟩
            ·
             rw [if_neg c43] at H
             exact absurd H (by simp)
          ·
           replace c40 := Bool.eq_false_iff.mpr c40
           subst c40
           have H1 : (none) = some r := by rw [if_neg (show ¬ (false = true) by decide)] at H; exact H
           clear H
           have H := H1
           clear H1
           exact absurd H (by simp)
         ·
          rw [if_neg c35] at H
          exact absurd H (by simp)
       ·
        replace c31 := Bool.eq_false_iff.mpr c31
        subst c31
        have H1 : (none) = some r := by rw [if_neg (show ¬ (false = true) by decide)] at H; exact H
        clear H
        have H := H1
        clear H1
        exact absurd H (by simp)
     ·
      replace c26 := Bool.eq_false_iff.mpr c26
      subst c26
      have H1 : (none) = some r := by rw [if_neg (show ¬ (false = true) by decide)] at H; exact H
      clear H
      have H := H1
      clear H1
      exact absurd H (by simp)
    ·
     replace c23 := Bool.eq_false_iff.mpr c23
     subst c23
     have H1 : (none) = some r := by rw [if_neg (show ¬ (false = true) by decide)] at H; exact H
     clear H
     have H := H1
     clear H1
     exact absurd H (by simp)
   ·
    replace c20 := Bool.eq_false_iff.mpr c20
    subst c20
    have H1 : (none) = some r := by rw [if_neg (show ¬ (false = true) by decide)] at H; exact H
    clear H
    have H := H1
    clear H1
    exact absurd H (by simp)

end Go.Proofs.Ytfholjcelnkleaa.Print
